/- Walks: texts of deeds, the program's; the law FnExactDeedText. -/
import Derived.Test.YtgphoihilheoeaaDoorHsWDd
namespace Go.Proofs.YtgphoihilheoeaaDoor
open Go.Hs
set_option maxRecDepth 10000
set_option maxHeartbeats 4000000
set_option linter.unusedVariables false
set_option linter.unusedSimpArgs false

theorem impl_deedText_ok (w : World) (k n : Int) (t : List UInt8) (hM : EMx gMx w (.bool true) ()) (ht : t.length ≤ 1048576) :
    Does Tryd.prog 44 [.agg #[.int .i64 k, str t, .int .i64 n]] w (Ret w (str (dtV ⟨k, t, n⟩))) := by
  obtain ⟨B, hB⟩ : ∃ B, B = (rdP t).isSome := ⟨_, rfl⟩
  have k1 : ∀ w, EMx gMx w (.bool true) () → Does Tryd.prog 73 [str t] w (RetOB w XR ((rdP t).getD []) B) := fun w hM => hB ▸ readPicture_ok w t hM ht
  have k2 : ∀ w, 0 ≤ n → n ≤ 9 → Does Tryd.prog 72 [.int .i64 n] w (Ret w (str [dig n.toNat])) := fun w h h' => by
    obtain ⟨d, rfl⟩ := Int.eq_ofNat_of_zero_le h
    exact Itoa_ok w d (by omega)
  refine fn_of_W1 Tryd.func44 rfl Tryd.results44 Tryd.ntmps44 rfl ?_
  focus
    refine W_seq ?_; refine W_region rfl ?_; refine Wo_box rfl rfl rfl ?_; rintro b1 w1 hb1 E1 hB1; have hlb1 := hB1.lt; have hs1 := E1.size; refine Wo rfl (opv_assign (v := .string _) rfl) ?_; refine Wo_nil ?_; refine W_seq ?_
    refine W_block ?_; refine W_seq ?_; refine W_region rfl ?_; refine Wo rfl (opv_fieldAddr Tryd.underlying26 rfl rfl Tryd.sizeOf3 rfl) ?_; refine Wo (v := .int _ _) rfl (opv_load Tryd.isAgg3 rfl (hB1.cell rfl)) ?_
    refine Wo rfl (opv_eql rfl rfl) ?_; refine Wo_split_dec rfl (opv_move (v := .bool _) rfl) (fun h1 => ?_) (fun h1 => ?_); refine Wo rfl (opv_fieldAddr Tryd.underlying26 rfl rfl Tryd.sizeOf9 rfl) ?_
    refine Wo (v := .string _) rfl (opv_load Tryd.isAgg9 rfl (hB1.cell rfl)) ?_; refine Wo rfl (opv_eql_str rfl rfl) ?_; refine Wo rfl (opv_pick_t (v := .bool _) rfl rfl) ?_
    refine Wo_split_dec rfl (opv_move (v := .bool _) rfl) (fun h2 => ?_) (fun h2 => ?_); refine Wo rfl (opv_fieldAddr Tryd.underlying26 rfl rfl Tryd.sizeOf3 rfl) ?_
    refine Wo (v := .int _ _) rfl (opv_load Tryd.isAgg3 rfl (hB1.cell rfl)) ?_; refine Wo rfl (opv_eql rfl rfl) ?_; refine Wo rfl (opv_pick_t (v := .bool _) rfl rfl) ?_; refine Wo rfl (opv_assign (v := .bool _) rfl) ?_; refine Wo_nil ?_
    refine W_cond_dec rfl (fun h3 => ?_) (fun h3 => ?_); refine W_seq ?_; refine W_region rfl ?_; refine Wo rfl (opv_assign (v := .string _) rfl) ?_; refine Wo_nil ?_; refine W_ret ?_; refine at_ret (v := .string _) rfl ?_
    refine ⟨congrArg str ?_, E1⟩; rotate_left; refine W_seq ?_; refine W_region rfl ?_; refine Wo rfl (opv_fieldAddr Tryd.underlying26 rfl rfl Tryd.sizeOf3 rfl) ?_
    refine Wo (v := .int _ _) rfl (opv_load Tryd.isAgg3 rfl (hB1.cell rfl)) ?_; refine Wo rfl (opv_eql rfl rfl) ?_; refine Wo_split_dec rfl (opv_move (v := .bool _) rfl) (fun h4 => ?_) (fun h4 => ?_); (exfalso; omega)
    refine Wo_skip rfl ?_; refine Wo_skip rfl ?_; refine Wo_skip rfl ?_; refine Wo rfl (opv_pick_f (v := .bool _) rfl rfl) ?_; refine Wo rfl (opv_move (v := .bool _) rfl) ?_; refine Wo_skip rfl ?_; refine Wo_skip rfl ?_
    refine Wo_skip rfl ?_; refine Wo rfl (opv_pick_f (v := .bool _) rfl rfl) ?_; refine Wo rfl (opv_assign (v := .bool _) rfl) ?_; refine Wo_nil ?_; refine W_cond_false rfl ?_; refine W_seq ?_; refine W_region rfl ?_
    refine Wo rfl (opv_fieldAddr Tryd.underlying26 rfl rfl Tryd.sizeOf3 rfl) ?_; refine Wo (v := .int _ _) rfl (opv_load Tryd.isAgg3 rfl (hB1.cell rfl)) ?_; refine Wo rfl (opv_eql rfl rfl) ?_
    refine Wo_split_dec rfl (opv_move (v := .bool _) rfl) (fun h5 => ?_) (fun h5 => ?_); (exfalso; omega); refine Wo_skip rfl ?_; refine Wo_skip rfl ?_; refine Wo_skip rfl ?_; refine Wo rfl (opv_pick_f (v := .bool _) rfl rfl) ?_
    refine Wo rfl (opv_move (v := .bool _) rfl) ?_; refine Wo_skip rfl ?_; refine Wo_skip rfl ?_; refine Wo_skip rfl ?_; refine Wo rfl (opv_pick_f (v := .bool _) rfl rfl) ?_; refine Wo rfl (opv_move (v := .bool _) rfl) ?_
    refine Wo_skip rfl ?_; refine Wo_skip rfl ?_; refine Wo_skip rfl ?_; refine Wo rfl (opv_pick_f (v := .bool _) rfl rfl) ?_; refine Wo rfl (opv_assign (v := .bool _) rfl) ?_; refine Wo_nil ?_; refine W_cond_false rfl ?_
    refine W_skip ?_; refine W_seq ?_; refine W_seq ?_; refine W_region rfl ?_; refine Wo rfl (opv_fieldAddr Tryd.underlying26 rfl rfl Tryd.sizeOf9 rfl) ?_; refine Wo (v := .string _) rfl (opv_load Tryd.isAgg9 rfl (hB1.cell rfl)) ?_
    refine Wo_call rfl (opc1 (a := .string _) Tryd.call73 rfl) (k1 _ ((Mono.mono E1 hM))) ?_; rintro _ w2 ⟨u1, rfl, E2, hO1⟩; have hs2 := E2.size; refine Wo rfl (opv_move (v := .tuple _) rfl) ?_
    refine Wo rfl (opv_extract (v := u1) rfl rfl) ?_; refine Wo rfl (opv_extract (v := .bool _) rfl rfl) ?_; refine Wo rfl (opv_assign (v := u1) rfl) ?_; refine Wo rfl (opv_assign (v := .bool _) rfl) ?_; refine Wo_nil ?_
    refine W_seq ?_; refine W_region rfl ?_; refine Wo rfl (opv_move (v := .bool _) rfl) ?_; refine Wo rfl (opv_not rfl) ?_; refine Wo_split rfl (opv_move (v := .bool _) rfl) (fun h6 => ?_) (fun h6 => ?_); refine Wo_skip rfl ?_
    refine Wo_skip rfl ?_; refine Wo_skip rfl ?_; refine Wo rfl (opv_pick_t (v := .bool _) rfl rfl) ?_; refine Wo_nil ?_; refine W_cond_true rfl ?_; refine W_seq ?_; refine W_region rfl ?_
    refine Wo rfl (opv_assign (v := .string _) rfl) ?_; refine Wo_nil ?_; refine W_ret ?_; refine at_ret (v := .string _) rfl ?_; refine ⟨congrArg str ?_, (E1.trans E2)⟩; rotate_left
    refine Wo rfl (opv_fieldAddr Tryd.underlying26 rfl rfl Tryd.sizeOf3 rfl) ?_; refine Wo (v := .int _ _) rfl (opv_load Tryd.isAgg3 rfl ((hB1.ext E2).cell rfl)) ?_; refine Wo rfl (opv_neq rfl rfl) ?_
    refine Wo rfl (opv_pick_f (v := .bool _) rfl rfl) ?_; refine Wo_nil ?_; refine W_cond_ndec rfl (fun h7 => ?_) (fun h7 => ?_); refine W_seq ?_; refine W_region rfl ?_; refine Wo rfl (opv_assign (v := .string _) rfl) ?_
    refine Wo_nil ?_; refine W_ret ?_; refine at_ret (v := .string _) rfl ?_; refine ⟨congrArg str ?_, (E1.trans E2)⟩; rotate_left; contradiction; refine Wo_skip rfl ?_; refine Wo_skip rfl ?_; refine Wo_skip rfl ?_
    refine Wo rfl (opv_pick_f (v := .bool _) rfl rfl) ?_; refine Wo rfl (opv_assign (v := .bool _) rfl) ?_; refine Wo_nil ?_; refine W_cond_false rfl ?_; refine W_seq ?_; refine W_region rfl ?_
    refine Wo rfl (opv_fieldAddr Tryd.underlying26 rfl rfl Tryd.sizeOf3 rfl) ?_; refine Wo (v := .int _ _) rfl (opv_load Tryd.isAgg3 rfl (hB1.cell rfl)) ?_; refine Wo rfl (opv_eql rfl rfl) ?_
    refine Wo_split_dec rfl (opv_move (v := .bool _) rfl) (fun h3 => ?_) (fun h3 => ?_); (exfalso; omega); refine Wo_skip rfl ?_; refine Wo_skip rfl ?_; refine Wo_skip rfl ?_; refine Wo rfl (opv_pick_f (v := .bool _) rfl rfl) ?_
    refine Wo rfl (opv_move (v := .bool _) rfl) ?_; refine Wo_skip rfl ?_; refine Wo_skip rfl ?_; refine Wo_skip rfl ?_; refine Wo rfl (opv_pick_f (v := .bool _) rfl rfl) ?_; refine Wo rfl (opv_assign (v := .bool _) rfl) ?_
    refine Wo_nil ?_; refine W_cond_false rfl ?_; refine W_seq ?_; refine W_region rfl ?_; refine Wo rfl (opv_fieldAddr Tryd.underlying26 rfl rfl Tryd.sizeOf3 rfl) ?_
    refine Wo (v := .int _ _) rfl (opv_load Tryd.isAgg3 rfl (hB1.cell rfl)) ?_; refine Wo rfl (opv_eql rfl rfl) ?_; refine Wo_split_dec rfl (opv_move (v := .bool _) rfl) (fun h4 => ?_) (fun h4 => ?_); (exfalso; omega)
    refine Wo_skip rfl ?_; refine Wo_skip rfl ?_; refine Wo_skip rfl ?_; refine Wo rfl (opv_pick_f (v := .bool _) rfl rfl) ?_; refine Wo rfl (opv_move (v := .bool _) rfl) ?_; refine Wo_skip rfl ?_; refine Wo_skip rfl ?_
    refine Wo_skip rfl ?_; refine Wo rfl (opv_pick_f (v := .bool _) rfl rfl) ?_; refine Wo rfl (opv_move (v := .bool _) rfl) ?_; refine Wo_skip rfl ?_; refine Wo_skip rfl ?_; refine Wo_skip rfl ?_
    refine Wo rfl (opv_pick_f (v := .bool _) rfl rfl) ?_; refine Wo rfl (opv_assign (v := .bool _) rfl) ?_; refine Wo_nil ?_; refine W_cond_false rfl ?_; refine W_skip ?_; refine W_seq ?_; refine W_seq ?_; refine W_region rfl ?_
    refine Wo rfl (opv_fieldAddr Tryd.underlying26 rfl rfl Tryd.sizeOf9 rfl) ?_; refine Wo (v := .string _) rfl (opv_load Tryd.isAgg9 rfl (hB1.cell rfl)) ?_
    refine Wo_call rfl (opc1 (a := .string _) Tryd.call73 rfl) (k1 _ ((Mono.mono E1 hM))) ?_; rintro _ w2 ⟨u1, rfl, E2, hO1⟩; have hs2 := E2.size; refine Wo rfl (opv_move (v := .tuple _) rfl) ?_
    refine Wo rfl (opv_extract (v := u1) rfl rfl) ?_; refine Wo rfl (opv_extract (v := .bool _) rfl rfl) ?_; refine Wo rfl (opv_assign (v := u1) rfl) ?_; refine Wo rfl (opv_assign (v := .bool _) rfl) ?_; refine Wo_nil ?_
    refine W_seq ?_; refine W_region rfl ?_; refine Wo rfl (opv_move (v := .bool _) rfl) ?_; refine Wo rfl (opv_not rfl) ?_; refine Wo_split rfl (opv_move (v := .bool _) rfl) (fun h5 => ?_) (fun h5 => ?_); refine Wo_skip rfl ?_
    refine Wo_skip rfl ?_; refine Wo_skip rfl ?_; refine Wo rfl (opv_pick_t (v := .bool _) rfl rfl) ?_; refine Wo_nil ?_; refine W_cond_true rfl ?_; refine W_seq ?_; refine W_region rfl ?_
    refine Wo rfl (opv_assign (v := .string _) rfl) ?_; refine Wo_nil ?_; refine W_ret ?_; refine at_ret (v := .string _) rfl ?_; refine ⟨congrArg str ?_, (E1.trans E2)⟩; rotate_left
    refine Wo rfl (opv_fieldAddr Tryd.underlying26 rfl rfl Tryd.sizeOf3 rfl) ?_; refine Wo (v := .int _ _) rfl (opv_load Tryd.isAgg3 rfl ((hB1.ext E2).cell rfl)) ?_; refine Wo rfl (opv_neq rfl rfl) ?_
    refine Wo rfl (opv_pick_f (v := .bool _) rfl rfl) ?_; refine Wo_nil ?_; refine W_cond_ndec rfl (fun h6 => ?_) (fun h6 => ?_); refine W_seq ?_; refine W_region rfl ?_; refine Wo rfl (opv_assign (v := .string _) rfl) ?_
    refine Wo_nil ?_; refine W_ret ?_; refine at_ret (v := .string _) rfl ?_; refine ⟨congrArg str ?_, (E1.trans E2)⟩; rotate_left; refine W_skip ?_; refine W_seq ?_; refine W_seq ?_; refine W_region rfl ?_
    refine Wo rfl (opv_fieldAddr Tryd.underlying26 rfl rfl Tryd.sizeOf3 rfl) ?_; refine Wo (v := .int _ _) rfl (opv_load Tryd.isAgg3 rfl ((hB1.ext E2).cell rfl)) ?_; refine Wo_nil ?_; refine W_block ?_; refine W_seq ?_
    refine W_region rfl ?_; refine Wo rfl (opv_eql rfl rfl) ?_; refine Wo rfl (opv_assign (v := .bool _) rfl) ?_; refine Wo_nil ?_; refine W_cond_dec rfl (fun h7 => ?_) (fun h7 => ?_); (exfalso; omega); refine W_seq ?_
    refine W_region rfl ?_; refine Wo rfl (opv_eql rfl rfl) ?_; refine Wo rfl (opv_assign (v := .bool _) rfl) ?_; refine Wo_nil ?_; refine W_cond_dec rfl (fun h8 => ?_) (fun h8 => ?_); (exfalso; omega); refine W_skip ?_; refine W_seq ?_
    refine W_region rfl ?_; refine Wo rfl (opv_assign (v := .string _) rfl) ?_; refine Wo_nil ?_; refine W_ret ?_; refine at_ret (v := .string _) rfl ?_; refine ⟨congrArg str ?_, (E1.trans E2)⟩; rotate_left; refine Wo_skip rfl ?_
    refine Wo_skip rfl ?_; refine Wo_skip rfl ?_; refine Wo rfl (opv_pick_f (v := .bool _) rfl rfl) ?_; refine Wo rfl (opv_move (v := .bool _) rfl) ?_; refine Wo_skip rfl ?_; refine Wo_skip rfl ?_; refine Wo_skip rfl ?_
    refine Wo rfl (opv_pick_f (v := .bool _) rfl rfl) ?_; refine Wo rfl (opv_assign (v := .bool _) rfl) ?_; refine Wo_nil ?_; refine W_cond_false rfl ?_; refine W_seq ?_; refine W_region rfl ?_
    refine Wo rfl (opv_fieldAddr Tryd.underlying26 rfl rfl Tryd.sizeOf3 rfl) ?_; refine Wo (v := .int _ _) rfl (opv_load Tryd.isAgg3 rfl (hB1.cell rfl)) ?_; refine Wo rfl (opv_eql rfl rfl) ?_
    refine Wo_split_dec rfl (opv_move (v := .bool _) rfl) (fun h2 => ?_) (fun h2 => ?_); refine Wo rfl (opv_fieldAddr Tryd.underlying26 rfl rfl Tryd.sizeOf9 rfl) ?_
    refine Wo (v := .string _) rfl (opv_load Tryd.isAgg9 rfl (hB1.cell rfl)) ?_; refine Wo rfl (opv_eql_str rfl rfl) ?_; refine Wo rfl (opv_pick_t (v := .bool _) rfl rfl) ?_
    refine Wo_split_dec rfl (opv_move (v := .bool _) rfl) (fun h3 => ?_) (fun h3 => ?_); refine Wo rfl (opv_fieldAddr Tryd.underlying26 rfl rfl Tryd.sizeOf3 rfl) ?_
    refine Wo (v := .int _ _) rfl (opv_load Tryd.isAgg3 rfl (hB1.cell rfl)) ?_; refine Wo rfl (opv_eql rfl rfl) ?_; refine Wo rfl (opv_pick_t (v := .bool _) rfl rfl) ?_; refine Wo rfl (opv_assign (v := .bool _) rfl) ?_; refine Wo_nil ?_
    refine W_cond_dec rfl (fun h4 => ?_) (fun h4 => ?_); refine W_seq ?_; refine W_region rfl ?_; refine Wo rfl (opv_assign (v := .string _) rfl) ?_; refine Wo_nil ?_; refine W_ret ?_; refine at_ret (v := .string _) rfl ?_
    refine ⟨congrArg str ?_, E1⟩; rotate_left; refine W_seq ?_; refine W_region rfl ?_; refine Wo rfl (opv_fieldAddr Tryd.underlying26 rfl rfl Tryd.sizeOf3 rfl) ?_
    refine Wo (v := .int _ _) rfl (opv_load Tryd.isAgg3 rfl (hB1.cell rfl)) ?_; refine Wo rfl (opv_eql rfl rfl) ?_; refine Wo_split_dec rfl (opv_move (v := .bool _) rfl) (fun h5 => ?_) (fun h5 => ?_); (exfalso; omega)
    refine Wo_skip rfl ?_; refine Wo_skip rfl ?_; refine Wo_skip rfl ?_; refine Wo rfl (opv_pick_f (v := .bool _) rfl rfl) ?_; refine Wo rfl (opv_move (v := .bool _) rfl) ?_; refine Wo_skip rfl ?_; refine Wo_skip rfl ?_
    refine Wo_skip rfl ?_; refine Wo rfl (opv_pick_f (v := .bool _) rfl rfl) ?_; refine Wo rfl (opv_move (v := .bool _) rfl) ?_; refine Wo_skip rfl ?_; refine Wo_skip rfl ?_; refine Wo_skip rfl ?_
    refine Wo rfl (opv_pick_f (v := .bool _) rfl rfl) ?_; refine Wo rfl (opv_assign (v := .bool _) rfl) ?_; refine Wo_nil ?_; refine W_cond_false rfl ?_; refine W_skip ?_; refine W_seq ?_; refine W_seq ?_; refine W_region rfl ?_
    refine Wo rfl (opv_fieldAddr Tryd.underlying26 rfl rfl Tryd.sizeOf9 rfl) ?_; refine Wo (v := .string _) rfl (opv_load Tryd.isAgg9 rfl (hB1.cell rfl)) ?_
    refine Wo_call rfl (opc1 (a := .string _) Tryd.call73 rfl) (k1 _ ((Mono.mono E1 hM))) ?_; rintro _ w2 ⟨u1, rfl, E2, hO1⟩; have hs2 := E2.size; refine Wo rfl (opv_move (v := .tuple _) rfl) ?_
    refine Wo rfl (opv_extract (v := u1) rfl rfl) ?_; refine Wo rfl (opv_extract (v := .bool _) rfl rfl) ?_; refine Wo rfl (opv_assign (v := u1) rfl) ?_; refine Wo rfl (opv_assign (v := .bool _) rfl) ?_; refine Wo_nil ?_
    refine W_seq ?_; refine W_region rfl ?_; refine Wo rfl (opv_move (v := .bool _) rfl) ?_; refine Wo rfl (opv_not rfl) ?_; refine Wo_split rfl (opv_move (v := .bool _) rfl) (fun h6 => ?_) (fun h6 => ?_); refine Wo_skip rfl ?_
    refine Wo_skip rfl ?_; refine Wo_skip rfl ?_; refine Wo rfl (opv_pick_t (v := .bool _) rfl rfl) ?_; refine Wo_nil ?_; refine W_cond_true rfl ?_; refine W_seq ?_; refine W_region rfl ?_
    refine Wo rfl (opv_assign (v := .string _) rfl) ?_; refine Wo_nil ?_; refine W_ret ?_; refine at_ret (v := .string _) rfl ?_; refine ⟨congrArg str ?_, (E1.trans E2)⟩; rotate_left
    refine Wo rfl (opv_fieldAddr Tryd.underlying26 rfl rfl Tryd.sizeOf3 rfl) ?_; refine Wo (v := .int _ _) rfl (opv_load Tryd.isAgg3 rfl ((hB1.ext E2).cell rfl)) ?_; refine Wo rfl (opv_neq rfl rfl) ?_
    refine Wo rfl (opv_pick_f (v := .bool _) rfl rfl) ?_; refine Wo_nil ?_; refine W_cond_ndec rfl (fun h7 => ?_) (fun h7 => ?_); refine W_seq ?_; refine W_region rfl ?_; refine Wo rfl (opv_assign (v := .string _) rfl) ?_
    refine Wo_nil ?_; refine W_ret ?_; refine at_ret (v := .string _) rfl ?_; refine ⟨congrArg str ?_, (E1.trans E2)⟩; rotate_left; contradiction; refine Wo_skip rfl ?_; refine Wo_skip rfl ?_; refine Wo_skip rfl ?_
    refine Wo rfl (opv_pick_f (v := .bool _) rfl rfl) ?_; refine Wo rfl (opv_assign (v := .bool _) rfl) ?_; refine Wo_nil ?_; refine W_cond_false rfl ?_; refine W_seq ?_; refine W_region rfl ?_
    refine Wo rfl (opv_fieldAddr Tryd.underlying26 rfl rfl Tryd.sizeOf3 rfl) ?_; refine Wo (v := .int _ _) rfl (opv_load Tryd.isAgg3 rfl (hB1.cell rfl)) ?_; refine Wo rfl (opv_eql rfl rfl) ?_
    refine Wo_split_dec rfl (opv_move (v := .bool _) rfl) (fun h4 => ?_) (fun h4 => ?_); (exfalso; omega); refine Wo_skip rfl ?_; refine Wo_skip rfl ?_; refine Wo_skip rfl ?_; refine Wo rfl (opv_pick_f (v := .bool _) rfl rfl) ?_
    refine Wo rfl (opv_move (v := .bool _) rfl) ?_; refine Wo_skip rfl ?_; refine Wo_skip rfl ?_; refine Wo_skip rfl ?_; refine Wo rfl (opv_pick_f (v := .bool _) rfl rfl) ?_; refine Wo rfl (opv_move (v := .bool _) rfl) ?_
    refine Wo_skip rfl ?_; refine Wo_skip rfl ?_; refine Wo_skip rfl ?_; refine Wo rfl (opv_pick_f (v := .bool _) rfl rfl) ?_; refine Wo rfl (opv_assign (v := .bool _) rfl) ?_; refine Wo_nil ?_; refine W_cond_false rfl ?_
    refine W_skip ?_; refine W_seq ?_; refine W_seq ?_; refine W_region rfl ?_; refine Wo rfl (opv_fieldAddr Tryd.underlying26 rfl rfl Tryd.sizeOf9 rfl) ?_; refine Wo (v := .string _) rfl (opv_load Tryd.isAgg9 rfl (hB1.cell rfl)) ?_
    refine Wo_call rfl (opc1 (a := .string _) Tryd.call73 rfl) (k1 _ ((Mono.mono E1 hM))) ?_; rintro _ w2 ⟨u1, rfl, E2, hO1⟩; have hs2 := E2.size; refine Wo rfl (opv_move (v := .tuple _) rfl) ?_
    refine Wo rfl (opv_extract (v := u1) rfl rfl) ?_; refine Wo rfl (opv_extract (v := .bool _) rfl rfl) ?_; refine Wo rfl (opv_assign (v := u1) rfl) ?_; refine Wo rfl (opv_assign (v := .bool _) rfl) ?_; refine Wo_nil ?_
    refine W_seq ?_; refine W_region rfl ?_; refine Wo rfl (opv_move (v := .bool _) rfl) ?_; refine Wo rfl (opv_not rfl) ?_; refine Wo_split rfl (opv_move (v := .bool _) rfl) (fun h5 => ?_) (fun h5 => ?_); refine Wo_skip rfl ?_
    refine Wo_skip rfl ?_; refine Wo_skip rfl ?_; refine Wo rfl (opv_pick_t (v := .bool _) rfl rfl) ?_; refine Wo_nil ?_; refine W_cond_true rfl ?_; refine W_seq ?_; refine W_region rfl ?_
    refine Wo rfl (opv_assign (v := .string _) rfl) ?_; refine Wo_nil ?_; refine W_ret ?_; refine at_ret (v := .string _) rfl ?_; refine ⟨congrArg str ?_, (E1.trans E2)⟩; rotate_left
    refine Wo rfl (opv_fieldAddr Tryd.underlying26 rfl rfl Tryd.sizeOf3 rfl) ?_; refine Wo (v := .int _ _) rfl (opv_load Tryd.isAgg3 rfl ((hB1.ext E2).cell rfl)) ?_; refine Wo rfl (opv_neq rfl rfl) ?_
    refine Wo rfl (opv_pick_f (v := .bool _) rfl rfl) ?_; refine Wo_nil ?_; refine W_cond_ndec rfl (fun h6 => ?_) (fun h6 => ?_); refine W_seq ?_; refine W_region rfl ?_; refine Wo rfl (opv_assign (v := .string _) rfl) ?_
    refine Wo_nil ?_; refine W_ret ?_; refine at_ret (v := .string _) rfl ?_; refine ⟨congrArg str ?_, (E1.trans E2)⟩; rotate_left; refine W_skip ?_; refine W_seq ?_; refine W_seq ?_; refine W_region rfl ?_
    refine Wo rfl (opv_fieldAddr Tryd.underlying26 rfl rfl Tryd.sizeOf3 rfl) ?_; refine Wo (v := .int _ _) rfl (opv_load Tryd.isAgg3 rfl ((hB1.ext E2).cell rfl)) ?_; refine Wo_nil ?_; refine W_block ?_; refine W_seq ?_
    refine W_region rfl ?_; refine Wo rfl (opv_eql rfl rfl) ?_; refine Wo rfl (opv_assign (v := .bool _) rfl) ?_; refine Wo_nil ?_; refine W_cond_dec rfl (fun h7 => ?_) (fun h7 => ?_); (exfalso; omega); refine W_seq ?_
    refine W_region rfl ?_; refine Wo rfl (opv_eql rfl rfl) ?_; refine Wo rfl (opv_assign (v := .bool _) rfl) ?_; refine Wo_nil ?_; refine W_cond_dec rfl (fun h8 => ?_) (fun h8 => ?_); (exfalso; omega); refine W_skip ?_; refine W_seq ?_
    refine W_region rfl ?_; refine Wo rfl (opv_assign (v := .string _) rfl) ?_; refine Wo_nil ?_; refine W_ret ?_; refine at_ret (v := .string _) rfl ?_; refine ⟨congrArg str ?_, (E1.trans E2)⟩; rotate_left; refine Wo_skip rfl ?_
    refine Wo_skip rfl ?_; refine Wo_skip rfl ?_; refine Wo rfl (opv_pick_f (v := .bool _) rfl rfl) ?_; refine Wo rfl (opv_move (v := .bool _) rfl) ?_; refine Wo_skip rfl ?_; refine Wo_skip rfl ?_; refine Wo_skip rfl ?_
    refine Wo rfl (opv_pick_f (v := .bool _) rfl rfl) ?_; refine Wo rfl (opv_assign (v := .bool _) rfl) ?_; refine Wo_nil ?_; refine W_cond_false rfl ?_; refine W_seq ?_; refine W_region rfl ?_
    refine Wo rfl (opv_fieldAddr Tryd.underlying26 rfl rfl Tryd.sizeOf3 rfl) ?_; refine Wo (v := .int _ _) rfl (opv_load Tryd.isAgg3 rfl (hB1.cell rfl)) ?_; refine Wo rfl (opv_eql rfl rfl) ?_
    refine Wo_split_dec rfl (opv_move (v := .bool _) rfl) (fun h3 => ?_) (fun h3 => ?_); refine Wo rfl (opv_fieldAddr Tryd.underlying26 rfl rfl Tryd.sizeOf9 rfl) ?_
    refine Wo (v := .string _) rfl (opv_load Tryd.isAgg9 rfl (hB1.cell rfl)) ?_; refine Wo rfl (opv_eql_str rfl rfl) ?_; refine Wo rfl (opv_pick_t (v := .bool _) rfl rfl) ?_
    refine Wo_split_dec rfl (opv_move (v := .bool _) rfl) (fun h4 => ?_) (fun h4 => ?_); refine Wo rfl (opv_fieldAddr Tryd.underlying26 rfl rfl Tryd.sizeOf3 rfl) ?_
    refine Wo (v := .int _ _) rfl (opv_load Tryd.isAgg3 rfl (hB1.cell rfl)) ?_; refine Wo rfl (opv_geq rfl rfl) ?_; refine Wo rfl (opv_pick_t (v := .bool _) rfl rfl) ?_
    refine Wo_split_dec rfl (opv_move (v := .bool _) rfl) (fun h5 => ?_) (fun h5 => ?_); refine Wo rfl (opv_fieldAddr Tryd.underlying26 rfl rfl Tryd.sizeOf3 rfl) ?_
    refine Wo (v := .int _ _) rfl (opv_load Tryd.isAgg3 rfl (hB1.cell rfl)) ?_; refine Wo rfl (opv_leq rfl rfl) ?_; refine Wo rfl (opv_pick_t (v := .bool _) rfl rfl) ?_; refine Wo rfl (opv_assign (v := .bool _) rfl) ?_; refine Wo_nil ?_
    refine W_cond_dec rfl (fun h6 => ?_) (fun h6 => ?_); refine W_seq ?_; refine W_region rfl ?_; refine Wo rfl (opv_fieldAddr Tryd.underlying26 rfl rfl Tryd.sizeOf3 rfl) ?_
    refine Wo (v := .int _ _) rfl (opv_load Tryd.isAgg3 rfl (hB1.cell rfl)) ?_; refine Wo_call rfl (opc1 (a := .int _ _) Tryd.call72 rfl) (k2 _ (by assumption) (by assumption)) ?_; rintro _ w2 ⟨rfl, E2⟩; have hs2 := E2.size
    refine Wo rfl (opv_add_str rfl rfl (by simp <;> omega)) ?_; refine Wo rfl (opv_assign (v := .string _) rfl) ?_; refine Wo_nil ?_; refine W_ret ?_; refine at_ret (v := .string _) rfl ?_; refine ⟨congrArg str ?_, (E1.trans E2)⟩
    rotate_left; refine W_skip ?_; refine W_seq ?_; refine W_seq ?_; refine W_region rfl ?_; refine Wo rfl (opv_fieldAddr Tryd.underlying26 rfl rfl Tryd.sizeOf9 rfl) ?_
    refine Wo (v := .string _) rfl (opv_load Tryd.isAgg9 rfl (hB1.cell rfl)) ?_; refine Wo_call rfl (opc1 (a := .string _) Tryd.call73 rfl) (k1 _ ((Mono.mono E1 hM))) ?_; rintro _ w2 ⟨u1, rfl, E2, hO1⟩; have hs2 := E2.size
    refine Wo rfl (opv_move (v := .tuple _) rfl) ?_; refine Wo rfl (opv_extract (v := u1) rfl rfl) ?_; refine Wo rfl (opv_extract (v := .bool _) rfl rfl) ?_; refine Wo rfl (opv_assign (v := u1) rfl) ?_
    refine Wo rfl (opv_assign (v := .bool _) rfl) ?_; refine Wo_nil ?_; refine W_seq ?_; refine W_region rfl ?_; refine Wo rfl (opv_move (v := .bool _) rfl) ?_; refine Wo rfl (opv_not rfl) ?_
    refine Wo_split rfl (opv_move (v := .bool _) rfl) (fun h7 => ?_) (fun h7 => ?_); refine Wo_skip rfl ?_; refine Wo_skip rfl ?_; refine Wo_skip rfl ?_; refine Wo rfl (opv_pick_t (v := .bool _) rfl rfl) ?_; refine Wo_nil ?_
    refine W_cond_true rfl ?_; refine W_seq ?_; refine W_region rfl ?_; refine Wo rfl (opv_assign (v := .string _) rfl) ?_; refine Wo_nil ?_; refine W_ret ?_; refine at_ret (v := .string _) rfl ?_
    refine ⟨congrArg str ?_, (E1.trans E2)⟩; rotate_left; refine Wo rfl (opv_fieldAddr Tryd.underlying26 rfl rfl Tryd.sizeOf3 rfl) ?_; refine Wo (v := .int _ _) rfl (opv_load Tryd.isAgg3 rfl ((hB1.ext E2).cell rfl)) ?_
    refine Wo rfl (opv_neq rfl rfl) ?_; refine Wo rfl (opv_pick_f (v := .bool _) rfl rfl) ?_; refine Wo_nil ?_; refine W_cond_ndec rfl (fun h8 => ?_) (fun h8 => ?_); refine W_seq ?_; refine W_region rfl ?_
    refine Wo rfl (opv_assign (v := .string _) rfl) ?_; refine Wo_nil ?_; refine W_ret ?_; refine at_ret (v := .string _) rfl ?_; refine ⟨congrArg str ?_, (E1.trans E2)⟩; rotate_left; (exfalso; omega); refine Wo_skip rfl ?_
    refine Wo_skip rfl ?_; refine Wo_skip rfl ?_; refine Wo rfl (opv_pick_f (v := .bool _) rfl rfl) ?_; refine Wo rfl (opv_assign (v := .bool _) rfl) ?_; refine Wo_nil ?_; refine W_cond_false rfl ?_; refine W_skip ?_; refine W_seq ?_
    refine W_seq ?_; refine W_region rfl ?_; refine Wo rfl (opv_fieldAddr Tryd.underlying26 rfl rfl Tryd.sizeOf9 rfl) ?_; refine Wo (v := .string _) rfl (opv_load Tryd.isAgg9 rfl (hB1.cell rfl)) ?_
    refine Wo_call rfl (opc1 (a := .string _) Tryd.call73 rfl) (k1 _ ((Mono.mono E1 hM))) ?_; rintro _ w2 ⟨u1, rfl, E2, hO1⟩; have hs2 := E2.size; refine Wo rfl (opv_move (v := .tuple _) rfl) ?_
    refine Wo rfl (opv_extract (v := u1) rfl rfl) ?_; refine Wo rfl (opv_extract (v := .bool _) rfl rfl) ?_; refine Wo rfl (opv_assign (v := u1) rfl) ?_; refine Wo rfl (opv_assign (v := .bool _) rfl) ?_; refine Wo_nil ?_
    refine W_seq ?_; refine W_region rfl ?_; refine Wo rfl (opv_move (v := .bool _) rfl) ?_; refine Wo rfl (opv_not rfl) ?_; refine Wo_split rfl (opv_move (v := .bool _) rfl) (fun h6 => ?_) (fun h6 => ?_); refine Wo_skip rfl ?_
    refine Wo_skip rfl ?_; refine Wo_skip rfl ?_; refine Wo rfl (opv_pick_t (v := .bool _) rfl rfl) ?_; refine Wo_nil ?_; refine W_cond_true rfl ?_; refine W_seq ?_; refine W_region rfl ?_
    refine Wo rfl (opv_assign (v := .string _) rfl) ?_; refine Wo_nil ?_; refine W_ret ?_; refine at_ret (v := .string _) rfl ?_; refine ⟨congrArg str ?_, (E1.trans E2)⟩; rotate_left
    refine Wo rfl (opv_fieldAddr Tryd.underlying26 rfl rfl Tryd.sizeOf3 rfl) ?_; refine Wo (v := .int _ _) rfl (opv_load Tryd.isAgg3 rfl ((hB1.ext E2).cell rfl)) ?_; refine Wo rfl (opv_neq rfl rfl) ?_
    refine Wo rfl (opv_pick_f (v := .bool _) rfl rfl) ?_; refine Wo_nil ?_; refine W_cond_ndec rfl (fun h7 => ?_) (fun h7 => ?_); refine W_seq ?_; refine W_region rfl ?_; refine Wo rfl (opv_assign (v := .string _) rfl) ?_
    refine Wo_nil ?_; refine W_ret ?_; refine at_ret (v := .string _) rfl ?_; refine ⟨congrArg str ?_, (E1.trans E2)⟩; rotate_left; (exfalso; omega); refine Wo_skip rfl ?_; refine Wo_skip rfl ?_; refine Wo_skip rfl ?_
    refine Wo rfl (opv_pick_f (v := .bool _) rfl rfl) ?_; refine Wo rfl (opv_move (v := .bool _) rfl) ?_; refine Wo_skip rfl ?_; refine Wo_skip rfl ?_; refine Wo_skip rfl ?_; refine Wo rfl (opv_pick_f (v := .bool _) rfl rfl) ?_
    refine Wo rfl (opv_assign (v := .bool _) rfl) ?_; refine Wo_nil ?_; refine W_cond_false rfl ?_; refine W_skip ?_; refine W_seq ?_; refine W_seq ?_; refine W_region rfl ?_
    refine Wo rfl (opv_fieldAddr Tryd.underlying26 rfl rfl Tryd.sizeOf9 rfl) ?_; refine Wo (v := .string _) rfl (opv_load Tryd.isAgg9 rfl (hB1.cell rfl)) ?_
    refine Wo_call rfl (opc1 (a := .string _) Tryd.call73 rfl) (k1 _ ((Mono.mono E1 hM))) ?_; rintro _ w2 ⟨u1, rfl, E2, hO1⟩; have hs2 := E2.size; refine Wo rfl (opv_move (v := .tuple _) rfl) ?_
    refine Wo rfl (opv_extract (v := u1) rfl rfl) ?_; refine Wo rfl (opv_extract (v := .bool _) rfl rfl) ?_; refine Wo rfl (opv_assign (v := u1) rfl) ?_; refine Wo rfl (opv_assign (v := .bool _) rfl) ?_; refine Wo_nil ?_
    refine W_seq ?_; refine W_region rfl ?_; refine Wo rfl (opv_move (v := .bool _) rfl) ?_; refine Wo rfl (opv_not rfl) ?_; refine Wo_split rfl (opv_move (v := .bool _) rfl) (fun h5 => ?_) (fun h5 => ?_); refine Wo_skip rfl ?_
    refine Wo_skip rfl ?_; refine Wo_skip rfl ?_; refine Wo rfl (opv_pick_t (v := .bool _) rfl rfl) ?_; refine Wo_nil ?_; refine W_cond_true rfl ?_; refine W_seq ?_; refine W_region rfl ?_
    refine Wo rfl (opv_assign (v := .string _) rfl) ?_; refine Wo_nil ?_; refine W_ret ?_; refine at_ret (v := .string _) rfl ?_; refine ⟨congrArg str ?_, (E1.trans E2)⟩; rotate_left
    refine Wo rfl (opv_fieldAddr Tryd.underlying26 rfl rfl Tryd.sizeOf3 rfl) ?_; refine Wo (v := .int _ _) rfl (opv_load Tryd.isAgg3 rfl ((hB1.ext E2).cell rfl)) ?_; refine Wo rfl (opv_neq rfl rfl) ?_
    refine Wo rfl (opv_pick_f (v := .bool _) rfl rfl) ?_; refine Wo_nil ?_; refine W_cond_ndec rfl (fun h6 => ?_) (fun h6 => ?_); refine W_seq ?_; refine W_region rfl ?_; refine Wo rfl (opv_assign (v := .string _) rfl) ?_
    refine Wo_nil ?_; refine W_ret ?_; refine at_ret (v := .string _) rfl ?_; refine ⟨congrArg str ?_, (E1.trans E2)⟩; rotate_left; refine W_skip ?_; refine W_seq ?_; refine W_seq ?_; refine W_region rfl ?_
    refine Wo rfl (opv_fieldAddr Tryd.underlying26 rfl rfl Tryd.sizeOf3 rfl) ?_; refine Wo (v := .int _ _) rfl (opv_load Tryd.isAgg3 rfl ((hB1.ext E2).cell rfl)) ?_; refine Wo_nil ?_; refine W_block ?_; refine W_seq ?_
    refine W_region rfl ?_; refine Wo rfl (opv_eql rfl rfl) ?_; refine Wo rfl (opv_assign (v := .bool _) rfl) ?_; refine Wo_nil ?_; refine W_cond_dec rfl (fun h7 => ?_) (fun h7 => ?_); (exfalso; omega); refine W_seq ?_
    refine W_region rfl ?_; refine Wo rfl (opv_eql rfl rfl) ?_; refine Wo rfl (opv_assign (v := .bool _) rfl) ?_; refine Wo_nil ?_; refine W_cond_dec rfl (fun h8 => ?_) (fun h8 => ?_); (exfalso; omega); refine W_skip ?_; refine W_seq ?_
    refine W_region rfl ?_; refine Wo rfl (opv_assign (v := .string _) rfl) ?_; refine Wo_nil ?_; refine W_ret ?_; refine at_ret (v := .string _) rfl ?_; refine ⟨congrArg str ?_, (E1.trans E2)⟩; rotate_left; refine Wo_skip rfl ?_
    refine Wo_skip rfl ?_; refine Wo_skip rfl ?_; refine Wo rfl (opv_pick_f (v := .bool _) rfl rfl) ?_; refine Wo rfl (opv_move (v := .bool _) rfl) ?_; refine Wo_skip rfl ?_; refine Wo_skip rfl ?_; refine Wo_skip rfl ?_
    refine Wo rfl (opv_pick_f (v := .bool _) rfl rfl) ?_; refine Wo rfl (opv_move (v := .bool _) rfl) ?_; refine Wo_skip rfl ?_; refine Wo_skip rfl ?_; refine Wo_skip rfl ?_; refine Wo rfl (opv_pick_f (v := .bool _) rfl rfl) ?_
    refine Wo rfl (opv_assign (v := .bool _) rfl) ?_; refine Wo_nil ?_; refine W_cond_false rfl ?_; refine W_skip ?_; refine W_seq ?_; refine W_seq ?_; refine W_region rfl ?_
    refine Wo rfl (opv_fieldAddr Tryd.underlying26 rfl rfl Tryd.sizeOf9 rfl) ?_; refine Wo (v := .string _) rfl (opv_load Tryd.isAgg9 rfl (hB1.cell rfl)) ?_
    refine Wo_call rfl (opc1 (a := .string _) Tryd.call73 rfl) (k1 _ ((Mono.mono E1 hM))) ?_; rintro _ w2 ⟨u1, rfl, E2, hO1⟩; have hs2 := E2.size; refine Wo rfl (opv_move (v := .tuple _) rfl) ?_
    refine Wo rfl (opv_extract (v := u1) rfl rfl) ?_; refine Wo rfl (opv_extract (v := .bool _) rfl rfl) ?_; refine Wo rfl (opv_assign (v := u1) rfl) ?_; refine Wo rfl (opv_assign (v := .bool _) rfl) ?_; refine Wo_nil ?_
    refine W_seq ?_; refine W_region rfl ?_; refine Wo rfl (opv_move (v := .bool _) rfl) ?_; refine Wo rfl (opv_not rfl) ?_; refine Wo_split rfl (opv_move (v := .bool _) rfl) (fun h4 => ?_) (fun h4 => ?_); refine Wo_skip rfl ?_
    refine Wo_skip rfl ?_; refine Wo_skip rfl ?_; refine Wo rfl (opv_pick_t (v := .bool _) rfl rfl) ?_; refine Wo_nil ?_; refine W_cond_true rfl ?_; refine W_seq ?_; refine W_region rfl ?_
    refine Wo rfl (opv_assign (v := .string _) rfl) ?_; refine Wo_nil ?_; refine W_ret ?_; refine at_ret (v := .string _) rfl ?_; refine ⟨congrArg str ?_, (E1.trans E2)⟩; rotate_left
    refine Wo rfl (opv_fieldAddr Tryd.underlying26 rfl rfl Tryd.sizeOf3 rfl) ?_; refine Wo (v := .int _ _) rfl (opv_load Tryd.isAgg3 rfl ((hB1.ext E2).cell rfl)) ?_; refine Wo rfl (opv_neq rfl rfl) ?_
    refine Wo rfl (opv_pick_f (v := .bool _) rfl rfl) ?_; refine Wo_nil ?_; refine W_cond_ndec rfl (fun h5 => ?_) (fun h5 => ?_); refine W_seq ?_; refine W_region rfl ?_; refine Wo rfl (opv_assign (v := .string _) rfl) ?_
    refine Wo_nil ?_; refine W_ret ?_; refine at_ret (v := .string _) rfl ?_; refine ⟨congrArg str ?_, (E1.trans E2)⟩; rotate_left; refine W_skip ?_; refine W_seq ?_; refine W_seq ?_; refine W_region rfl ?_
    refine Wo rfl (opv_fieldAddr Tryd.underlying26 rfl rfl Tryd.sizeOf3 rfl) ?_; refine Wo (v := .int _ _) rfl (opv_load Tryd.isAgg3 rfl ((hB1.ext E2).cell rfl)) ?_; refine Wo_nil ?_; refine W_block ?_; refine W_seq ?_
    refine W_region rfl ?_; refine Wo rfl (opv_eql rfl rfl) ?_; refine Wo rfl (opv_assign (v := .bool _) rfl) ?_; refine Wo_nil ?_; refine W_cond_dec rfl (fun h6 => ?_) (fun h6 => ?_); refine W_seq ?_; refine W_region rfl ?_
    refine Wo rfl (opv_fieldAddr Tryd.underlying26 rfl rfl Tryd.sizeOf9 rfl) ?_; refine Wo (v := .string _) rfl (opv_load Tryd.isAgg9 rfl ((hB1.ext E2).cell rfl)) ?_; refine Wo rfl (opv_add_str rfl rfl (by simp <;> omega)) ?_
    refine Wo rfl (opv_assign (v := .string _) rfl) ?_; refine Wo_nil ?_; refine W_ret ?_; refine at_ret (v := .string _) rfl ?_; refine ⟨congrArg str ?_, (E1.trans E2)⟩; rotate_left; refine W_seq ?_; refine W_region rfl ?_
    refine Wo rfl (opv_eql rfl rfl) ?_; refine Wo rfl (opv_assign (v := .bool _) rfl) ?_; refine Wo_nil ?_; refine W_cond_dec rfl (fun h7 => ?_) (fun h7 => ?_); refine W_seq ?_; refine W_region rfl ?_
    refine Wo rfl (opv_fieldAddr Tryd.underlying26 rfl rfl Tryd.sizeOf9 rfl) ?_; refine Wo (v := .string _) rfl (opv_load Tryd.isAgg9 rfl ((hB1.ext E2).cell rfl)) ?_; refine Wo rfl (opv_add_str rfl rfl (by simp <;> omega)) ?_
    refine Wo rfl (opv_assign (v := .string _) rfl) ?_; refine Wo_nil ?_; refine W_ret ?_; refine at_ret (v := .string _) rfl ?_; refine ⟨congrArg str ?_, (E1.trans E2)⟩; rotate_left; refine W_skip ?_; refine W_seq ?_
    refine W_region rfl ?_; refine Wo rfl (opv_assign (v := .string _) rfl) ?_; refine Wo_nil ?_; refine W_ret ?_; refine at_ret (v := .string _) rfl ?_; refine ⟨congrArg str ?_, (E1.trans E2)⟩; rotate_left
  all_goals (unfold dtV; simp only [Deed.mk.injEq] at *)
  all_goals (try subst hB)
  all_goals try (simp_all [sSingle, sBack, sAdd, sDrop, sInto]; done)
  all_goals (repeat' split)
  all_goals first
    | rfl
    | (simp_all [sSingle, sBack, sAdd, sDrop, sInto]; done)
    | (exfalso; simp_all; omega)

theorem impl_DeedText_ok (w : World) (k n : Int) (t : List UInt8) (hM : EMx gMx w (.bool true) ()) (ht : t.length ≤ 1048576) :
    Does Tryd.prog 14 [.agg #[.int .i64 k, str t, .int .i64 n]] w (Ret w (str (dtV ⟨k, t, n⟩))) := by
  refine fn_of_W1 Tryd.func14 rfl Tryd.results14 Tryd.ntmps14 rfl ?_
  focus
    refine W_seq ?_; refine W_region rfl ?_; refine Wo_box rfl rfl rfl ?_; rintro b1 w1 hb1 E1 hB1; have hlb1 := hB1.lt; have hs1 := E1.size; refine Wo rfl (opv_assign (v := .string _) rfl) ?_; refine Wo_nil ?_; refine W_seq ?_
    refine W_region rfl ?_; refine Wo (v := .agg _) rfl (opv_load3 Tryd.isAgg26 Tryd.sizeOf26 rfl hB1) ?_; refine Wo_call rfl (opc1 (a := .agg _) Tryd.call44 rfl) (impl_deedText_ok _ _ _ _ ((Mono.mono E1 hM)) (by assumption)) ?_
    rintro _ w2 ⟨rfl, E2⟩; have hs2 := E2.size; refine Wo rfl (opv_assign (v := .string _) rfl) ?_; refine Wo_nil ?_; refine W_ret ?_; exact ⟨rfl, (E1.trans E2)⟩

theorem FnExactDeedText_walk (w : World) (hM : EMx gMx w (.bool true) ()) (k n : Int) (t : List UInt8) (ht : t.length ≤ 9223372036854775807) :
    Does Tryd.prog 3 [.agg #[.int .i64 k, str t, .int .i64 n]] w (Ret w (.bool true)) := by
  refine fn_of_W1 Tryd.func3 rfl Tryd.results3 Tryd.ntmps3 rfl ?_
  focus
    refine W_seq ?_; refine W_region rfl ?_; refine Wo_box rfl rfl rfl ?_; rintro b1 w1 hb1 E1 hB1; have hlb1 := hB1.lt; have hs1 := E1.size; refine Wo rfl (opv_assign (v := .bool _) rfl) ?_; refine Wo_nil ?_; refine W_seq ?_
    refine W_region rfl ?_; refine Wo rfl (opv_assign (v := .int _ _) rfl) ?_; refine Wo_nil ?_; refine W_seq ?_; refine W_region rfl ?_; refine Wo (v := .agg _) rfl (opv_load3 Tryd.isAgg23 Tryd.sizeOf23 rfl hB1) ?_
    refine Wo rfl (opv_move (v := .int _ _) rfl) ?_; refine Wo_call rfl (opc2 (a := .agg _) (b := .int _ _) Tryd.call11 rfl rfl) (szDeed_ok _ _ _ _ (by assumption) _ (by omega)) ?_; rintro _ w2 ⟨E2, y1, rfl, hy1⟩; have hs2 := E2.size
    refine Wo rfl (opv_assign (v := .int _ _) rfl) ?_; refine Wo_nil ?_; refine W_seq ?_; refine W_seq ?_; refine W_region rfl ?_; refine Wo rfl (opv_move (v := .int _ _) rfl) ?_; refine Wo rfl (opv_lss rfl rfl) ?_; refine Wo_nil ?_
    refine W_cond_dec rfl (fun h1 => ?_) (fun h1 => ?_); refine W_seq ?_; refine W_region rfl ?_; refine Wo rfl (opv_assign (v := .bool _) rfl) ?_; refine Wo_nil ?_; refine W_ret ?_; exact ⟨rfl, (E1.trans E2)⟩; refine W_skip ?_
    refine W_seq ?_; refine W_region rfl ?_; refine Wo (v := .agg _) rfl (opv_load3 Tryd.isAgg23 Tryd.sizeOf23 rfl (hB1.ext E2)) ?_
  rcases hy1 with h | ⟨h1, h2, h3⟩
  · omega
  focus
    have szE2 := E2.size; have szE1 := E1.size; refine Wo_call rfl (opc1 (a := .agg _) Tryd.call13 rfl) (toDeed_ok _ _ _ _) ?_; rintro _ w3 ⟨rfl, E3⟩; have hs3 := E3.size
    refine Wo_call rfl (opc1 (a := .agg _) Tryd.call12 rfl) (spec_DeedText_ok _ _ _ _ (by assumption)) ?_; rintro _ w4 ⟨rfl, E4⟩; have hs4 := E4.size; refine Wo rfl (opv_assign (v := .string _) rfl) ?_; refine Wo_nil ?_; refine W_seq ?_
    refine W_region rfl ?_; refine Wo (v := .agg _) rfl (opv_load3 Tryd.isAgg23 Tryd.sizeOf23 rfl (hB1.ext ((E2.trans E3).trans E4))) ?_; refine Wo_call rfl (opc1 (a := .agg _) Tryd.call13 rfl) (toDeed_ok _ _ _ _) ?_
    rintro _ w5 ⟨rfl, E5⟩; have hs5 := E5.size; refine Wo_call rfl (opc1 (a := .agg _) Tryd.call14 rfl) (impl_DeedText_ok _ _ _ _ ((Mono.mono ((((E1.trans E2).trans E3).trans E4).trans E5) hM)) (by assumption)) ?_; rintro _ w6 ⟨rfl, E6⟩
    have hs6 := E6.size; refine Wo rfl (opv_assign (v := .string _) rfl) ?_; refine Wo_nil ?_; refine W_seq ?_; refine W_seq ?_; refine W_region rfl ?_; refine Wo rfl (opv_move (v := .string _) rfl) ?_
    refine Wo rfl (opv_move (v := .string _) rfl) ?_; refine Wo rfl (opv_neq_str rfl rfl) ?_; refine Wo_nil ?_; refine W_cond_ndec rfl (fun h4 => ?_) (fun h4 => ?_); contradiction; refine W_skip ?_; refine W_seq ?_
    refine W_region rfl ?_; refine Wo rfl (opv_assign (v := .bool _) rfl) ?_; refine Wo_nil ?_; refine W_ret ?_; exact ⟨rfl, (((((E1.trans E2).trans E3).trans E4).trans E5).trans E6)⟩

end Go.Proofs.YtgphoihilheoeaaDoor
