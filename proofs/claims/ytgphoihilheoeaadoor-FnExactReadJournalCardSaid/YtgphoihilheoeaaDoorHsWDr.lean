/- Walks: texts read as deeds. -/
import Derived.Test.YtgphoihilheoeaaDoorHsWDdi
import Derived.Test.YtgphoihilheoeaaDoorHsCand
import Derived.Test.YtgphoihilheoeaaDoorHsOwnD
namespace Go.Proofs.YtgphoihilheoeaaDoor
open Go.Hs
set_option maxRecDepth 10000
set_option maxHeartbeats 4000000
set_option linter.unusedVariables false
set_option linter.unusedSimpArgs false

theorem leaf_some {O : Option Deed} {u : Value} {k n : Int} {l : List UInt8} (h : O = some ⟨k, l, n⟩) (hu : u = .bool true) : Value.tuple #[.agg #[.int .i64 k, str l, .int .i64 n], u] = .tuple #[dv (O.getD ⟨0, [], 0⟩), .bool O.isSome] := by
  subst h; subst hu; rfl
theorem leaf_none {O : Option Deed} {u : Value} (h : O = none) (hu : u = .bool false) : Value.tuple #[.agg #[.int .i64 0, str [], .int .i64 0], u] = .tuple #[dv (O.getD ⟨0, [], 0⟩), .bool O.isSome] := by
  subst h; subst hu; rfl
theorem impl_readDeed_ok (w : World) (s : List UInt8) (hM : EMx gMx w (.bool true) ()) (hs : s.length ≤ 1048576) :
    Does Tryd.prog 47 [str s] w (Ret w (.tuple #[dv ((rdD s).getD ⟨0, [], 0⟩), .bool (rdD s).isSome])) := by
  obtain ⟨wd, hW⟩ : ∃ wd, wd = (cutF 32 s).1 := ⟨_, rfl⟩
  obtain ⟨R, hR⟩ : ∃ R, R = (cutF 32 s).2.1 := ⟨_, rfl⟩
  obtain ⟨H, hH⟩ : ∃ H, H = (cutF 32 s).2.2 := ⟨_, rfl⟩
  have hRl : R.length ≤ 1048576 := by rw [hR]; have := (cutF_len 32 s).2; omega
  have k1 : ∀ w, EMx gMx w (.bool true) () → Does Tryd.prog 48 [str s, str [32]] w (Ret w (.tuple #[str wd, str R, .bool H])) := fun w hM => by
    subst hW hR hH; exact Cut_ok w s 32 hM hs
  have hr8 : (R.getD 0 0).toNat < 256 := UInt8.toNat_lt _
  have hc : cand s = (if s = [115, 105, 110, 103, 108, 101] then some ⟨0, [], 0⟩
    else if s = [98, 97, 99, 107] then some ⟨4, [], 0⟩
    else if wd = [105, 110, 116, 111] ∧ (R.length : Int) = 1 ∧ (48 : Int) ≤ ((R.getD 0 0).toNat : Int) ∧ ((R.getD 0 0).toNat : Int) ≤ 57 then some ⟨3, [], ((R.getD 0 0).toNat : Int) - 48⟩
    else if wd = [97, 100, 100] ∧ H = true then some ⟨1, R, 0⟩
    else if wd = [100, 114, 111, 112] ∧ H = true then some ⟨2, R, 0⟩ else none) := by
    subst hW hR hH
    have e : ((cutF 32 s).2.1.length = 1 ∧ 48 ≤ ((cutF 32 s).2.1.getD 0 0).toNat ∧ ((cutF 32 s).2.1.getD 0 0).toNat ≤ 57) ↔ (((cutF 32 s).2.1.length : Int) = 1 ∧ (48 : Int) ≤ (((cutF 32 s).2.1.getD 0 0).toNat : Int) ∧ (((cutF 32 s).2.1.getD 0 0).toNat : Int) ≤ 57) := by omega
    refine ite_congr rfl (fun _ => rfl) fun _ => ite_congr rfl (fun _ => rfl) fun _ => ite_congr (propext (and_congr Iff.rfl e)) (fun _ => rfl) fun _ => rfl
  have hr := rdD_cand s
  rw [hc] at hr
  obtain ⟨O, hO⟩ : ∃ O, O = rdD s := ⟨_, rfl⟩
  rw [← hO] at hr ⊢
  refine fn_of_Wc3t Tryd.func47 rfl Tryd.results47 Tryd.ntmps47 rfl Tryd.isAgg26 Tryd.sizeOf26 ?_
  have k2 : ∀ w k n, EMx gMx w (.bool true) () → Does Tryd.prog 44 [.agg #[.int .i64 k, str [], .int .i64 n]] w (Ret w (str (dtV ⟨k, [], n⟩))) := fun w k n hM => impl_deedText_ok w k n [] hM (by simp)
  have k3 : ∀ w k n, EMx gMx w (.bool true) () → Does Tryd.prog 44 [.agg #[.int .i64 k, str R, .int .i64 n]] w (Ret w (str (dtV ⟨k, R, n⟩))) := fun w k n hM => impl_deedText_ok w k n R hM hRl
  focus
    refine W_seq ?_; refine W_region rfl ?_; refine Wo_allocN rfl flat26 ?_; rintro b1 w1 hb1 E1 hB1; have hlb1 := hB1.lt; have hs1 := E1.size; refine Wo rfl (opv_assign (v := .bool _) rfl) ?_; refine Wo_nil ?_; refine W_seq ?_
    refine W_region rfl ?_; refine Wo rfl (opv_move (v := .string _) rfl) ?_; refine Wo_call rfl (opc2 (a := .string _) (b := .string _) Tryd.call48 rfl rfl) (k1 _ ((Mono.mono E1 hM))) ?_; rintro _ w2 ⟨rfl, E2⟩; have hs2 := E2.size
    refine Wo rfl (opv_move (v := .tuple _) rfl) ?_; refine Wo rfl (opv_extract (v := .string _) rfl rfl) ?_; refine Wo rfl (opv_extract (v := .string _) rfl rfl) ?_; refine Wo rfl (opv_extract (v := .bool _) rfl rfl) ?_
    refine Wo rfl (opv_assign (v := .string _) rfl) ?_; refine Wo rfl (opv_assign (v := .string _) rfl) ?_; refine Wo rfl (opv_assign (v := .bool _) rfl) ?_; refine Wo_nil ?_; refine W_seq ?_; refine W_region rfl ?_
    refine Wo rfl (opv_build (ps := []) (cs := [_, _, _]) flat26 rfl rfl) ?_; refine Wo_allocN rfl flat26 ?_; rintro b2 w3 hb2 E3 hB2; have hlb2 := hB2.lt; have hs3 := E3.size
    refine Wo_st3 rfl Tryd.sizeOf26 rfl rfl (by first | rfl | assumption) (by first | rfl | assumption) (by first | rfl | assumption) hB2 (by omega) ((E1.trans E2).trans E3) ?_; rintro w4 E4 hB2 K1 hz1
    have E5 := (E2.trans E3).wroteAt ((E1.trans E2).trans E3) E4 K1 hz1 (by omega); have szE5 := E5.size; have E6 := E3.wroteAt ((E1.trans E2).trans E3) E4 K1 hz1 (by omega); have szE6 := E6.size
    have hB1 := (hB1.ext (E2.trans E3)).of_heap (K1 _ (by omega)); refine Wo_nil ?_; refine W_seq ?_; refine W_block ?_; refine W_seq ?_; refine W_region rfl ?_; refine Wo rfl (opv_move (v := .string _) rfl) ?_
    refine Wo rfl (opv_eql_str rfl rfl) ?_; refine Wo rfl (opv_assign (v := .bool _) rfl) ?_; refine Wo_nil ?_; refine W_cond_dec rfl (fun h1 => ?_) (fun h1 => ?_); refine W_region rfl ?_
    refine Wo rfl (opv_fieldAddr Tryd.underlying26 rfl rfl Tryd.sizeOf3 rfl) ?_; refine Wo_st (v := .int _ _) rfl Tryd.sizeOf3 rfl rfl rfl hB2 (by decide) (by omega) E4 ?_; rintro w5 E7 hB2 K2 hz2
    have E8 := E5.wroteAt E4 E7 K2 hz2 (by omega); have szE8 := E8.size; have E9 := E6.wroteAt E4 E7 K2 hz2 (by omega); have szE9 := E9.size; simp only [List.set] at hB2; have hB1 := hB1.of_heap (K2 _ (by omega)); refine Wo_nil ?_
    refine W_seq ?_; refine W_seq ?_; refine W_region rfl ?_; refine Wo (v := .agg _) rfl (opv_load3 Tryd.isAgg26 Tryd.sizeOf26 rfl hB2) ?_; refine Wo_call rfl (opc1 (a := .agg _) Tryd.call44 rfl) (k2 _ _ _ ((Mono.mono E7 hM))) ?_
    rintro _ w6 ⟨rfl, E10⟩; have hs4 := E10.size; refine Wo rfl (opv_move (v := .string _) rfl) ?_; refine Wo rfl (opv_neq_str rfl rfl) ?_; refine Wo_nil ?_; refine W_cond_ndec rfl (fun h2 => ?_) (fun h2 => ?_); refine W_seq ?_
    refine W_region rfl ?_; refine Wo rfl (opv_build (ps := []) (cs := [_, _, _]) flat26 rfl rfl) ?_
    refine Wo_st3 rfl Tryd.sizeOf26 rfl rfl (by first | rfl | assumption) (by first | rfl | assumption) (by first | rfl | assumption) (hB1.ext E10) (by omega) (E7.trans E10) ?_; rintro w7 E11 hB1 K3 hz3
    have hB2 := (hB2.ext E10).of_heap (K3 _ (by omega)); refine Wo rfl (opv_assign (v := .bool _) rfl) ?_; refine Wo_nil ?_; refine W_ret ?_; rotate_left; refine W_skip ?_; refine W_seq ?_; refine W_region rfl ?_
    refine Wo (v := .agg _) rfl (opv_load3 Tryd.isAgg26 Tryd.sizeOf26 rfl (hB2.ext E10)) ?_
    refine Wo_st3 rfl Tryd.sizeOf26 rfl rfl (by first | rfl | assumption) (by first | rfl | assumption) (by first | rfl | assumption) (hB1.ext E10) (by omega) (E7.trans E10) ?_; rintro w7 E11 hB1 K3 hz3
    have hB2 := (hB2.ext E10).of_heap (K3 _ (by omega)); refine Wo rfl (opv_assign (v := .bool _) rfl) ?_; refine Wo_nil ?_; refine W_ret ?_; rotate_left; refine W_seq ?_; refine W_region rfl ?_
    refine Wo rfl (opv_move (v := .string _) rfl) ?_; refine Wo rfl (opv_eql_str rfl rfl) ?_; refine Wo rfl (opv_assign (v := .bool _) rfl) ?_; refine Wo_nil ?_; refine W_cond_dec rfl (fun h2 => ?_) (fun h2 => ?_)
    refine W_region rfl ?_; refine Wo rfl (opv_fieldAddr Tryd.underlying26 rfl rfl Tryd.sizeOf3 rfl) ?_; refine Wo_st (v := .int _ _) rfl Tryd.sizeOf3 rfl rfl rfl hB2 (by decide) (by omega) E4 ?_; rintro w5 E7 hB2 K2 hz2
    have E8 := E5.wroteAt E4 E7 K2 hz2 (by omega); have szE8 := E8.size; have E9 := E6.wroteAt E4 E7 K2 hz2 (by omega); have szE9 := E9.size; simp only [List.set] at hB2; have hB1 := hB1.of_heap (K2 _ (by omega)); refine Wo_nil ?_
    refine W_seq ?_; refine W_seq ?_; refine W_region rfl ?_; refine Wo (v := .agg _) rfl (opv_load3 Tryd.isAgg26 Tryd.sizeOf26 rfl hB2) ?_; refine Wo_call rfl (opc1 (a := .agg _) Tryd.call44 rfl) (k2 _ _ _ ((Mono.mono E7 hM))) ?_
    rintro _ w6 ⟨rfl, E10⟩; have hs4 := E10.size; refine Wo rfl (opv_move (v := .string _) rfl) ?_; refine Wo rfl (opv_neq_str rfl rfl) ?_; refine Wo_nil ?_; refine W_cond_ndec rfl (fun h3 => ?_) (fun h3 => ?_); refine W_seq ?_
    refine W_region rfl ?_; refine Wo rfl (opv_build (ps := []) (cs := [_, _, _]) flat26 rfl rfl) ?_
    refine Wo_st3 rfl Tryd.sizeOf26 rfl rfl (by first | rfl | assumption) (by first | rfl | assumption) (by first | rfl | assumption) (hB1.ext E10) (by omega) (E7.trans E10) ?_; rintro w7 E11 hB1 K3 hz3
    have hB2 := (hB2.ext E10).of_heap (K3 _ (by omega)); refine Wo rfl (opv_assign (v := .bool _) rfl) ?_; refine Wo_nil ?_; refine W_ret ?_; rotate_left; refine W_skip ?_; refine W_seq ?_; refine W_region rfl ?_
    refine Wo (v := .agg _) rfl (opv_load3 Tryd.isAgg26 Tryd.sizeOf26 rfl (hB2.ext E10)) ?_
    refine Wo_st3 rfl Tryd.sizeOf26 rfl rfl (by first | rfl | assumption) (by first | rfl | assumption) (by first | rfl | assumption) (hB1.ext E10) (by omega) (E7.trans E10) ?_; rintro w7 E11 hB1 K3 hz3
    have hB2 := (hB2.ext E10).of_heap (K3 _ (by omega)); refine Wo rfl (opv_assign (v := .bool _) rfl) ?_; refine Wo_nil ?_; refine W_ret ?_; rotate_left; refine W_seq ?_; refine W_region rfl ?_
    refine Wo rfl (opv_move (v := .string _) rfl) ?_; refine Wo rfl (opv_eql_str rfl rfl) ?_; refine Wo_split_dec rfl (opv_move (v := .bool _) rfl) (fun h3 => ?_) (fun h3 => ?_); refine Wo rfl (opv_move (v := .string _) rfl) ?_
    refine Wo rfl (opv_len_str Tryd.underlying9 rfl) ?_; refine Wo rfl (opv_eql rfl rfl) ?_; refine Wo rfl (opv_pick_t (v := .bool _) rfl rfl) ?_; refine Wo_split_dec rfl (opv_move (v := .bool _) rfl) (fun h4 => ?_) (fun h4 => ?_)
    refine Wo rfl (opv_move (v := .string _) rfl) ?_; refine Wo rfl (opv_index_str (k := 0) Tryd.underlying9 rfl rfl (by omega)) ?_; refine Wo rfl (opv_geq rfl rfl) ?_; refine Wo rfl (opv_pick_t (v := .bool _) rfl rfl) ?_
    refine Wo_split_dec rfl (opv_move (v := .bool _) rfl) (fun h5 => ?_) (fun h5 => ?_); refine Wo rfl (opv_move (v := .string _) rfl) ?_; refine Wo rfl (opv_index_str (k := 0) Tryd.underlying9 rfl rfl (by omega)) ?_
    refine Wo rfl (opv_leq rfl rfl) ?_; refine Wo rfl (opv_pick_t (v := .bool _) rfl rfl) ?_; refine Wo rfl (opv_assign (v := .bool _) rfl) ?_; refine Wo_nil ?_; refine W_cond_dec rfl (fun h6 => ?_) (fun h6 => ?_); refine W_seq ?_
    refine W_region rfl ?_; refine Wo rfl (opv_fieldAddr Tryd.underlying26 rfl rfl Tryd.sizeOf3 rfl) ?_; refine Wo_st (v := .int _ _) rfl Tryd.sizeOf3 rfl rfl rfl hB2 (by decide) (by omega) E4 ?_; rintro w5 E7 hB2 K2 hz2
    have E8 := E5.wroteAt E4 E7 K2 hz2 (by omega); have szE8 := E8.size; have E9 := E6.wroteAt E4 E7 K2 hz2 (by omega); have szE9 := E9.size; simp only [List.set] at hB2; have hB1 := hB1.of_heap (K2 _ (by omega)); refine Wo_nil ?_
    refine W_region rfl ?_; refine Wo rfl (opv_move (v := .string _) rfl) ?_; refine Wo rfl (opv_index_str (k := 0) Tryd.underlying9 rfl rfl (by omega)) ?_; refine Wo rfl (opv_sub_u8 rfl rfl (by omega)) ?_
    refine Wo rfl (opv_conv_int Tryd.underlying5 Tryd.underlying3 rfl (by omega)) ?_; refine Wo rfl (opv_fieldAddr Tryd.underlying26 rfl rfl Tryd.sizeOf3 rfl) ?_
    refine Wo_st (v := .int _ _) rfl Tryd.sizeOf3 rfl rfl rfl hB2 (by decide) (by omega) E7 ?_; rintro w6 E10 hB2 K3 hz3; have E11 := E8.wroteAt E7 E10 K3 hz3 (by omega); have szE11 := E11.size
    have E12 := E9.wroteAt E7 E10 K3 hz3 (by omega); have szE12 := E12.size; simp only [List.set] at hB2; have hB1 := hB1.of_heap (K3 _ (by omega)); refine Wo_nil ?_; refine W_seq ?_; refine W_seq ?_; refine W_region rfl ?_
    refine Wo (v := .agg _) rfl (opv_load3 Tryd.isAgg26 Tryd.sizeOf26 rfl hB2) ?_; refine Wo_call rfl (opc1 (a := .agg _) Tryd.call44 rfl) (k2 _ _ _ ((Mono.mono E10 hM))) ?_; rintro _ w7 ⟨rfl, E13⟩; have hs4 := E13.size
    refine Wo rfl (opv_move (v := .string _) rfl) ?_; refine Wo rfl (opv_neq_str rfl rfl) ?_; refine Wo_nil ?_; refine W_cond_ndec rfl (fun h7 => ?_) (fun h7 => ?_); refine W_seq ?_; refine W_region rfl ?_
    refine Wo rfl (opv_build (ps := []) (cs := [_, _, _]) flat26 rfl rfl) ?_
    refine Wo_st3 rfl Tryd.sizeOf26 rfl rfl (by first | rfl | assumption) (by first | rfl | assumption) (by first | rfl | assumption) (hB1.ext E13) (by omega) (E10.trans E13) ?_; rintro w8 E14 hB1 K4 hz4
    have hB2 := (hB2.ext E13).of_heap (K4 _ (by omega)); refine Wo rfl (opv_assign (v := .bool _) rfl) ?_; refine Wo_nil ?_; refine W_ret ?_; rotate_left; refine W_skip ?_; refine W_seq ?_; refine W_region rfl ?_
    refine Wo (v := .agg _) rfl (opv_load3 Tryd.isAgg26 Tryd.sizeOf26 rfl (hB2.ext E13)) ?_
    refine Wo_st3 rfl Tryd.sizeOf26 rfl rfl (by first | rfl | assumption) (by first | rfl | assumption) (by first | rfl | assumption) (hB1.ext E13) (by omega) (E10.trans E13) ?_; rintro w8 E14 hB1 K4 hz4
    have hB2 := (hB2.ext E13).of_heap (K4 _ (by omega)); refine Wo rfl (opv_assign (v := .bool _) rfl) ?_; refine Wo_nil ?_; refine W_ret ?_; rotate_left; refine W_seq ?_; refine W_region rfl ?_
    refine Wo rfl (opv_move (v := .string _) rfl) ?_; refine Wo rfl (opv_eql_str rfl rfl) ?_; refine Wo_split_dec rfl (opv_move (v := .bool _) rfl) (fun h7 => ?_) (fun h7 => ?_); refine Wo rfl (opv_move (v := .bool _) rfl) ?_
    refine Wo rfl (opv_pick_t (v := .bool _) rfl rfl) ?_; refine Wo rfl (opv_assign (v := .bool _) rfl) ?_; refine Wo_nil ?_; refine W_cond rfl (fun h8 => ?_) (fun h8 => ?_); refine W_seq ?_; refine W_region rfl ?_
    refine Wo rfl (opv_fieldAddr Tryd.underlying26 rfl rfl Tryd.sizeOf3 rfl) ?_; refine Wo_st (v := .int _ _) rfl Tryd.sizeOf3 rfl rfl rfl hB2 (by decide) (by omega) E4 ?_; rintro w5 E7 hB2 K2 hz2
    have E8 := E5.wroteAt E4 E7 K2 hz2 (by omega); have szE8 := E8.size; have E9 := E6.wroteAt E4 E7 K2 hz2 (by omega); have szE9 := E9.size; simp only [List.set] at hB2; have hB1 := hB1.of_heap (K2 _ (by omega)); refine Wo_nil ?_
    refine W_region rfl ?_; refine Wo rfl (opv_move (v := .string _) rfl) ?_; refine Wo rfl (opv_fieldAddr Tryd.underlying26 rfl rfl Tryd.sizeOf9 rfl) ?_
    refine Wo_st (v := .string _) rfl Tryd.sizeOf9 rfl rfl rfl hB2 (by decide) (by omega) E7 ?_; rintro w6 E10 hB2 K3 hz3; have E11 := E8.wroteAt E7 E10 K3 hz3 (by omega); have szE11 := E11.size
    have E12 := E9.wroteAt E7 E10 K3 hz3 (by omega); have szE12 := E12.size; simp only [List.set] at hB2; have hB1 := hB1.of_heap (K3 _ (by omega)); refine Wo_nil ?_; refine W_seq ?_; refine W_seq ?_; refine W_region rfl ?_
    refine Wo (v := .agg _) rfl (opv_load3 Tryd.isAgg26 Tryd.sizeOf26 rfl hB2) ?_; refine Wo_call rfl (opc1 (a := .agg _) Tryd.call44 rfl) (k3 _ _ _ ((Mono.mono E10 hM))) ?_; rintro _ w7 ⟨rfl, E13⟩; have hs4 := E13.size
    refine Wo rfl (opv_move (v := .string _) rfl) ?_; refine Wo rfl (opv_neq_str rfl rfl) ?_; refine Wo_nil ?_; refine W_cond_ndec rfl (fun h9 => ?_) (fun h9 => ?_); refine W_seq ?_; refine W_region rfl ?_
    refine Wo rfl (opv_build (ps := []) (cs := [_, _, _]) flat26 rfl rfl) ?_
    refine Wo_st3 rfl Tryd.sizeOf26 rfl rfl (by first | rfl | assumption) (by first | rfl | assumption) (by first | rfl | assumption) (hB1.ext E13) (by omega) (E10.trans E13) ?_; rintro w8 E14 hB1 K4 hz4
    have hB2 := (hB2.ext E13).of_heap (K4 _ (by omega)); refine Wo rfl (opv_assign (v := .bool _) rfl) ?_; refine Wo_nil ?_; refine W_ret ?_; rotate_left; refine W_skip ?_; refine W_seq ?_; refine W_region rfl ?_
    refine Wo (v := .agg _) rfl (opv_load3 Tryd.isAgg26 Tryd.sizeOf26 rfl (hB2.ext E13)) ?_
    refine Wo_st3 rfl Tryd.sizeOf26 rfl rfl (by first | rfl | assumption) (by first | rfl | assumption) (by first | rfl | assumption) (hB1.ext E13) (by omega) (E10.trans E13) ?_; rintro w8 E14 hB1 K4 hz4
    have hB2 := (hB2.ext E13).of_heap (K4 _ (by omega)); refine Wo rfl (opv_assign (v := .bool _) rfl) ?_; refine Wo_nil ?_; refine W_ret ?_; rotate_left; refine W_seq ?_; refine W_region rfl ?_
    refine Wo rfl (opv_move (v := .string _) rfl) ?_; refine Wo rfl (opv_eql_str rfl rfl) ?_; refine Wo_split_dec rfl (opv_move (v := .bool _) rfl) (fun h9 => ?_) (fun h9 => ?_); refine Wo rfl (opv_move (v := .bool _) rfl) ?_
    refine Wo rfl (opv_pick_t (v := .bool _) rfl rfl) ?_; refine Wo rfl (opv_assign (v := .bool _) rfl) ?_; refine Wo_nil ?_; refine W_cond rfl (fun h10 => ?_) (fun h10 => ?_); refine W_seq ?_; refine W_region rfl ?_
    refine Wo rfl (opv_fieldAddr Tryd.underlying26 rfl rfl Tryd.sizeOf3 rfl) ?_; refine Wo_st (v := .int _ _) rfl Tryd.sizeOf3 rfl rfl rfl hB2 (by decide) (by omega) E4 ?_; rintro w5 E7 hB2 K2 hz2
    have E8 := E5.wroteAt E4 E7 K2 hz2 (by omega); have szE8 := E8.size; have E9 := E6.wroteAt E4 E7 K2 hz2 (by omega); have szE9 := E9.size; simp only [List.set] at hB2; have hB1 := hB1.of_heap (K2 _ (by omega)); refine Wo_nil ?_
    refine W_region rfl ?_; refine Wo rfl (opv_move (v := .string _) rfl) ?_; refine Wo rfl (opv_fieldAddr Tryd.underlying26 rfl rfl Tryd.sizeOf9 rfl) ?_
    refine Wo_st (v := .string _) rfl Tryd.sizeOf9 rfl rfl rfl hB2 (by decide) (by omega) E7 ?_; rintro w6 E10 hB2 K3 hz3; have E11 := E8.wroteAt E7 E10 K3 hz3 (by omega); have szE11 := E11.size
    have E12 := E9.wroteAt E7 E10 K3 hz3 (by omega); have szE12 := E12.size; simp only [List.set] at hB2; have hB1 := hB1.of_heap (K3 _ (by omega)); refine Wo_nil ?_; refine W_seq ?_; refine W_seq ?_; refine W_region rfl ?_
    refine Wo (v := .agg _) rfl (opv_load3 Tryd.isAgg26 Tryd.sizeOf26 rfl hB2) ?_; refine Wo_call rfl (opc1 (a := .agg _) Tryd.call44 rfl) (k3 _ _ _ ((Mono.mono E10 hM))) ?_; rintro _ w7 ⟨rfl, E13⟩; have hs4 := E13.size
    refine Wo rfl (opv_move (v := .string _) rfl) ?_; refine Wo rfl (opv_neq_str rfl rfl) ?_; refine Wo_nil ?_; refine W_cond_ndec rfl (fun h11 => ?_) (fun h11 => ?_); refine W_seq ?_; refine W_region rfl ?_
    refine Wo rfl (opv_build (ps := []) (cs := [_, _, _]) flat26 rfl rfl) ?_
    refine Wo_st3 rfl Tryd.sizeOf26 rfl rfl (by first | rfl | assumption) (by first | rfl | assumption) (by first | rfl | assumption) (hB1.ext E13) (by omega) (E10.trans E13) ?_; rintro w8 E14 hB1 K4 hz4
    have hB2 := (hB2.ext E13).of_heap (K4 _ (by omega)); refine Wo rfl (opv_assign (v := .bool _) rfl) ?_; refine Wo_nil ?_; refine W_ret ?_; rotate_left; refine W_skip ?_; refine W_seq ?_; refine W_region rfl ?_
    refine Wo (v := .agg _) rfl (opv_load3 Tryd.isAgg26 Tryd.sizeOf26 rfl (hB2.ext E13)) ?_
    refine Wo_st3 rfl Tryd.sizeOf26 rfl rfl (by first | rfl | assumption) (by first | rfl | assumption) (by first | rfl | assumption) (hB1.ext E13) (by omega) (E10.trans E13) ?_; rintro w8 E14 hB1 K4 hz4
    have hB2 := (hB2.ext E13).of_heap (K4 _ (by omega)); refine Wo rfl (opv_assign (v := .bool _) rfl) ?_; refine Wo_nil ?_; refine W_ret ?_; rotate_left; refine W_seq ?_; refine W_region rfl ?_
    refine Wo rfl (opv_build (ps := []) (cs := [_, _, _]) flat26 rfl rfl) ?_; refine Wo_st3 rfl Tryd.sizeOf26 rfl rfl (by first | rfl | assumption) (by first | rfl | assumption) (by first | rfl | assumption) hB1 (by omega) E4 ?_
    rintro w5 E7 hB1 K2 hz2; have hB2 := hB2.of_heap (K2 _ (by omega)); refine Wo rfl (opv_assign (v := .bool _) rfl) ?_; refine Wo_nil ?_; refine W_ret ?_; rotate_left; refine Wo_skip rfl ?_
    refine Wo rfl (opv_pick_f (v := .bool _) rfl rfl) ?_; refine Wo rfl (opv_assign (v := .bool _) rfl) ?_; refine Wo_nil ?_; refine W_cond_false rfl ?_; refine W_seq ?_; refine W_region rfl ?_
    refine Wo rfl (opv_build (ps := []) (cs := [_, _, _]) flat26 rfl rfl) ?_; refine Wo_st3 rfl Tryd.sizeOf26 rfl rfl (by first | rfl | assumption) (by first | rfl | assumption) (by first | rfl | assumption) hB1 (by omega) E4 ?_
    rintro w5 E7 hB1 K2 hz2; have hB2 := hB2.of_heap (K2 _ (by omega)); refine Wo rfl (opv_assign (v := .bool _) rfl) ?_; refine Wo_nil ?_; refine W_ret ?_; rotate_left; refine Wo_skip rfl ?_
    refine Wo rfl (opv_pick_f (v := .bool _) rfl rfl) ?_; refine Wo rfl (opv_assign (v := .bool _) rfl) ?_; refine Wo_nil ?_; refine W_cond_false rfl ?_; refine W_seq ?_; refine W_region rfl ?_
    refine Wo rfl (opv_move (v := .string _) rfl) ?_; refine Wo rfl (opv_eql_str rfl rfl) ?_; refine Wo_split_dec rfl (opv_move (v := .bool _) rfl) (fun h8 => ?_) (fun h8 => ?_); refine Wo rfl (opv_move (v := .bool _) rfl) ?_
    refine Wo rfl (opv_pick_t (v := .bool _) rfl rfl) ?_; refine Wo rfl (opv_assign (v := .bool _) rfl) ?_; refine Wo_nil ?_; refine W_cond rfl (fun h9 => ?_) (fun h9 => ?_); refine W_seq ?_; refine W_region rfl ?_
    refine Wo rfl (opv_fieldAddr Tryd.underlying26 rfl rfl Tryd.sizeOf3 rfl) ?_; refine Wo_st (v := .int _ _) rfl Tryd.sizeOf3 rfl rfl rfl hB2 (by decide) (by omega) E4 ?_; rintro w5 E7 hB2 K2 hz2
    have E8 := E5.wroteAt E4 E7 K2 hz2 (by omega); have szE8 := E8.size; have E9 := E6.wroteAt E4 E7 K2 hz2 (by omega); have szE9 := E9.size; simp only [List.set] at hB2; have hB1 := hB1.of_heap (K2 _ (by omega)); refine Wo_nil ?_
    refine W_region rfl ?_; refine Wo rfl (opv_move (v := .string _) rfl) ?_; refine Wo rfl (opv_fieldAddr Tryd.underlying26 rfl rfl Tryd.sizeOf9 rfl) ?_
    refine Wo_st (v := .string _) rfl Tryd.sizeOf9 rfl rfl rfl hB2 (by decide) (by omega) E7 ?_; rintro w6 E10 hB2 K3 hz3; have E11 := E8.wroteAt E7 E10 K3 hz3 (by omega); have szE11 := E11.size
    have E12 := E9.wroteAt E7 E10 K3 hz3 (by omega); have szE12 := E12.size; simp only [List.set] at hB2; have hB1 := hB1.of_heap (K3 _ (by omega)); refine Wo_nil ?_; refine W_seq ?_; refine W_seq ?_; refine W_region rfl ?_
    refine Wo (v := .agg _) rfl (opv_load3 Tryd.isAgg26 Tryd.sizeOf26 rfl hB2) ?_; refine Wo_call rfl (opc1 (a := .agg _) Tryd.call44 rfl) (k3 _ _ _ ((Mono.mono E10 hM))) ?_; rintro _ w7 ⟨rfl, E13⟩; have hs4 := E13.size
    refine Wo rfl (opv_move (v := .string _) rfl) ?_; refine Wo rfl (opv_neq_str rfl rfl) ?_; refine Wo_nil ?_; refine W_cond_ndec rfl (fun h10 => ?_) (fun h10 => ?_); refine W_seq ?_; refine W_region rfl ?_
    refine Wo rfl (opv_build (ps := []) (cs := [_, _, _]) flat26 rfl rfl) ?_
    refine Wo_st3 rfl Tryd.sizeOf26 rfl rfl (by first | rfl | assumption) (by first | rfl | assumption) (by first | rfl | assumption) (hB1.ext E13) (by omega) (E10.trans E13) ?_; rintro w8 E14 hB1 K4 hz4
    have hB2 := (hB2.ext E13).of_heap (K4 _ (by omega)); refine Wo rfl (opv_assign (v := .bool _) rfl) ?_; refine Wo_nil ?_; refine W_ret ?_; rotate_left; refine W_skip ?_; refine W_seq ?_; refine W_region rfl ?_
    refine Wo (v := .agg _) rfl (opv_load3 Tryd.isAgg26 Tryd.sizeOf26 rfl (hB2.ext E13)) ?_
    refine Wo_st3 rfl Tryd.sizeOf26 rfl rfl (by first | rfl | assumption) (by first | rfl | assumption) (by first | rfl | assumption) (hB1.ext E13) (by omega) (E10.trans E13) ?_; rintro w8 E14 hB1 K4 hz4
    have hB2 := (hB2.ext E13).of_heap (K4 _ (by omega)); refine Wo rfl (opv_assign (v := .bool _) rfl) ?_; refine Wo_nil ?_; refine W_ret ?_; rotate_left; refine W_seq ?_; refine W_region rfl ?_
    refine Wo rfl (opv_build (ps := []) (cs := [_, _, _]) flat26 rfl rfl) ?_; refine Wo_st3 rfl Tryd.sizeOf26 rfl rfl (by first | rfl | assumption) (by first | rfl | assumption) (by first | rfl | assumption) hB1 (by omega) E4 ?_
    rintro w5 E7 hB1 K2 hz2; have hB2 := hB2.of_heap (K2 _ (by omega)); refine Wo rfl (opv_assign (v := .bool _) rfl) ?_; refine Wo_nil ?_; refine W_ret ?_; rotate_left; refine Wo_skip rfl ?_
    refine Wo rfl (opv_pick_f (v := .bool _) rfl rfl) ?_; refine Wo rfl (opv_assign (v := .bool _) rfl) ?_; refine Wo_nil ?_; refine W_cond_false rfl ?_; refine W_seq ?_; refine W_region rfl ?_
    refine Wo rfl (opv_build (ps := []) (cs := [_, _, _]) flat26 rfl rfl) ?_; refine Wo_st3 rfl Tryd.sizeOf26 rfl rfl (by first | rfl | assumption) (by first | rfl | assumption) (by first | rfl | assumption) hB1 (by omega) E4 ?_
    rintro w5 E7 hB1 K2 hz2; have hB2 := hB2.of_heap (K2 _ (by omega)); refine Wo rfl (opv_assign (v := .bool _) rfl) ?_; refine Wo_nil ?_; refine W_ret ?_; rotate_left; refine Wo_skip rfl ?_; refine Wo_skip rfl ?_
    refine Wo_skip rfl ?_; refine Wo rfl (opv_pick_f (v := .bool _) rfl rfl) ?_; refine Wo rfl (opv_assign (v := .bool _) rfl) ?_; refine Wo_nil ?_; refine W_cond_false rfl ?_; refine W_seq ?_; refine W_region rfl ?_
    refine Wo rfl (opv_move (v := .string _) rfl) ?_; refine Wo rfl (opv_eql_str rfl rfl) ?_; refine Wo_split_dec rfl (opv_move (v := .bool _) rfl) (fun h6 => ?_) (fun h6 => ?_); refine Wo rfl (opv_move (v := .bool _) rfl) ?_
    refine Wo rfl (opv_pick_t (v := .bool _) rfl rfl) ?_; refine Wo rfl (opv_assign (v := .bool _) rfl) ?_; refine Wo_nil ?_; refine W_cond rfl (fun h7 => ?_) (fun h7 => ?_); refine W_seq ?_; refine W_region rfl ?_
    refine Wo rfl (opv_fieldAddr Tryd.underlying26 rfl rfl Tryd.sizeOf3 rfl) ?_; refine Wo_st (v := .int _ _) rfl Tryd.sizeOf3 rfl rfl rfl hB2 (by decide) (by omega) E4 ?_; rintro w5 E7 hB2 K2 hz2
    have E8 := E5.wroteAt E4 E7 K2 hz2 (by omega); have szE8 := E8.size; have E9 := E6.wroteAt E4 E7 K2 hz2 (by omega); have szE9 := E9.size; simp only [List.set] at hB2; have hB1 := hB1.of_heap (K2 _ (by omega)); refine Wo_nil ?_
    refine W_region rfl ?_; refine Wo rfl (opv_move (v := .string _) rfl) ?_; refine Wo rfl (opv_fieldAddr Tryd.underlying26 rfl rfl Tryd.sizeOf9 rfl) ?_
    refine Wo_st (v := .string _) rfl Tryd.sizeOf9 rfl rfl rfl hB2 (by decide) (by omega) E7 ?_; rintro w6 E10 hB2 K3 hz3; have E11 := E8.wroteAt E7 E10 K3 hz3 (by omega); have szE11 := E11.size
    have E12 := E9.wroteAt E7 E10 K3 hz3 (by omega); have szE12 := E12.size; simp only [List.set] at hB2; have hB1 := hB1.of_heap (K3 _ (by omega)); refine Wo_nil ?_; refine W_seq ?_; refine W_seq ?_; refine W_region rfl ?_
    refine Wo (v := .agg _) rfl (opv_load3 Tryd.isAgg26 Tryd.sizeOf26 rfl hB2) ?_; refine Wo_call rfl (opc1 (a := .agg _) Tryd.call44 rfl) (k3 _ _ _ ((Mono.mono E10 hM))) ?_; rintro _ w7 ⟨rfl, E13⟩; have hs4 := E13.size
    refine Wo rfl (opv_move (v := .string _) rfl) ?_; refine Wo rfl (opv_neq_str rfl rfl) ?_; refine Wo_nil ?_; refine W_cond_ndec rfl (fun h8 => ?_) (fun h8 => ?_); refine W_seq ?_; refine W_region rfl ?_
    refine Wo rfl (opv_build (ps := []) (cs := [_, _, _]) flat26 rfl rfl) ?_
    refine Wo_st3 rfl Tryd.sizeOf26 rfl rfl (by first | rfl | assumption) (by first | rfl | assumption) (by first | rfl | assumption) (hB1.ext E13) (by omega) (E10.trans E13) ?_; rintro w8 E14 hB1 K4 hz4
    have hB2 := (hB2.ext E13).of_heap (K4 _ (by omega)); refine Wo rfl (opv_assign (v := .bool _) rfl) ?_; refine Wo_nil ?_; refine W_ret ?_; rotate_left; refine W_skip ?_; refine W_seq ?_; refine W_region rfl ?_
    refine Wo (v := .agg _) rfl (opv_load3 Tryd.isAgg26 Tryd.sizeOf26 rfl (hB2.ext E13)) ?_
    refine Wo_st3 rfl Tryd.sizeOf26 rfl rfl (by first | rfl | assumption) (by first | rfl | assumption) (by first | rfl | assumption) (hB1.ext E13) (by omega) (E10.trans E13) ?_; rintro w8 E14 hB1 K4 hz4
    have hB2 := (hB2.ext E13).of_heap (K4 _ (by omega)); refine Wo rfl (opv_assign (v := .bool _) rfl) ?_; refine Wo_nil ?_; refine W_ret ?_; rotate_left; refine W_seq ?_; refine W_region rfl ?_
    refine Wo rfl (opv_move (v := .string _) rfl) ?_; refine Wo rfl (opv_eql_str rfl rfl) ?_; refine Wo_split_dec rfl (opv_move (v := .bool _) rfl) (fun h8 => ?_) (fun h8 => ?_); refine Wo rfl (opv_move (v := .bool _) rfl) ?_
    refine Wo rfl (opv_pick_t (v := .bool _) rfl rfl) ?_; refine Wo rfl (opv_assign (v := .bool _) rfl) ?_; refine Wo_nil ?_; refine W_cond rfl (fun h9 => ?_) (fun h9 => ?_); refine W_seq ?_; refine W_region rfl ?_
    refine Wo rfl (opv_fieldAddr Tryd.underlying26 rfl rfl Tryd.sizeOf3 rfl) ?_; refine Wo_st (v := .int _ _) rfl Tryd.sizeOf3 rfl rfl rfl hB2 (by decide) (by omega) E4 ?_; rintro w5 E7 hB2 K2 hz2
    have E8 := E5.wroteAt E4 E7 K2 hz2 (by omega); have szE8 := E8.size; have E9 := E6.wroteAt E4 E7 K2 hz2 (by omega); have szE9 := E9.size; simp only [List.set] at hB2; have hB1 := hB1.of_heap (K2 _ (by omega)); refine Wo_nil ?_
    refine W_region rfl ?_; refine Wo rfl (opv_move (v := .string _) rfl) ?_; refine Wo rfl (opv_fieldAddr Tryd.underlying26 rfl rfl Tryd.sizeOf9 rfl) ?_
    refine Wo_st (v := .string _) rfl Tryd.sizeOf9 rfl rfl rfl hB2 (by decide) (by omega) E7 ?_; rintro w6 E10 hB2 K3 hz3; have E11 := E8.wroteAt E7 E10 K3 hz3 (by omega); have szE11 := E11.size
    have E12 := E9.wroteAt E7 E10 K3 hz3 (by omega); have szE12 := E12.size; simp only [List.set] at hB2; have hB1 := hB1.of_heap (K3 _ (by omega)); refine Wo_nil ?_; refine W_seq ?_; refine W_seq ?_; refine W_region rfl ?_
    refine Wo (v := .agg _) rfl (opv_load3 Tryd.isAgg26 Tryd.sizeOf26 rfl hB2) ?_; refine Wo_call rfl (opc1 (a := .agg _) Tryd.call44 rfl) (k3 _ _ _ ((Mono.mono E10 hM))) ?_; rintro _ w7 ⟨rfl, E13⟩; have hs4 := E13.size
    refine Wo rfl (opv_move (v := .string _) rfl) ?_; refine Wo rfl (opv_neq_str rfl rfl) ?_; refine Wo_nil ?_; refine W_cond_ndec rfl (fun h10 => ?_) (fun h10 => ?_); refine W_seq ?_; refine W_region rfl ?_
    refine Wo rfl (opv_build (ps := []) (cs := [_, _, _]) flat26 rfl rfl) ?_
    refine Wo_st3 rfl Tryd.sizeOf26 rfl rfl (by first | rfl | assumption) (by first | rfl | assumption) (by first | rfl | assumption) (hB1.ext E13) (by omega) (E10.trans E13) ?_; rintro w8 E14 hB1 K4 hz4
    have hB2 := (hB2.ext E13).of_heap (K4 _ (by omega)); refine Wo rfl (opv_assign (v := .bool _) rfl) ?_; refine Wo_nil ?_; refine W_ret ?_; rotate_left; refine W_skip ?_; refine W_seq ?_; refine W_region rfl ?_
    refine Wo (v := .agg _) rfl (opv_load3 Tryd.isAgg26 Tryd.sizeOf26 rfl (hB2.ext E13)) ?_
    refine Wo_st3 rfl Tryd.sizeOf26 rfl rfl (by first | rfl | assumption) (by first | rfl | assumption) (by first | rfl | assumption) (hB1.ext E13) (by omega) (E10.trans E13) ?_; rintro w8 E14 hB1 K4 hz4
    have hB2 := (hB2.ext E13).of_heap (K4 _ (by omega)); refine Wo rfl (opv_assign (v := .bool _) rfl) ?_; refine Wo_nil ?_; refine W_ret ?_; rotate_left; refine W_seq ?_; refine W_region rfl ?_
    refine Wo rfl (opv_build (ps := []) (cs := [_, _, _]) flat26 rfl rfl) ?_; refine Wo_st3 rfl Tryd.sizeOf26 rfl rfl (by first | rfl | assumption) (by first | rfl | assumption) (by first | rfl | assumption) hB1 (by omega) E4 ?_
    rintro w5 E7 hB1 K2 hz2; have hB2 := hB2.of_heap (K2 _ (by omega)); refine Wo rfl (opv_assign (v := .bool _) rfl) ?_; refine Wo_nil ?_; refine W_ret ?_; rotate_left; refine Wo_skip rfl ?_
    refine Wo rfl (opv_pick_f (v := .bool _) rfl rfl) ?_; refine Wo rfl (opv_assign (v := .bool _) rfl) ?_; refine Wo_nil ?_; refine W_cond_false rfl ?_; refine W_seq ?_; refine W_region rfl ?_
    refine Wo rfl (opv_build (ps := []) (cs := [_, _, _]) flat26 rfl rfl) ?_; refine Wo_st3 rfl Tryd.sizeOf26 rfl rfl (by first | rfl | assumption) (by first | rfl | assumption) (by first | rfl | assumption) hB1 (by omega) E4 ?_
    rintro w5 E7 hB1 K2 hz2; have hB2 := hB2.of_heap (K2 _ (by omega)); refine Wo rfl (opv_assign (v := .bool _) rfl) ?_; refine Wo_nil ?_; refine W_ret ?_; rotate_left; refine Wo_skip rfl ?_
    refine Wo rfl (opv_pick_f (v := .bool _) rfl rfl) ?_; refine Wo rfl (opv_assign (v := .bool _) rfl) ?_; refine Wo_nil ?_; refine W_cond_false rfl ?_; refine W_seq ?_; refine W_region rfl ?_
    refine Wo rfl (opv_move (v := .string _) rfl) ?_; refine Wo rfl (opv_eql_str rfl rfl) ?_; refine Wo_split_dec rfl (opv_move (v := .bool _) rfl) (fun h7 => ?_) (fun h7 => ?_); refine Wo rfl (opv_move (v := .bool _) rfl) ?_
    refine Wo rfl (opv_pick_t (v := .bool _) rfl rfl) ?_; refine Wo rfl (opv_assign (v := .bool _) rfl) ?_; refine Wo_nil ?_; refine W_cond rfl (fun h8 => ?_) (fun h8 => ?_); refine W_seq ?_; refine W_region rfl ?_
    refine Wo rfl (opv_fieldAddr Tryd.underlying26 rfl rfl Tryd.sizeOf3 rfl) ?_; refine Wo_st (v := .int _ _) rfl Tryd.sizeOf3 rfl rfl rfl hB2 (by decide) (by omega) E4 ?_; rintro w5 E7 hB2 K2 hz2
    have E8 := E5.wroteAt E4 E7 K2 hz2 (by omega); have szE8 := E8.size; have E9 := E6.wroteAt E4 E7 K2 hz2 (by omega); have szE9 := E9.size; simp only [List.set] at hB2; have hB1 := hB1.of_heap (K2 _ (by omega)); refine Wo_nil ?_
    refine W_region rfl ?_; refine Wo rfl (opv_move (v := .string _) rfl) ?_; refine Wo rfl (opv_fieldAddr Tryd.underlying26 rfl rfl Tryd.sizeOf9 rfl) ?_
    refine Wo_st (v := .string _) rfl Tryd.sizeOf9 rfl rfl rfl hB2 (by decide) (by omega) E7 ?_; rintro w6 E10 hB2 K3 hz3; have E11 := E8.wroteAt E7 E10 K3 hz3 (by omega); have szE11 := E11.size
    have E12 := E9.wroteAt E7 E10 K3 hz3 (by omega); have szE12 := E12.size; simp only [List.set] at hB2; have hB1 := hB1.of_heap (K3 _ (by omega)); refine Wo_nil ?_; refine W_seq ?_; refine W_seq ?_; refine W_region rfl ?_
    refine Wo (v := .agg _) rfl (opv_load3 Tryd.isAgg26 Tryd.sizeOf26 rfl hB2) ?_; refine Wo_call rfl (opc1 (a := .agg _) Tryd.call44 rfl) (k3 _ _ _ ((Mono.mono E10 hM))) ?_; rintro _ w7 ⟨rfl, E13⟩; have hs4 := E13.size
    refine Wo rfl (opv_move (v := .string _) rfl) ?_; refine Wo rfl (opv_neq_str rfl rfl) ?_; refine Wo_nil ?_; refine W_cond_ndec rfl (fun h9 => ?_) (fun h9 => ?_); refine W_seq ?_; refine W_region rfl ?_
    refine Wo rfl (opv_build (ps := []) (cs := [_, _, _]) flat26 rfl rfl) ?_
    refine Wo_st3 rfl Tryd.sizeOf26 rfl rfl (by first | rfl | assumption) (by first | rfl | assumption) (by first | rfl | assumption) (hB1.ext E13) (by omega) (E10.trans E13) ?_; rintro w8 E14 hB1 K4 hz4
    have hB2 := (hB2.ext E13).of_heap (K4 _ (by omega)); refine Wo rfl (opv_assign (v := .bool _) rfl) ?_; refine Wo_nil ?_; refine W_ret ?_; rotate_left; refine W_skip ?_; refine W_seq ?_; refine W_region rfl ?_
    refine Wo (v := .agg _) rfl (opv_load3 Tryd.isAgg26 Tryd.sizeOf26 rfl (hB2.ext E13)) ?_
    refine Wo_st3 rfl Tryd.sizeOf26 rfl rfl (by first | rfl | assumption) (by first | rfl | assumption) (by first | rfl | assumption) (hB1.ext E13) (by omega) (E10.trans E13) ?_; rintro w8 E14 hB1 K4 hz4
    have hB2 := (hB2.ext E13).of_heap (K4 _ (by omega)); refine Wo rfl (opv_assign (v := .bool _) rfl) ?_; refine Wo_nil ?_; refine W_ret ?_; rotate_left; refine W_seq ?_; refine W_region rfl ?_
    refine Wo rfl (opv_build (ps := []) (cs := [_, _, _]) flat26 rfl rfl) ?_; refine Wo_st3 rfl Tryd.sizeOf26 rfl rfl (by first | rfl | assumption) (by first | rfl | assumption) (by first | rfl | assumption) hB1 (by omega) E4 ?_
    rintro w5 E7 hB1 K2 hz2; have hB2 := hB2.of_heap (K2 _ (by omega)); refine Wo rfl (opv_assign (v := .bool _) rfl) ?_; refine Wo_nil ?_; refine W_ret ?_; rotate_left; refine Wo_skip rfl ?_
    refine Wo rfl (opv_pick_f (v := .bool _) rfl rfl) ?_; refine Wo rfl (opv_assign (v := .bool _) rfl) ?_; refine Wo_nil ?_; refine W_cond_false rfl ?_; refine W_seq ?_; refine W_region rfl ?_
    refine Wo rfl (opv_build (ps := []) (cs := [_, _, _]) flat26 rfl rfl) ?_; refine Wo_st3 rfl Tryd.sizeOf26 rfl rfl (by first | rfl | assumption) (by first | rfl | assumption) (by first | rfl | assumption) hB1 (by omega) E4 ?_
    rintro w5 E7 hB1 K2 hz2; have hB2 := hB2.of_heap (K2 _ (by omega)); refine Wo rfl (opv_assign (v := .bool _) rfl) ?_; refine Wo_nil ?_; refine W_ret ?_; rotate_left; refine Wo_skip rfl ?_; refine Wo_skip rfl ?_
    refine Wo_skip rfl ?_; refine Wo rfl (opv_pick_f (v := .bool _) rfl rfl) ?_; refine Wo rfl (opv_move (v := .bool _) rfl) ?_; refine Wo_skip rfl ?_; refine Wo_skip rfl ?_; refine Wo_skip rfl ?_
    refine Wo rfl (opv_pick_f (v := .bool _) rfl rfl) ?_; refine Wo rfl (opv_assign (v := .bool _) rfl) ?_; refine Wo_nil ?_; refine W_cond_false rfl ?_; refine W_seq ?_; refine W_region rfl ?_
    refine Wo rfl (opv_move (v := .string _) rfl) ?_; refine Wo rfl (opv_eql_str rfl rfl) ?_; refine Wo_split_dec rfl (opv_move (v := .bool _) rfl) (fun h5 => ?_) (fun h5 => ?_); refine Wo rfl (opv_move (v := .bool _) rfl) ?_
    refine Wo rfl (opv_pick_t (v := .bool _) rfl rfl) ?_; refine Wo rfl (opv_assign (v := .bool _) rfl) ?_; refine Wo_nil ?_; refine W_cond rfl (fun h6 => ?_) (fun h6 => ?_); refine W_seq ?_; refine W_region rfl ?_
    refine Wo rfl (opv_fieldAddr Tryd.underlying26 rfl rfl Tryd.sizeOf3 rfl) ?_; refine Wo_st (v := .int _ _) rfl Tryd.sizeOf3 rfl rfl rfl hB2 (by decide) (by omega) E4 ?_; rintro w5 E7 hB2 K2 hz2
    have E8 := E5.wroteAt E4 E7 K2 hz2 (by omega); have szE8 := E8.size; have E9 := E6.wroteAt E4 E7 K2 hz2 (by omega); have szE9 := E9.size; simp only [List.set] at hB2; have hB1 := hB1.of_heap (K2 _ (by omega)); refine Wo_nil ?_
    refine W_region rfl ?_; refine Wo rfl (opv_move (v := .string _) rfl) ?_; refine Wo rfl (opv_fieldAddr Tryd.underlying26 rfl rfl Tryd.sizeOf9 rfl) ?_
    refine Wo_st (v := .string _) rfl Tryd.sizeOf9 rfl rfl rfl hB2 (by decide) (by omega) E7 ?_; rintro w6 E10 hB2 K3 hz3; have E11 := E8.wroteAt E7 E10 K3 hz3 (by omega); have szE11 := E11.size
    have E12 := E9.wroteAt E7 E10 K3 hz3 (by omega); have szE12 := E12.size; simp only [List.set] at hB2; have hB1 := hB1.of_heap (K3 _ (by omega)); refine Wo_nil ?_; refine W_seq ?_; refine W_seq ?_; refine W_region rfl ?_
    refine Wo (v := .agg _) rfl (opv_load3 Tryd.isAgg26 Tryd.sizeOf26 rfl hB2) ?_; refine Wo_call rfl (opc1 (a := .agg _) Tryd.call44 rfl) (k3 _ _ _ ((Mono.mono E10 hM))) ?_; rintro _ w7 ⟨rfl, E13⟩; have hs4 := E13.size
    refine Wo rfl (opv_move (v := .string _) rfl) ?_; refine Wo rfl (opv_neq_str rfl rfl) ?_; refine Wo_nil ?_; refine W_cond_ndec rfl (fun h7 => ?_) (fun h7 => ?_); refine W_seq ?_; refine W_region rfl ?_
    refine Wo rfl (opv_build (ps := []) (cs := [_, _, _]) flat26 rfl rfl) ?_
    refine Wo_st3 rfl Tryd.sizeOf26 rfl rfl (by first | rfl | assumption) (by first | rfl | assumption) (by first | rfl | assumption) (hB1.ext E13) (by omega) (E10.trans E13) ?_; rintro w8 E14 hB1 K4 hz4
    have hB2 := (hB2.ext E13).of_heap (K4 _ (by omega)); refine Wo rfl (opv_assign (v := .bool _) rfl) ?_; refine Wo_nil ?_; refine W_ret ?_; rotate_left; refine W_skip ?_; refine W_seq ?_; refine W_region rfl ?_
    refine Wo (v := .agg _) rfl (opv_load3 Tryd.isAgg26 Tryd.sizeOf26 rfl (hB2.ext E13)) ?_
    refine Wo_st3 rfl Tryd.sizeOf26 rfl rfl (by first | rfl | assumption) (by first | rfl | assumption) (by first | rfl | assumption) (hB1.ext E13) (by omega) (E10.trans E13) ?_; rintro w8 E14 hB1 K4 hz4
    have hB2 := (hB2.ext E13).of_heap (K4 _ (by omega)); refine Wo rfl (opv_assign (v := .bool _) rfl) ?_; refine Wo_nil ?_; refine W_ret ?_; rotate_left; refine W_seq ?_; refine W_region rfl ?_
    refine Wo rfl (opv_move (v := .string _) rfl) ?_; refine Wo rfl (opv_eql_str rfl rfl) ?_; refine Wo_split_dec rfl (opv_move (v := .bool _) rfl) (fun h7 => ?_) (fun h7 => ?_); refine Wo rfl (opv_move (v := .bool _) rfl) ?_
    refine Wo rfl (opv_pick_t (v := .bool _) rfl rfl) ?_; refine Wo rfl (opv_assign (v := .bool _) rfl) ?_; refine Wo_nil ?_; refine W_cond rfl (fun h8 => ?_) (fun h8 => ?_); refine W_seq ?_; refine W_region rfl ?_
    refine Wo rfl (opv_fieldAddr Tryd.underlying26 rfl rfl Tryd.sizeOf3 rfl) ?_; refine Wo_st (v := .int _ _) rfl Tryd.sizeOf3 rfl rfl rfl hB2 (by decide) (by omega) E4 ?_; rintro w5 E7 hB2 K2 hz2
    have E8 := E5.wroteAt E4 E7 K2 hz2 (by omega); have szE8 := E8.size; have E9 := E6.wroteAt E4 E7 K2 hz2 (by omega); have szE9 := E9.size; simp only [List.set] at hB2; have hB1 := hB1.of_heap (K2 _ (by omega)); refine Wo_nil ?_
    refine W_region rfl ?_; refine Wo rfl (opv_move (v := .string _) rfl) ?_; refine Wo rfl (opv_fieldAddr Tryd.underlying26 rfl rfl Tryd.sizeOf9 rfl) ?_
    refine Wo_st (v := .string _) rfl Tryd.sizeOf9 rfl rfl rfl hB2 (by decide) (by omega) E7 ?_; rintro w6 E10 hB2 K3 hz3; have E11 := E8.wroteAt E7 E10 K3 hz3 (by omega); have szE11 := E11.size
    have E12 := E9.wroteAt E7 E10 K3 hz3 (by omega); have szE12 := E12.size; simp only [List.set] at hB2; have hB1 := hB1.of_heap (K3 _ (by omega)); refine Wo_nil ?_; refine W_seq ?_; refine W_seq ?_; refine W_region rfl ?_
    refine Wo (v := .agg _) rfl (opv_load3 Tryd.isAgg26 Tryd.sizeOf26 rfl hB2) ?_; refine Wo_call rfl (opc1 (a := .agg _) Tryd.call44 rfl) (k3 _ _ _ ((Mono.mono E10 hM))) ?_; rintro _ w7 ⟨rfl, E13⟩; have hs4 := E13.size
    refine Wo rfl (opv_move (v := .string _) rfl) ?_; refine Wo rfl (opv_neq_str rfl rfl) ?_; refine Wo_nil ?_; refine W_cond_ndec rfl (fun h9 => ?_) (fun h9 => ?_); refine W_seq ?_; refine W_region rfl ?_
    refine Wo rfl (opv_build (ps := []) (cs := [_, _, _]) flat26 rfl rfl) ?_
    refine Wo_st3 rfl Tryd.sizeOf26 rfl rfl (by first | rfl | assumption) (by first | rfl | assumption) (by first | rfl | assumption) (hB1.ext E13) (by omega) (E10.trans E13) ?_; rintro w8 E14 hB1 K4 hz4
    have hB2 := (hB2.ext E13).of_heap (K4 _ (by omega)); refine Wo rfl (opv_assign (v := .bool _) rfl) ?_; refine Wo_nil ?_; refine W_ret ?_; rotate_left; refine W_skip ?_; refine W_seq ?_; refine W_region rfl ?_
    refine Wo (v := .agg _) rfl (opv_load3 Tryd.isAgg26 Tryd.sizeOf26 rfl (hB2.ext E13)) ?_
    refine Wo_st3 rfl Tryd.sizeOf26 rfl rfl (by first | rfl | assumption) (by first | rfl | assumption) (by first | rfl | assumption) (hB1.ext E13) (by omega) (E10.trans E13) ?_; rintro w8 E14 hB1 K4 hz4
    have hB2 := (hB2.ext E13).of_heap (K4 _ (by omega)); refine Wo rfl (opv_assign (v := .bool _) rfl) ?_; refine Wo_nil ?_; refine W_ret ?_; rotate_left; refine W_seq ?_; refine W_region rfl ?_
    refine Wo rfl (opv_build (ps := []) (cs := [_, _, _]) flat26 rfl rfl) ?_; refine Wo_st3 rfl Tryd.sizeOf26 rfl rfl (by first | rfl | assumption) (by first | rfl | assumption) (by first | rfl | assumption) hB1 (by omega) E4 ?_
    rintro w5 E7 hB1 K2 hz2; have hB2 := hB2.of_heap (K2 _ (by omega)); refine Wo rfl (opv_assign (v := .bool _) rfl) ?_; refine Wo_nil ?_; refine W_ret ?_; rotate_left; refine Wo_skip rfl ?_
    refine Wo rfl (opv_pick_f (v := .bool _) rfl rfl) ?_; refine Wo rfl (opv_assign (v := .bool _) rfl) ?_; refine Wo_nil ?_; refine W_cond_false rfl ?_; refine W_seq ?_; refine W_region rfl ?_
    refine Wo rfl (opv_build (ps := []) (cs := [_, _, _]) flat26 rfl rfl) ?_; refine Wo_st3 rfl Tryd.sizeOf26 rfl rfl (by first | rfl | assumption) (by first | rfl | assumption) (by first | rfl | assumption) hB1 (by omega) E4 ?_
    rintro w5 E7 hB1 K2 hz2; have hB2 := hB2.of_heap (K2 _ (by omega)); refine Wo rfl (opv_assign (v := .bool _) rfl) ?_; refine Wo_nil ?_; refine W_ret ?_; rotate_left; refine Wo_skip rfl ?_
    refine Wo rfl (opv_pick_f (v := .bool _) rfl rfl) ?_; refine Wo rfl (opv_assign (v := .bool _) rfl) ?_; refine Wo_nil ?_; refine W_cond_false rfl ?_; refine W_seq ?_; refine W_region rfl ?_
    refine Wo rfl (opv_move (v := .string _) rfl) ?_; refine Wo rfl (opv_eql_str rfl rfl) ?_; refine Wo_split_dec rfl (opv_move (v := .bool _) rfl) (fun h6 => ?_) (fun h6 => ?_); refine Wo rfl (opv_move (v := .bool _) rfl) ?_
    refine Wo rfl (opv_pick_t (v := .bool _) rfl rfl) ?_; refine Wo rfl (opv_assign (v := .bool _) rfl) ?_; refine Wo_nil ?_; refine W_cond rfl (fun h7 => ?_) (fun h7 => ?_); refine W_seq ?_; refine W_region rfl ?_
    refine Wo rfl (opv_fieldAddr Tryd.underlying26 rfl rfl Tryd.sizeOf3 rfl) ?_; refine Wo_st (v := .int _ _) rfl Tryd.sizeOf3 rfl rfl rfl hB2 (by decide) (by omega) E4 ?_; rintro w5 E7 hB2 K2 hz2
    have E8 := E5.wroteAt E4 E7 K2 hz2 (by omega); have szE8 := E8.size; have E9 := E6.wroteAt E4 E7 K2 hz2 (by omega); have szE9 := E9.size; simp only [List.set] at hB2; have hB1 := hB1.of_heap (K2 _ (by omega)); refine Wo_nil ?_
    refine W_region rfl ?_; refine Wo rfl (opv_move (v := .string _) rfl) ?_; refine Wo rfl (opv_fieldAddr Tryd.underlying26 rfl rfl Tryd.sizeOf9 rfl) ?_
    refine Wo_st (v := .string _) rfl Tryd.sizeOf9 rfl rfl rfl hB2 (by decide) (by omega) E7 ?_; rintro w6 E10 hB2 K3 hz3; have E11 := E8.wroteAt E7 E10 K3 hz3 (by omega); have szE11 := E11.size
    have E12 := E9.wroteAt E7 E10 K3 hz3 (by omega); have szE12 := E12.size; simp only [List.set] at hB2; have hB1 := hB1.of_heap (K3 _ (by omega)); refine Wo_nil ?_; refine W_seq ?_; refine W_seq ?_; refine W_region rfl ?_
    refine Wo (v := .agg _) rfl (opv_load3 Tryd.isAgg26 Tryd.sizeOf26 rfl hB2) ?_; refine Wo_call rfl (opc1 (a := .agg _) Tryd.call44 rfl) (k3 _ _ _ ((Mono.mono E10 hM))) ?_; rintro _ w7 ⟨rfl, E13⟩; have hs4 := E13.size
    refine Wo rfl (opv_move (v := .string _) rfl) ?_; refine Wo rfl (opv_neq_str rfl rfl) ?_; refine Wo_nil ?_; refine W_cond_ndec rfl (fun h8 => ?_) (fun h8 => ?_); refine W_seq ?_; refine W_region rfl ?_
    refine Wo rfl (opv_build (ps := []) (cs := [_, _, _]) flat26 rfl rfl) ?_
    refine Wo_st3 rfl Tryd.sizeOf26 rfl rfl (by first | rfl | assumption) (by first | rfl | assumption) (by first | rfl | assumption) (hB1.ext E13) (by omega) (E10.trans E13) ?_; rintro w8 E14 hB1 K4 hz4
    have hB2 := (hB2.ext E13).of_heap (K4 _ (by omega)); refine Wo rfl (opv_assign (v := .bool _) rfl) ?_; refine Wo_nil ?_; refine W_ret ?_; rotate_left; refine W_skip ?_; refine W_seq ?_; refine W_region rfl ?_
    refine Wo (v := .agg _) rfl (opv_load3 Tryd.isAgg26 Tryd.sizeOf26 rfl (hB2.ext E13)) ?_
    refine Wo_st3 rfl Tryd.sizeOf26 rfl rfl (by first | rfl | assumption) (by first | rfl | assumption) (by first | rfl | assumption) (hB1.ext E13) (by omega) (E10.trans E13) ?_; rintro w8 E14 hB1 K4 hz4
    have hB2 := (hB2.ext E13).of_heap (K4 _ (by omega)); refine Wo rfl (opv_assign (v := .bool _) rfl) ?_; refine Wo_nil ?_; refine W_ret ?_; rotate_left; refine W_seq ?_; refine W_region rfl ?_
    refine Wo rfl (opv_build (ps := []) (cs := [_, _, _]) flat26 rfl rfl) ?_; refine Wo_st3 rfl Tryd.sizeOf26 rfl rfl (by first | rfl | assumption) (by first | rfl | assumption) (by first | rfl | assumption) hB1 (by omega) E4 ?_
    rintro w5 E7 hB1 K2 hz2; have hB2 := hB2.of_heap (K2 _ (by omega)); refine Wo rfl (opv_assign (v := .bool _) rfl) ?_; refine Wo_nil ?_; refine W_ret ?_; rotate_left; refine Wo_skip rfl ?_
    refine Wo rfl (opv_pick_f (v := .bool _) rfl rfl) ?_; refine Wo rfl (opv_assign (v := .bool _) rfl) ?_; refine Wo_nil ?_; refine W_cond_false rfl ?_; refine W_seq ?_; refine W_region rfl ?_
    refine Wo rfl (opv_build (ps := []) (cs := [_, _, _]) flat26 rfl rfl) ?_; refine Wo_st3 rfl Tryd.sizeOf26 rfl rfl (by first | rfl | assumption) (by first | rfl | assumption) (by first | rfl | assumption) hB1 (by omega) E4 ?_
    rintro w5 E7 hB1 K2 hz2; have hB2 := hB2.of_heap (K2 _ (by omega)); refine Wo rfl (opv_assign (v := .bool _) rfl) ?_; refine Wo_nil ?_; refine W_ret ?_; rotate_left; refine Wo_skip rfl ?_; refine Wo_skip rfl ?_
    refine Wo_skip rfl ?_; refine Wo rfl (opv_pick_f (v := .bool _) rfl rfl) ?_; refine Wo rfl (opv_move (v := .bool _) rfl) ?_; refine Wo_skip rfl ?_; refine Wo_skip rfl ?_; refine Wo_skip rfl ?_
    refine Wo rfl (opv_pick_f (v := .bool _) rfl rfl) ?_; refine Wo rfl (opv_move (v := .bool _) rfl) ?_; refine Wo_skip rfl ?_; refine Wo_skip rfl ?_; refine Wo_skip rfl ?_; refine Wo rfl (opv_pick_f (v := .bool _) rfl rfl) ?_
    refine Wo rfl (opv_assign (v := .bool _) rfl) ?_; refine Wo_nil ?_; refine W_cond_false rfl ?_; refine W_seq ?_; refine W_region rfl ?_; refine Wo rfl (opv_move (v := .string _) rfl) ?_; refine Wo rfl (opv_eql_str rfl rfl) ?_
    refine Wo_split_dec rfl (opv_move (v := .bool _) rfl) (fun h4 => ?_) (fun h4 => ?_); refine Wo rfl (opv_move (v := .bool _) rfl) ?_; refine Wo rfl (opv_pick_t (v := .bool _) rfl rfl) ?_
    refine Wo rfl (opv_assign (v := .bool _) rfl) ?_; refine Wo_nil ?_; refine W_cond rfl (fun h5 => ?_) (fun h5 => ?_); refine W_seq ?_; refine W_region rfl ?_
    refine Wo rfl (opv_fieldAddr Tryd.underlying26 rfl rfl Tryd.sizeOf3 rfl) ?_; refine Wo_st (v := .int _ _) rfl Tryd.sizeOf3 rfl rfl rfl hB2 (by decide) (by omega) E4 ?_; rintro w5 E7 hB2 K2 hz2
    have E8 := E5.wroteAt E4 E7 K2 hz2 (by omega); have szE8 := E8.size; have E9 := E6.wroteAt E4 E7 K2 hz2 (by omega); have szE9 := E9.size; simp only [List.set] at hB2; have hB1 := hB1.of_heap (K2 _ (by omega)); refine Wo_nil ?_
    refine W_region rfl ?_; refine Wo rfl (opv_move (v := .string _) rfl) ?_; refine Wo rfl (opv_fieldAddr Tryd.underlying26 rfl rfl Tryd.sizeOf9 rfl) ?_
    refine Wo_st (v := .string _) rfl Tryd.sizeOf9 rfl rfl rfl hB2 (by decide) (by omega) E7 ?_; rintro w6 E10 hB2 K3 hz3; have E11 := E8.wroteAt E7 E10 K3 hz3 (by omega); have szE11 := E11.size
    have E12 := E9.wroteAt E7 E10 K3 hz3 (by omega); have szE12 := E12.size; simp only [List.set] at hB2; have hB1 := hB1.of_heap (K3 _ (by omega)); refine Wo_nil ?_; refine W_seq ?_; refine W_seq ?_; refine W_region rfl ?_
    refine Wo (v := .agg _) rfl (opv_load3 Tryd.isAgg26 Tryd.sizeOf26 rfl hB2) ?_; refine Wo_call rfl (opc1 (a := .agg _) Tryd.call44 rfl) (k3 _ _ _ ((Mono.mono E10 hM))) ?_; rintro _ w7 ⟨rfl, E13⟩; have hs4 := E13.size
    refine Wo rfl (opv_move (v := .string _) rfl) ?_; refine Wo rfl (opv_neq_str rfl rfl) ?_; refine Wo_nil ?_; refine W_cond_ndec rfl (fun h6 => ?_) (fun h6 => ?_); refine W_seq ?_; refine W_region rfl ?_
    refine Wo rfl (opv_build (ps := []) (cs := [_, _, _]) flat26 rfl rfl) ?_
    refine Wo_st3 rfl Tryd.sizeOf26 rfl rfl (by first | rfl | assumption) (by first | rfl | assumption) (by first | rfl | assumption) (hB1.ext E13) (by omega) (E10.trans E13) ?_; rintro w8 E14 hB1 K4 hz4
    have hB2 := (hB2.ext E13).of_heap (K4 _ (by omega)); refine Wo rfl (opv_assign (v := .bool _) rfl) ?_; refine Wo_nil ?_; refine W_ret ?_; rotate_left; refine W_skip ?_; refine W_seq ?_; refine W_region rfl ?_
    refine Wo (v := .agg _) rfl (opv_load3 Tryd.isAgg26 Tryd.sizeOf26 rfl (hB2.ext E13)) ?_
    refine Wo_st3 rfl Tryd.sizeOf26 rfl rfl (by first | rfl | assumption) (by first | rfl | assumption) (by first | rfl | assumption) (hB1.ext E13) (by omega) (E10.trans E13) ?_; rintro w8 E14 hB1 K4 hz4
    have hB2 := (hB2.ext E13).of_heap (K4 _ (by omega)); refine Wo rfl (opv_assign (v := .bool _) rfl) ?_; refine Wo_nil ?_; refine W_ret ?_; rotate_left; refine W_seq ?_; refine W_region rfl ?_
    refine Wo rfl (opv_move (v := .string _) rfl) ?_; refine Wo rfl (opv_eql_str rfl rfl) ?_; refine Wo_split_dec rfl (opv_move (v := .bool _) rfl) (fun h6 => ?_) (fun h6 => ?_); refine Wo rfl (opv_move (v := .bool _) rfl) ?_
    refine Wo rfl (opv_pick_t (v := .bool _) rfl rfl) ?_; refine Wo rfl (opv_assign (v := .bool _) rfl) ?_; refine Wo_nil ?_; refine W_cond rfl (fun h7 => ?_) (fun h7 => ?_); refine W_seq ?_; refine W_region rfl ?_
    refine Wo rfl (opv_fieldAddr Tryd.underlying26 rfl rfl Tryd.sizeOf3 rfl) ?_; refine Wo_st (v := .int _ _) rfl Tryd.sizeOf3 rfl rfl rfl hB2 (by decide) (by omega) E4 ?_; rintro w5 E7 hB2 K2 hz2
    have E8 := E5.wroteAt E4 E7 K2 hz2 (by omega); have szE8 := E8.size; have E9 := E6.wroteAt E4 E7 K2 hz2 (by omega); have szE9 := E9.size; simp only [List.set] at hB2; have hB1 := hB1.of_heap (K2 _ (by omega)); refine Wo_nil ?_
    refine W_region rfl ?_; refine Wo rfl (opv_move (v := .string _) rfl) ?_; refine Wo rfl (opv_fieldAddr Tryd.underlying26 rfl rfl Tryd.sizeOf9 rfl) ?_
    refine Wo_st (v := .string _) rfl Tryd.sizeOf9 rfl rfl rfl hB2 (by decide) (by omega) E7 ?_; rintro w6 E10 hB2 K3 hz3; have E11 := E8.wroteAt E7 E10 K3 hz3 (by omega); have szE11 := E11.size
    have E12 := E9.wroteAt E7 E10 K3 hz3 (by omega); have szE12 := E12.size; simp only [List.set] at hB2; have hB1 := hB1.of_heap (K3 _ (by omega)); refine Wo_nil ?_; refine W_seq ?_; refine W_seq ?_; refine W_region rfl ?_
    refine Wo (v := .agg _) rfl (opv_load3 Tryd.isAgg26 Tryd.sizeOf26 rfl hB2) ?_; refine Wo_call rfl (opc1 (a := .agg _) Tryd.call44 rfl) (k3 _ _ _ ((Mono.mono E10 hM))) ?_; rintro _ w7 ⟨rfl, E13⟩; have hs4 := E13.size
    refine Wo rfl (opv_move (v := .string _) rfl) ?_; refine Wo rfl (opv_neq_str rfl rfl) ?_; refine Wo_nil ?_; refine W_cond_ndec rfl (fun h8 => ?_) (fun h8 => ?_); refine W_seq ?_; refine W_region rfl ?_
    refine Wo rfl (opv_build (ps := []) (cs := [_, _, _]) flat26 rfl rfl) ?_
    refine Wo_st3 rfl Tryd.sizeOf26 rfl rfl (by first | rfl | assumption) (by first | rfl | assumption) (by first | rfl | assumption) (hB1.ext E13) (by omega) (E10.trans E13) ?_; rintro w8 E14 hB1 K4 hz4
    have hB2 := (hB2.ext E13).of_heap (K4 _ (by omega)); refine Wo rfl (opv_assign (v := .bool _) rfl) ?_; refine Wo_nil ?_; refine W_ret ?_; rotate_left; refine W_skip ?_; refine W_seq ?_; refine W_region rfl ?_
    refine Wo (v := .agg _) rfl (opv_load3 Tryd.isAgg26 Tryd.sizeOf26 rfl (hB2.ext E13)) ?_
    refine Wo_st3 rfl Tryd.sizeOf26 rfl rfl (by first | rfl | assumption) (by first | rfl | assumption) (by first | rfl | assumption) (hB1.ext E13) (by omega) (E10.trans E13) ?_; rintro w8 E14 hB1 K4 hz4
    have hB2 := (hB2.ext E13).of_heap (K4 _ (by omega)); refine Wo rfl (opv_assign (v := .bool _) rfl) ?_; refine Wo_nil ?_; refine W_ret ?_; rotate_left; refine W_seq ?_; refine W_region rfl ?_
    refine Wo rfl (opv_build (ps := []) (cs := [_, _, _]) flat26 rfl rfl) ?_; refine Wo_st3 rfl Tryd.sizeOf26 rfl rfl (by first | rfl | assumption) (by first | rfl | assumption) (by first | rfl | assumption) hB1 (by omega) E4 ?_
    rintro w5 E7 hB1 K2 hz2; have hB2 := hB2.of_heap (K2 _ (by omega)); refine Wo rfl (opv_assign (v := .bool _) rfl) ?_; refine Wo_nil ?_; refine W_ret ?_; rotate_left; refine Wo_skip rfl ?_
    refine Wo rfl (opv_pick_f (v := .bool _) rfl rfl) ?_; refine Wo rfl (opv_assign (v := .bool _) rfl) ?_; refine Wo_nil ?_; refine W_cond_false rfl ?_; refine W_seq ?_; refine W_region rfl ?_
    refine Wo rfl (opv_build (ps := []) (cs := [_, _, _]) flat26 rfl rfl) ?_; refine Wo_st3 rfl Tryd.sizeOf26 rfl rfl (by first | rfl | assumption) (by first | rfl | assumption) (by first | rfl | assumption) hB1 (by omega) E4 ?_
    rintro w5 E7 hB1 K2 hz2; have hB2 := hB2.of_heap (K2 _ (by omega)); refine Wo rfl (opv_assign (v := .bool _) rfl) ?_; refine Wo_nil ?_; refine W_ret ?_; rotate_left; refine Wo_skip rfl ?_
    refine Wo rfl (opv_pick_f (v := .bool _) rfl rfl) ?_; refine Wo rfl (opv_assign (v := .bool _) rfl) ?_; refine Wo_nil ?_; refine W_cond_false rfl ?_; refine W_seq ?_; refine W_region rfl ?_
    refine Wo rfl (opv_move (v := .string _) rfl) ?_; refine Wo rfl (opv_eql_str rfl rfl) ?_; refine Wo_split_dec rfl (opv_move (v := .bool _) rfl) (fun h5 => ?_) (fun h5 => ?_); refine Wo rfl (opv_move (v := .bool _) rfl) ?_
    refine Wo rfl (opv_pick_t (v := .bool _) rfl rfl) ?_; refine Wo rfl (opv_assign (v := .bool _) rfl) ?_; refine Wo_nil ?_; refine W_cond rfl (fun h6 => ?_) (fun h6 => ?_); refine W_seq ?_; refine W_region rfl ?_
    refine Wo rfl (opv_fieldAddr Tryd.underlying26 rfl rfl Tryd.sizeOf3 rfl) ?_; refine Wo_st (v := .int _ _) rfl Tryd.sizeOf3 rfl rfl rfl hB2 (by decide) (by omega) E4 ?_; rintro w5 E7 hB2 K2 hz2
    have E8 := E5.wroteAt E4 E7 K2 hz2 (by omega); have szE8 := E8.size; have E9 := E6.wroteAt E4 E7 K2 hz2 (by omega); have szE9 := E9.size; simp only [List.set] at hB2; have hB1 := hB1.of_heap (K2 _ (by omega)); refine Wo_nil ?_
    refine W_region rfl ?_; refine Wo rfl (opv_move (v := .string _) rfl) ?_; refine Wo rfl (opv_fieldAddr Tryd.underlying26 rfl rfl Tryd.sizeOf9 rfl) ?_
    refine Wo_st (v := .string _) rfl Tryd.sizeOf9 rfl rfl rfl hB2 (by decide) (by omega) E7 ?_; rintro w6 E10 hB2 K3 hz3; have E11 := E8.wroteAt E7 E10 K3 hz3 (by omega); have szE11 := E11.size
    have E12 := E9.wroteAt E7 E10 K3 hz3 (by omega); have szE12 := E12.size; simp only [List.set] at hB2; have hB1 := hB1.of_heap (K3 _ (by omega)); refine Wo_nil ?_; refine W_seq ?_; refine W_seq ?_; refine W_region rfl ?_
    refine Wo (v := .agg _) rfl (opv_load3 Tryd.isAgg26 Tryd.sizeOf26 rfl hB2) ?_; refine Wo_call rfl (opc1 (a := .agg _) Tryd.call44 rfl) (k3 _ _ _ ((Mono.mono E10 hM))) ?_; rintro _ w7 ⟨rfl, E13⟩; have hs4 := E13.size
    refine Wo rfl (opv_move (v := .string _) rfl) ?_; refine Wo rfl (opv_neq_str rfl rfl) ?_; refine Wo_nil ?_; refine W_cond_ndec rfl (fun h7 => ?_) (fun h7 => ?_); refine W_seq ?_; refine W_region rfl ?_
    refine Wo rfl (opv_build (ps := []) (cs := [_, _, _]) flat26 rfl rfl) ?_
    refine Wo_st3 rfl Tryd.sizeOf26 rfl rfl (by first | rfl | assumption) (by first | rfl | assumption) (by first | rfl | assumption) (hB1.ext E13) (by omega) (E10.trans E13) ?_; rintro w8 E14 hB1 K4 hz4
    have hB2 := (hB2.ext E13).of_heap (K4 _ (by omega)); refine Wo rfl (opv_assign (v := .bool _) rfl) ?_; refine Wo_nil ?_; refine W_ret ?_; rotate_left; refine W_skip ?_; refine W_seq ?_; refine W_region rfl ?_
    refine Wo (v := .agg _) rfl (opv_load3 Tryd.isAgg26 Tryd.sizeOf26 rfl (hB2.ext E13)) ?_
    refine Wo_st3 rfl Tryd.sizeOf26 rfl rfl (by first | rfl | assumption) (by first | rfl | assumption) (by first | rfl | assumption) (hB1.ext E13) (by omega) (E10.trans E13) ?_; rintro w8 E14 hB1 K4 hz4
    have hB2 := (hB2.ext E13).of_heap (K4 _ (by omega)); refine Wo rfl (opv_assign (v := .bool _) rfl) ?_; refine Wo_nil ?_; refine W_ret ?_; rotate_left; refine W_seq ?_; refine W_region rfl ?_
    refine Wo rfl (opv_build (ps := []) (cs := [_, _, _]) flat26 rfl rfl) ?_; refine Wo_st3 rfl Tryd.sizeOf26 rfl rfl (by first | rfl | assumption) (by first | rfl | assumption) (by first | rfl | assumption) hB1 (by omega) E4 ?_
    rintro w5 E7 hB1 K2 hz2; have hB2 := hB2.of_heap (K2 _ (by omega)); refine Wo rfl (opv_assign (v := .bool _) rfl) ?_; refine Wo_nil ?_; refine W_ret ?_; rotate_left; refine Wo_skip rfl ?_
    refine Wo rfl (opv_pick_f (v := .bool _) rfl rfl) ?_; refine Wo rfl (opv_assign (v := .bool _) rfl) ?_; refine Wo_nil ?_; refine W_cond_false rfl ?_; refine W_seq ?_; refine W_region rfl ?_
    refine Wo rfl (opv_build (ps := []) (cs := [_, _, _]) flat26 rfl rfl) ?_; refine Wo_st3 rfl Tryd.sizeOf26 rfl rfl (by first | rfl | assumption) (by first | rfl | assumption) (by first | rfl | assumption) hB1 (by omega) E4 ?_
    rintro w5 E7 hB1 K2 hz2; have hB2 := hB2.of_heap (K2 _ (by omega)); refine Wo rfl (opv_assign (v := .bool _) rfl) ?_; refine Wo_nil ?_; refine W_ret ?_; rotate_left
  all_goals refine ⟨_, _, _, _, rfl, by assumption, ?_, by assumption⟩
  all_goals first
    | refine leaf_none ?_ rfl
    | refine leaf_some ?_ rfl
  all_goals clear hc hO k1 k2 k3 hW hR hH hRl hr8
  all_goals rw [hr]
  all_goals try (simp_all; done)
  all_goals (clear hr; simp_all)
  all_goals (rw [if_neg (by omega)])

end Go.Proofs.YtgphoihilheoeaaDoor
