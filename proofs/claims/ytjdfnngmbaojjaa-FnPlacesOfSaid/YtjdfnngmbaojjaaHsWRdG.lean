/- Walks: formulas drawn that may be none; alive. -/
import Derived.Test.YtjdfnngmbaojjaaHsWRdF
import Derived.Test.YtjdfnngmbaojjaaHsBits
namespace Go.Proofs.Ytjdfnngmbaojjaa
open Go.Hs
set_option maxRecDepth 10000
set_option maxHeartbeats 4000000
set_option linter.unusedVariables false
set_option linter.unusedSimpArgs false

theorem formed_ok {w0 : World} (w : World) {br m : Nat} (n : Int) (hr : Rdr w0 w br m) (hm : m ≤ 100000000) (hn : 1 ≤ n ∧ n ≤ 1000) :
    Does Try.prog 52 [.pointer (some ⟨br, 0, none⟩), .int .i64 n] w (RetD w0 w br (m + 60) str (fun s _ => s.length ≤ 200)) := by
  have f3 : ∀ {w0 : World} (w : World) {br m : Nat}, Rdr w0 w br m → m ≤ 100000000 → 
    Does Try.prog 74 [.pointer (some ⟨br, 0, none⟩), .int .i64 3] w (RetD w0 w br (m + 36) str (fun s _ => 1 ≤ s.length ∧ s.length ≤ 148)) := fun {w0} w {br m} hr hm => formula_ok 3 (by omega) (br := br) (m := m) w 3 rfl hr (by have : cF 3 = 36 := rfl; omega)
  refine fn_of_W1 Try.func52 rfl Try.results52 Try.ntmps52 rfl ?_
  have hG : w.grownBy w (some br) := grownBy_refl _ _
  have hlr := hr.lt
  have hgr := hr.ge
  focus
    refine W_seq ?_; refine W_region rfl ?_; refine Wo rfl (opv_assign (v := .string _) rfl) ?_; refine Wo_nil ?_; refine W_seq ?_; refine W_region rfl ?_; refine Wo rfl (opv_move (v := .pointer _) rfl) ?_
    refine Wo_call rfl (opc2 (a := .pointer _) (b := .int _ _) Try.call74 rfl rfl) (f3 _ (by assumption) (by assumption)) ?_; rintro _ w1 ⟨y1, rfl, E1, hr1, hy1⟩; (try dsimp only at hy1); have hlhr1 := hr1.lt; have Ehr1 := hr1.old
    have hG := grownBy_trans hG E1; have hs1 := E1.size; refine Wo rfl (opv_assign (v := .string _) rfl) ?_; refine Wo_nil ?_; refine W_seq ?_; refine W_seq ?_; refine W_region rfl ?_; refine Wo rfl (opv_move (v := .pointer _) rfl) ?_
    refine Wo rfl (opv_move (v := .int _ _) rfl) ?_; refine Wo_call rfl (opc2 (a := .pointer _) (b := .int _ _) Try.call75 rfl rfl) (odd_ok _ _ (by assumption) (by omega) (by omega)) ?_; rintro _ w2 ⟨y2, rfl, E2, hr2, hy2⟩
    (try dsimp only at hy2); have hlhr2 := hr2.lt; have Ehr2 := hr2.old; have hG := grownBy_trans hG E2; have hs2 := E2.size; refine Wo_nil ?_; refine W_cond rfl (fun h1 => ?_) (fun h1 => ?_); refine W_seq ?_; refine W_region rfl ?_
    refine Wo rfl (opv_move (v := .pointer _) rfl) ?_; refine Wo rfl (opv_move (v := .string _) rfl) ?_; refine Wo rfl (opv_len_str Try.underlying9 rfl) ?_
    refine Wo_call rfl (opc2 (a := .pointer _) (b := .int _ _) Try.call76 rfl rfl) (pick_ok _ _ (by assumption) (by omega)) ?_; rintro _ w3 ⟨y3, rfl, E3, hr3, hy3⟩; (try dsimp only at hy3); have hlhr3 := hr3.lt; have Ehr3 := hr3.old
    have hG := grownBy_trans hG E3; have hs3 := E3.size; refine Wo rfl (opv_assign (v := .int _ _) rfl) ?_; refine Wo_nil ?_; refine W_seq ?_; refine W_held (fun _ => True) mixed rfl (by kernel_rfl) ?_; intro w4 E4 K1 hz1
    have hr3 := hr3.ext E4; have hG := grownBy_ext hG E4; have hs4 := E4.size; refine Wh_take 0 rfl (by kernel_rfl) (by kernel_rfl) rfl (fun _ _ => opv_move (v := .string _) rfl) trivial ?_
    refine Wh_take 1 rfl (by kernel_rfl) (by kernel_rfl) rfl (fun _ _ => opv_move (v := .int _ _) rfl) trivial ?_
    refine Wh_take 2 rfl (by kernel_rfl) (by kernel_rfl) rfl (fun _ _ => opv_slice_str_hi Try.underlying9 rfl rfl (by omega)) trivial ?_
    refine Wh_take 4 rfl (by kernel_rfl) (by kernel_rfl) rfl (fun _ _ => opv_move (v := .pointer _) rfl) trivial ?_; refine Wh_take 9 rfl (by kernel_rfl) (by kernel_rfl) rfl (fun _ _ => opv_move (v := .string _) rfl) trivial ?_
    refine Wh_take 10 rfl (by kernel_rfl) (by kernel_rfl) rfl (fun _ _ => opv_move (v := .int _ _) rfl) trivial ?_; refine Wh_take 11 rfl (by kernel_rfl) (by kernel_rfl) rfl (fun _ _ => opv_add rfl rfl (by omega)) trivial ?_
    refine Wh_take 12 rfl (by kernel_rfl) (by kernel_rfl) rfl (fun _ _ => opv_slice_str_lo Try.underlying9 rfl rfl (by simp <;> omega)) trivial ?_; refine Wh_all (rs := [3, 5]) (by kernel_rfl) rfl ?_; refine WhAll_cons rfl ?_ ?_
    refine Wo_buildSlice (ps := [(0, .string _), (1, .string _), (2, .string _), (3, .string _), (4, .string _)]) (cs := [_, _, _, _, _]) rfl Try.underlying81 Try.sizeOf9 Try.zeroValue9 rfl rfl rfl rfl ?_; rintro b1 w5 hb1 E5 hB1
    have hlb1 := hB1.lt; have hr3 := hr3.ext E5; have hG := grownBy_ext hG E5; have hs5 := E5.size; refine Wo_nil ?_; refine ⟨trivial, ?_⟩; refine Wh_all (rs := [5]) (by kernel_rfl) rfl ?_; refine WhAll_cons rfl ?_ ?_
    refine Wo_call rfl (opc2 (a := .pointer _) (b := .int _ _) Try.call76 rfl rfl) (pick_ok _ _ (by assumption) (by omega)) ?_; rintro _ w6 ⟨y4, rfl, E6, hr4, hy4⟩; (try dsimp only at hy4); have hlhr4 := hr4.lt; have Ehr4 := hr4.old
    have hB1 := hB1.grown E6 (by simp only [ne_eq, Option.some.injEq]; omega); have hG := grownBy_trans hG E6; have hs6 := E6.size; refine Wo_nil ?_; refine ⟨trivial, ?_⟩
    refine Wh_take 6 rfl (by kernel_rfl) (by kernel_rfl) rfl (fun _ _ => opv_indexAddr Try.underlying81 Try.sizeOf9 rfl rfl (by omega)) trivial ?_; refine Wh_all (rs := [7]) (by kernel_rfl) rfl ?_; refine WhAll_cons rfl ?_ ?_
    refine Wo_tbl 0 Try.isAgg9 rfl rfl hB1 (by repeat (first | exact trivial | refine And.intro ⟨_, rfl, by decide⟩ ?_)) (by simp only [List.length_cons, List.length_nil]; omega) ?_; intro s1 hs1; refine Wo_nil ?_; refine ⟨trivial, ?_⟩
    refine Wh_take 8 rfl (by kernel_rfl) (by kernel_rfl) rfl (fun _ _ => opv_add_str rfl rfl (by simp <;> omega)) trivial ?_
    refine Wh_take 13 rfl (by kernel_rfl) (by kernel_rfl) rfl (fun _ _ => opv_add_str rfl rfl (by simp <;> omega)) trivial ?_
    refine Wh_take 14 rfl (by kernel_rfl) (by kernel_rfl) rfl (fun _ _ => opv_assign (v := .string _) rfl) trivial ?_; refine Wh_done (by kernel_rfl) ?_; refine W_ret ?_; refine at_ret (v := .string _) rfl ?_; rotate_left
    exact WhAll_nil; exact WhAll_nil; refine WhAll_cons rfl ?_ ?_; refine Wo_call rfl (opc2 (a := .pointer _) (b := .int _ _) Try.call76 rfl rfl) (pick_ok _ _ (by assumption) (by omega)) ?_; rintro _ w5 ⟨y4, rfl, E5, hr4, hy4⟩
    (try dsimp only at hy4); have hlhr4 := hr4.lt; have Ehr4 := hr4.old; have hG := grownBy_trans hG E5; have hs5 := E5.size; refine Wo_nil ?_; refine ⟨trivial, ?_⟩; refine Wh_all (rs := [3]) (by kernel_rfl) rfl ?_
    refine WhAll_cons rfl ?_ ?_; refine Wo_buildSlice (ps := [(0, .string _), (1, .string _), (2, .string _), (3, .string _), (4, .string _)]) (cs := [_, _, _, _, _]) rfl Try.underlying81 Try.sizeOf9 Try.zeroValue9 rfl rfl rfl rfl ?_
    rintro b1 w6 hb1 E6 hB1; have hlb1 := hB1.lt; have hr4 := hr4.ext E6; have hG := grownBy_ext hG E6; have hs6 := E6.size; refine Wo_nil ?_; refine ⟨trivial, ?_⟩
    refine Wh_take 6 rfl (by kernel_rfl) (by kernel_rfl) rfl (fun _ _ => opv_indexAddr Try.underlying81 Try.sizeOf9 rfl rfl (by omega)) trivial ?_; refine Wh_all (rs := [7]) (by kernel_rfl) rfl ?_; refine WhAll_cons rfl ?_ ?_
    refine Wo_tbl 0 Try.isAgg9 rfl rfl hB1 (by repeat (first | exact trivial | refine And.intro ⟨_, rfl, by decide⟩ ?_)) (by simp only [List.length_cons, List.length_nil]; omega) ?_; intro s1 hs1; refine Wo_nil ?_; refine ⟨trivial, ?_⟩
    refine Wh_take 8 rfl (by kernel_rfl) (by kernel_rfl) rfl (fun _ _ => opv_add_str rfl rfl (by simp <;> omega)) trivial ?_
    refine Wh_take 13 rfl (by kernel_rfl) (by kernel_rfl) rfl (fun _ _ => opv_add_str rfl rfl (by simp <;> omega)) trivial ?_
    refine Wh_take 14 rfl (by kernel_rfl) (by kernel_rfl) rfl (fun _ _ => opv_assign (v := .string _) rfl) trivial ?_; refine Wh_done (by kernel_rfl) ?_; refine W_ret ?_; refine at_ret (v := .string _) rfl ?_; rotate_left
    exact WhAll_nil; exact WhAll_nil; exact WhAll_nil; refine W_skip ?_; refine W_seq ?_; refine W_region rfl ?_; refine Wo rfl (opv_move (v := .string _) rfl) ?_; refine Wo rfl (opv_assign (v := .string _) rfl) ?_; refine Wo_nil ?_
    refine W_ret ?_; refine at_ret (v := .string _) rfl ?_; rotate_left
  all_goals first
    | exact ⟨_, rfl, hG, hr2.le (by omega), by omega⟩
    | exact ⟨_, rfl, hG, hr4.le (by omega), by simp only [List.length_append, List.length_take, List.length_drop]; omega⟩
    | exact ⟨_, rfl, hG, hr3.le (by omega), by simp only [List.length_append, List.length_take, List.length_drop]; omega⟩

theorem isCode_ok (n : Int) (w : World) : Does Try.prog 77 [.int .i64 n] w (Ret w (.bool (decide (0 ≤ n ∧ n ≤ 65535)))) := by
  refine fn_of_W1 Try.func77 rfl Try.results77 Try.ntmps77 rfl ?_
  focus
    refine W_seq ?_; refine W_region rfl ?_; refine Wo rfl (opv_assign (v := .bool _) rfl) ?_; refine Wo_nil ?_; refine W_seq ?_; refine W_region rfl ?_; refine Wo rfl (opv_move (v := .int _ _) rfl) ?_
    refine Wo rfl (opv_geq rfl rfl) ?_; refine Wo_split_dec rfl (opv_move (v := .bool _) rfl) (fun h1 => ?_) (fun h1 => ?_); refine Wo rfl (opv_move (v := .int _ _) rfl) ?_; refine Wo rfl (opv_leq rfl rfl) ?_
    refine Wo rfl (opv_pick_t (v := .bool _) rfl rfl) ?_; refine Wo rfl (opv_assign (v := .bool _) rfl) ?_; refine Wo_nil ?_; refine W_ret ?_; refine at_ret (v := .bool _) rfl ?_; refine ⟨congrArg Value.bool ?_, (Ext.refl _)⟩
    rotate_left; refine Wo_skip rfl ?_; refine Wo_skip rfl ?_; refine Wo rfl (opv_pick_f (v := .bool _) rfl rfl) ?_; refine Wo rfl (opv_assign (v := .bool _) rfl) ?_; refine Wo_nil ?_; refine W_ret ?_
    refine at_ret (v := .bool _) rfl ?_; refine ⟨congrArg Value.bool ?_, (Ext.refl _)⟩; rotate_left
  · exact decide_eq_decide.2 (by omega)
  · exact (decide_eq_false (by omega)).symm

def hasC (n m : Int) : Bool := decide (0 ≤ n ∧ n ≤ 65535 ∧ 0 ≤ m ∧ m ≤ 15) && n.toNat.testBit m.toNat
theorem and_one (x : Nat) (k : Nat) : (((x >>> k) &&& 1 : Nat) : Int) = 1 ↔ x.testBit k = true := by
  rw [Nat.testBit_eq_decide_div_mod_eq, Nat.and_one_is_mod, Nat.shiftRight_eq_div_pow, decide_eq_true_iff]
  generalize x / 2 ^ k = q
  omega
theorem Has_ok (n m : Int) (w : World) : Does Try.prog 54 [.int .i64 n, .int .i64 m] w (Ret w (.bool (hasC n m))) := by
  refine fn_of_W1 Try.func54 rfl Try.results54 Try.ntmps54 rfl ?_
  focus
    refine W_seq ?_; refine W_region rfl ?_; refine Wo rfl (opv_assign (v := .bool _) rfl) ?_; refine Wo_nil ?_; refine W_seq ?_; refine W_region rfl ?_; refine Wo rfl (opv_move (v := .int _ _) rfl) ?_
    refine Wo_call rfl (opc1 (a := .int _ _) Try.call77 rfl) (isCode_ok _ _) ?_; rintro _ w1 ⟨rfl, E1⟩; have hs1 := E1.size; refine Wo_split_dec rfl (opv_move (v := .bool _) rfl) (fun h1 => ?_) (fun h1 => ?_)
    refine Wo rfl (opv_move (v := .int _ _) rfl) ?_; refine Wo_call rfl (opc1 (a := .int _ _) Try.call77 rfl) (isCode_ok _ _) ?_; rintro _ w2 ⟨rfl, E2⟩; have hs2 := E2.size; refine Wo rfl (opv_pick_t (v := .bool _) rfl rfl) ?_
    refine Wo_split_dec rfl (opv_move (v := .bool _) rfl) (fun h2 => ?_) (fun h2 => ?_); refine Wo rfl (opv_move (v := .int _ _) rfl) ?_; refine Wo rfl (opv_leq rfl rfl) ?_; refine Wo rfl (opv_pick_t (v := .bool _) rfl rfl) ?_
    refine Wo_split_dec rfl (opv_move (v := .bool _) rfl) (fun h3 => ?_) (fun h3 => ?_); refine Wo rfl (opv_move (v := .int _ _) rfl) ?_; refine Wo rfl (opv_move (v := .int _ _) rfl) ?_; refine Wo rfl (opv_shr rfl rfl (by omega)) ?_
    refine Wo rfl (opv_and rfl rfl ⟨Int.natCast_nonneg _, by omega⟩) ?_; refine Wo rfl (opv_eql rfl rfl) ?_; refine Wo rfl (opv_pick_t (v := .bool _) rfl rfl) ?_; refine Wo rfl (opv_assign (v := .bool _) rfl) ?_; refine Wo_nil ?_
    refine W_ret ?_; refine at_ret (v := .bool _) rfl ?_; refine ⟨congrArg Value.bool ?_, (E1.trans E2)⟩; rotate_left; refine Wo_skip rfl ?_; refine Wo_skip rfl ?_; refine Wo_skip rfl ?_; refine Wo_skip rfl ?_; refine Wo_skip rfl ?_
    refine Wo rfl (opv_pick_f (v := .bool _) rfl rfl) ?_; refine Wo rfl (opv_assign (v := .bool _) rfl) ?_; refine Wo_nil ?_; refine W_ret ?_; refine at_ret (v := .bool _) rfl ?_; refine ⟨congrArg Value.bool ?_, (E1.trans E2)⟩
    rotate_left; refine Wo_skip rfl ?_; refine Wo_skip rfl ?_; refine Wo rfl (opv_pick_f (v := .bool _) rfl rfl) ?_; refine Wo rfl (opv_move (v := .bool _) rfl) ?_; refine Wo_skip rfl ?_; refine Wo_skip rfl ?_; refine Wo_skip rfl ?_
    refine Wo_skip rfl ?_; refine Wo_skip rfl ?_; refine Wo rfl (opv_pick_f (v := .bool _) rfl rfl) ?_; refine Wo rfl (opv_assign (v := .bool _) rfl) ?_; refine Wo_nil ?_; refine W_ret ?_; refine at_ret (v := .bool _) rfl ?_
    refine ⟨congrArg Value.bool ?_, (E1.trans E2)⟩; rotate_left; refine Wo_skip rfl ?_; refine Wo_skip rfl ?_; refine Wo rfl (opv_pick_f (v := .bool _) rfl rfl) ?_; refine Wo rfl (opv_move (v := .bool _) rfl) ?_; refine Wo_skip rfl ?_
    refine Wo_skip rfl ?_; refine Wo rfl (opv_pick_f (v := .bool _) rfl rfl) ?_; refine Wo rfl (opv_move (v := .bool _) rfl) ?_; refine Wo_skip rfl ?_; refine Wo_skip rfl ?_; refine Wo_skip rfl ?_; refine Wo_skip rfl ?_
    refine Wo_skip rfl ?_; refine Wo rfl (opv_pick_f (v := .bool _) rfl rfl) ?_; refine Wo rfl (opv_assign (v := .bool _) rfl) ?_; refine Wo_nil ?_; refine W_ret ?_; refine at_ret (v := .bool _) rfl ?_
    refine ⟨congrArg Value.bool ?_, E1⟩; rotate_left
  · have hn : 0 ≤ n ∧ n ≤ 65535 ∧ 0 ≤ m ∧ m ≤ 15 := by omega
    unfold hasC
    rw [decide_eq_true hn, Bool.true_and, Bool.eq_iff_iff, decide_eq_true_iff]
    exact and_one _ _
  all_goals
    have hn : ¬ (0 ≤ n ∧ n ≤ 65535 ∧ 0 ≤ m ∧ m ≤ 15) := by omega
    unfold hasC
    rw [decide_eq_false hn]; rfl

theorem alive_ok (w : World) : Does Try.prog 20 [] w (Ret w (.bool true)) := by
  have h1 : ∀ w, Does Try.prog 54 [.int .i64 5, .int .i64 2] w (Ret w (.bool true)) := fun w => by
    have := Has_ok 5 2 w
    have e : hasC 5 2 = true := by decide
    rw [e] at this; exact this
  have h2 : ∀ w, Does Try.prog 54 [.int .i64 5, .int .i64 1] w (Ret w (.bool false)) := fun w => by
    have := Has_ok 5 1 w
    have e : hasC 5 1 = false := by decide
    rw [e] at this; exact this
  refine fn_of_W1 Try.func20 rfl Try.results20 Try.ntmps20 rfl ?_
  focus
    refine W_seq ?_; refine W_region rfl ?_; refine Wo rfl (opv_assign (v := .bool _) rfl) ?_; refine Wo_nil ?_; refine W_seq ?_; refine W_region rfl ?_
    refine Wo_call rfl (opc2 (a := .int _ _) (b := .int _ _) Try.call54 rfl rfl) (h1 _) ?_; rintro _ w1 ⟨rfl, E1⟩; have hs1 := E1.size; refine Wo rfl (opv_move (v := .bool _) rfl) ?_
    refine Wo_call rfl (opc2 (a := .int _ _) (b := .int _ _) Try.call54 rfl rfl) (h2 _) ?_; rintro _ w2 ⟨rfl, E2⟩; have hs2 := E2.size; refine Wo rfl (opv_not rfl) ?_; refine Wo rfl (opv_pick_t (v := .bool _) rfl rfl) ?_
    refine Wo rfl (opv_assign (v := .bool _) rfl) ?_; refine Wo_nil ?_; refine W_ret ?_; exact ⟨rfl, (E1.trans E2)⟩

end Go.Proofs.Ytjdfnngmbaojjaa
