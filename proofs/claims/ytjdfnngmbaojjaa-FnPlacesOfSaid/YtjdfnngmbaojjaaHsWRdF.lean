/- Walks: formulas drawn. -/
import Derived.Test.YtjdfnngmbaojjaaHsWRd
namespace Go.Proofs.Ytjdfnngmbaojjaa
open Go.Hs
set_option maxRecDepth 10000
set_option maxHeartbeats 4000000
set_option linter.unusedVariables false

def cF : Nat → Nat
  | 0 => 1
  | d + 1 => 4 + 2 * cF d
def lF : Nat → Nat
  | 0 => 8
  | d + 1 => 12 + 2 * lF d
theorem lF_le : ∀ d, d ≤ 5 → lF d ≤ 1000 := by
  have : ∀ d, d < 6 → lF d ≤ 1000 := by decide
  intro d h; exact this d (by omega)

theorem formula_ok : ∀ (d : Nat), d ≤ 5 → ∀ {w0 : World} (w : World) {br m : Nat} (z : Int), z = d → Rdr w0 w br m → m + cF d ≤ 500000000 → 
    Does Try.prog 74 [.pointer (some ⟨br, 0, none⟩), .int .i64 z] w (RetD w0 w br (m + cF d) str (fun s _ => 1 ≤ s.length ∧ s.length ≤ lF d)) := by
  intro d
  induction d with
  | zero =>
    intro _ w0 w br m z hz hr hm
    unfold cF at hm
    subst hz
    refine fn_of_W1 Try.func74 rfl Try.results74 Try.ntmps74 rfl ?_
    have hG : w.grownBy w (some br) := grownBy_refl _ _
    have hlr := hr.lt
    have hgr := hr.ge
    focus
      refine W_seq ?_; refine W_region rfl ?_; refine Wo rfl (opv_assign (v := .string _) rfl) ?_; refine Wo_nil ?_; refine W_seq ?_; refine W_seq ?_; refine W_region rfl ?_; refine Wo rfl (opv_move (v := .int _ _) rfl) ?_
      refine Wo rfl (opv_eql rfl rfl) ?_; refine Wo_split_dec rfl (opv_move (v := .bool _) rfl) (fun h1 => ?_) (fun h1 => ?_); refine Wo_skip rfl ?_; refine Wo_skip rfl ?_; refine Wo_skip rfl ?_
      refine Wo rfl (opv_pick_t (v := .bool _) rfl rfl) ?_; refine Wo_nil ?_; refine W_cond_true rfl ?_; refine W_seq ?_; refine W_region rfl ?_
      refine Wo_buildSlice (ps := [(0, .string _), (1, .string _), (2, .string _), (3, .string _)]) (cs := [_, _, _, _]) rfl Try.underlying81 Try.sizeOf9 Try.zeroValue9 rfl rfl rfl rfl ?_; rintro b1 w1 hb1 E1 hB1; have hlb1 := hB1.lt
      have hr := hr.ext E1; have hG := grownBy_ext hG E1; have hs1 := E1.size; refine Wo rfl (opv_move (v := .pointer _) rfl) ?_
      refine Wo_call rfl (opc2 (a := .pointer _) (b := .int _ _) Try.call76 rfl rfl) (pick_ok _ _ (by assumption) (by omega)) ?_; rintro _ w2 ⟨y1, rfl, E2, hr1, hy1⟩; (try dsimp only at hy1); have hlhr1 := hr1.lt; have Ehr1 := hr1.old
      have hB1 := hB1.grown E2 (by simp only [ne_eq, Option.some.injEq]; omega); have hG := grownBy_trans hG E2; have hs2 := E2.size; refine Wo rfl (opv_indexAddr Try.underlying81 Try.sizeOf9 rfl rfl (by omega)) ?_
      refine Wo_tbl 1 Try.isAgg9 rfl rfl hB1 (by repeat (first | exact trivial | refine And.intro ⟨_, rfl, by decide⟩ ?_)) (by simp only [List.length_cons, List.length_nil]; omega) ?_; intro s1 hs1
      refine Wo rfl (opv_assign (v := .string _) rfl) ?_; refine Wo_nil ?_; refine W_ret ?_; refine at_ret (v := .string _) rfl ?_; rotate_left; contradiction
    exact ⟨s1, rfl, hG, hr1, by unfold lF; omega⟩
  | succ d ih =>
    intro hd w0 w br m z hz hr hm
    have ih := @ih (by omega)
    have hl := lF_le d (by omega)
    unfold cF at hm
    refine fn_of_W1 Try.func74 rfl Try.results74 Try.ntmps74 rfl ?_
    have hG : w.grownBy w (some br) := grownBy_refl _ _
    have hlr := hr.lt
    have hgr := hr.ge
    focus
      refine W_seq ?_; refine W_region rfl ?_; refine Wo rfl (opv_assign (v := .string _) rfl) ?_; refine Wo_nil ?_; refine W_seq ?_; refine W_seq ?_; refine W_region rfl ?_; refine Wo rfl (opv_move (v := .int _ _) rfl) ?_
      refine Wo rfl (opv_eql rfl rfl) ?_; refine Wo_split_dec rfl (opv_move (v := .bool _) rfl) (fun h1 => ?_) (fun h1 => ?_); (exfalso; omega); refine Wo rfl (opv_move (v := .pointer _) rfl) ?_
      refine Wo_call rfl (opc2 (a := .pointer _) (b := .int _ _) Try.call76 rfl rfl) (pick_ok _ _ (by assumption) (by omega)) ?_; rintro _ w1 ⟨y1, rfl, E1, hr1, hy1⟩; (try dsimp only at hy1); have hlhr1 := hr1.lt; have Ehr1 := hr1.old
      have hG := grownBy_trans hG E1; have hs1 := E1.size; refine Wo rfl (opv_eql rfl rfl) ?_; refine Wo rfl (opv_pick_f (v := .bool _) rfl rfl) ?_; refine Wo_nil ?_; refine W_cond_dec rfl (fun h2 => ?_) (fun h2 => ?_); refine W_seq ?_
      refine W_region rfl ?_; refine Wo_buildSlice (ps := [(0, .string _), (1, .string _), (2, .string _), (3, .string _)]) (cs := [_, _, _, _]) rfl Try.underlying81 Try.sizeOf9 Try.zeroValue9 rfl rfl rfl rfl ?_; rintro b1 w2 hb1 E2 hB1
      have hlb1 := hB1.lt; have hr1 := hr1.ext E2; have hG := grownBy_ext hG E2; have hs2 := E2.size; refine Wo rfl (opv_move (v := .pointer _) rfl) ?_
      refine Wo_call rfl (opc2 (a := .pointer _) (b := .int _ _) Try.call76 rfl rfl) (pick_ok _ _ (by assumption) (by omega)) ?_; rintro _ w3 ⟨y2, rfl, E3, hr2, hy2⟩; (try dsimp only at hy2); have hlhr2 := hr2.lt; have Ehr2 := hr2.old
      have hB1 := hB1.grown E3 (by simp only [ne_eq, Option.some.injEq]; omega); have hG := grownBy_trans hG E3; have hs3 := E3.size; refine Wo rfl (opv_indexAddr Try.underlying81 Try.sizeOf9 rfl rfl (by omega)) ?_
      refine Wo_tbl 1 Try.isAgg9 rfl rfl hB1 (by repeat (first | exact trivial | refine And.intro ⟨_, rfl, by decide⟩ ?_)) (by simp only [List.length_cons, List.length_nil]; omega) ?_; intro s1 hs1
      refine Wo rfl (opv_assign (v := .string _) rfl) ?_; refine Wo_nil ?_; refine W_ret ?_; refine at_ret (v := .string _) rfl ?_; rotate_left; refine W_skip ?_; refine W_seq ?_; refine W_seq ?_; refine W_region rfl ?_
      refine Wo rfl (opv_move (v := .pointer _) rfl) ?_; refine Wo_call rfl (opc2 (a := .pointer _) (b := .int _ _) Try.call76 rfl rfl) (pick_ok _ _ (by assumption) (by omega)) ?_; rintro _ w2 ⟨y2, rfl, E2, hr2, hy2⟩
      (try dsimp only at hy2); have hlhr2 := hr2.lt; have Ehr2 := hr2.old; have hG := grownBy_trans hG E2; have hs2 := E2.size; refine Wo rfl (opv_gtr rfl rfl) ?_; refine Wo_nil ?_; refine W_cond_dec rfl (fun h3 => ?_) (fun h3 => ?_)
      refine W_seq ?_; refine W_held (fun _ => True) mixed rfl (by kernel_rfl) ?_; intro w3 E3 K1 hz1; have hr2 := hr2.ext E3; have hG := grownBy_ext hG E3; have hs3 := E3.size
      refine Wh_take 1 rfl (by kernel_rfl) (by kernel_rfl) rfl (fun _ _ => opv_move (v := .pointer _) rfl) trivial ?_; refine Wh_take 5 rfl (by kernel_rfl) (by kernel_rfl) rfl (fun _ _ => opv_move (v := .pointer _) rfl) trivial ?_
      refine Wh_take 6 rfl (by kernel_rfl) (by kernel_rfl) rfl (fun _ _ => opv_move (v := .int _ _) rfl) trivial ?_; refine Wh_take 7 rfl (by kernel_rfl) (by kernel_rfl) rfl (fun _ _ => opv_sub rfl rfl (by omega)) trivial ?_
      refine Wh_all (rs := [0, 2]) (by kernel_rfl) rfl ?_; refine WhAll_cons rfl ?_ ?_
      refine Wo_buildSlice (ps := [(0, .string _), (1, .string _), (2, .string _), (3, .string _)]) (cs := [_, _, _, _]) rfl Try.underlying81 Try.sizeOf9 Try.zeroValue9 rfl rfl rfl rfl ?_; rintro b1 w4 hb1 E4 hB1; have hlb1 := hB1.lt
      have hr2 := hr2.ext E4; have hG := grownBy_ext hG E4; have hs4 := E4.size; refine Wo_nil ?_; refine ⟨trivial, ?_⟩; refine Wh_all (rs := [2]) (by kernel_rfl) rfl ?_; refine WhAll_cons rfl ?_ ?_
      refine Wo_call rfl (opc2 (a := .pointer _) (b := .int _ _) Try.call76 rfl rfl) (pick_ok _ _ (by assumption) (by omega)) ?_; rintro _ w5 ⟨y3, rfl, E5, hr3, hy3⟩; (try dsimp only at hy3); have hlhr3 := hr3.lt; have Ehr3 := hr3.old
      have hB1 := hB1.grown E5 (by simp only [ne_eq, Option.some.injEq]; omega); have hG := grownBy_trans hG E5; have hs5 := E5.size; refine Wo_nil ?_; refine ⟨trivial, ?_⟩
      refine Wh_take 3 rfl (by kernel_rfl) (by kernel_rfl) rfl (fun _ _ => opv_indexAddr Try.underlying81 Try.sizeOf9 rfl rfl (by omega)) trivial ?_; refine Wh_all (rs := [4, 8]) (by kernel_rfl) rfl ?_; refine WhAll_cons rfl ?_ ?_
      refine Wo_tbl 1 Try.isAgg9 rfl rfl hB1 (by repeat (first | exact trivial | refine And.intro ⟨_, rfl, by decide⟩ ?_)) (by simp only [List.length_cons, List.length_nil]; omega) ?_; intro s1 hs1; refine Wo_nil ?_; refine ⟨trivial, ?_⟩
      refine Wh_all (rs := [8]) (by kernel_rfl) rfl ?_; refine WhAll_cons rfl ?_ ?_; refine Wo_call rfl (opc2 (a := .pointer _) (b := .int _ _) Try.call74 rfl rfl) (ih _ _ (by omega) (by assumption) (by omega)) ?_
      rintro _ w6 ⟨y4, rfl, E6, hr4, hy4⟩; (try dsimp only at hy4); have hlhr4 := hr4.lt; have Ehr4 := hr4.old; have hB1 := hB1.grown E6 (by simp only [ne_eq, Option.some.injEq]; omega); have hG := grownBy_trans hG E6; have hs6 := E6.size
      refine Wo_nil ?_; refine ⟨trivial, ?_⟩; refine Wh_take 9 rfl (by kernel_rfl) (by kernel_rfl) rfl (fun _ _ => opv_add_str rfl rfl (by omega)) trivial ?_
      refine Wh_take 10 rfl (by kernel_rfl) (by kernel_rfl) rfl (fun _ _ => opv_assign (v := .string _) rfl) trivial ?_; refine Wh_done (by kernel_rfl) ?_; refine W_ret ?_; refine at_ret (v := .string _) rfl ?_; rotate_left
      exact WhAll_nil; refine WhAll_cons rfl ?_ ?_; refine Wo_call rfl (opc2 (a := .pointer _) (b := .int _ _) Try.call74 rfl rfl) (ih _ _ (by omega) (by assumption) (by omega)) ?_; rintro _ w6 ⟨y4, rfl, E6, hr4, hy4⟩
      (try dsimp only at hy4); have hlhr4 := hr4.lt; have Ehr4 := hr4.old; have hB1 := hB1.grown E6 (by simp only [ne_eq, Option.some.injEq]; omega); have hG := grownBy_trans hG E6; have hs6 := E6.size; refine Wo_nil ?_
      refine ⟨trivial, ?_⟩; refine Wh_all (rs := [4]) (by kernel_rfl) rfl ?_; refine WhAll_cons rfl ?_ ?_
      refine Wo_tbl 1 Try.isAgg9 rfl rfl hB1 (by repeat (first | exact trivial | refine And.intro ⟨_, rfl, by decide⟩ ?_)) (by simp only [List.length_cons, List.length_nil]; omega) ?_; intro s1 hs1; refine Wo_nil ?_; refine ⟨trivial, ?_⟩
      refine Wh_take 9 rfl (by kernel_rfl) (by kernel_rfl) rfl (fun _ _ => opv_add_str rfl rfl (by omega)) trivial ?_; refine Wh_take 10 rfl (by kernel_rfl) (by kernel_rfl) rfl (fun _ _ => opv_assign (v := .string _) rfl) trivial ?_
      refine Wh_done (by kernel_rfl) ?_; refine W_ret ?_; refine at_ret (v := .string _) rfl ?_; rotate_left; exact WhAll_nil; exact WhAll_nil; exact WhAll_nil; refine WhAll_cons rfl ?_ ?_
      refine Wo_call rfl (opc2 (a := .pointer _) (b := .int _ _) Try.call76 rfl rfl) (pick_ok _ _ (by assumption) (by omega)) ?_; rintro _ w4 ⟨y3, rfl, E4, hr3, hy3⟩; (try dsimp only at hy3); have hlhr3 := hr3.lt; have Ehr3 := hr3.old
      have hG := grownBy_trans hG E4; have hs4 := E4.size; refine Wo_nil ?_; refine ⟨trivial, ?_⟩; refine Wh_all (rs := [0, 8]) (by kernel_rfl) rfl ?_; refine WhAll_cons rfl ?_ ?_
      refine Wo_buildSlice (ps := [(0, .string _), (1, .string _), (2, .string _), (3, .string _)]) (cs := [_, _, _, _]) rfl Try.underlying81 Try.sizeOf9 Try.zeroValue9 rfl rfl rfl rfl ?_; rintro b1 w5 hb1 E5 hB1; have hlb1 := hB1.lt
      have hr3 := hr3.ext E5; have hG := grownBy_ext hG E5; have hs5 := E5.size; refine Wo_nil ?_; refine ⟨trivial, ?_⟩
      refine Wh_take 3 rfl (by kernel_rfl) (by kernel_rfl) rfl (fun _ _ => opv_indexAddr Try.underlying81 Try.sizeOf9 rfl rfl (by omega)) trivial ?_; refine Wh_all (rs := [4, 8]) (by kernel_rfl) rfl ?_; refine WhAll_cons rfl ?_ ?_
      refine Wo_tbl 1 Try.isAgg9 rfl rfl hB1 (by repeat (first | exact trivial | refine And.intro ⟨_, rfl, by decide⟩ ?_)) (by simp only [List.length_cons, List.length_nil]; omega) ?_; intro s1 hs1; refine Wo_nil ?_; refine ⟨trivial, ?_⟩
      refine Wh_all (rs := [8]) (by kernel_rfl) rfl ?_; refine WhAll_cons rfl ?_ ?_; refine Wo_call rfl (opc2 (a := .pointer _) (b := .int _ _) Try.call74 rfl rfl) (ih _ _ (by omega) (by assumption) (by omega)) ?_
      rintro _ w6 ⟨y4, rfl, E6, hr4, hy4⟩; (try dsimp only at hy4); have hlhr4 := hr4.lt; have Ehr4 := hr4.old; have hB1 := hB1.grown E6 (by simp only [ne_eq, Option.some.injEq]; omega); have hG := grownBy_trans hG E6; have hs6 := E6.size
      refine Wo_nil ?_; refine ⟨trivial, ?_⟩; refine Wh_take 9 rfl (by kernel_rfl) (by kernel_rfl) rfl (fun _ _ => opv_add_str rfl rfl (by omega)) trivial ?_
      refine Wh_take 10 rfl (by kernel_rfl) (by kernel_rfl) rfl (fun _ _ => opv_assign (v := .string _) rfl) trivial ?_; refine Wh_done (by kernel_rfl) ?_; refine W_ret ?_; refine at_ret (v := .string _) rfl ?_; rotate_left
      exact WhAll_nil; refine WhAll_cons rfl ?_ ?_; refine Wo_call rfl (opc2 (a := .pointer _) (b := .int _ _) Try.call74 rfl rfl) (ih _ _ (by omega) (by assumption) (by omega)) ?_; rintro _ w6 ⟨y4, rfl, E6, hr4, hy4⟩
      (try dsimp only at hy4); have hlhr4 := hr4.lt; have Ehr4 := hr4.old; have hB1 := hB1.grown E6 (by simp only [ne_eq, Option.some.injEq]; omega); have hG := grownBy_trans hG E6; have hs6 := E6.size; refine Wo_nil ?_
      refine ⟨trivial, ?_⟩; refine Wh_all (rs := [4]) (by kernel_rfl) rfl ?_; refine WhAll_cons rfl ?_ ?_
      refine Wo_tbl 1 Try.isAgg9 rfl rfl hB1 (by repeat (first | exact trivial | refine And.intro ⟨_, rfl, by decide⟩ ?_)) (by simp only [List.length_cons, List.length_nil]; omega) ?_; intro s1 hs1; refine Wo_nil ?_; refine ⟨trivial, ?_⟩
      refine Wh_take 9 rfl (by kernel_rfl) (by kernel_rfl) rfl (fun _ _ => opv_add_str rfl rfl (by omega)) trivial ?_; refine Wh_take 10 rfl (by kernel_rfl) (by kernel_rfl) rfl (fun _ _ => opv_assign (v := .string _) rfl) trivial ?_
      refine Wh_done (by kernel_rfl) ?_; refine W_ret ?_; refine at_ret (v := .string _) rfl ?_; rotate_left; exact WhAll_nil; exact WhAll_nil; refine WhAll_cons rfl ?_ ?_
      refine Wo_call rfl (opc2 (a := .pointer _) (b := .int _ _) Try.call74 rfl rfl) (ih _ _ (by omega) (by assumption) (by omega)) ?_; rintro _ w5 ⟨y4, rfl, E5, hr4, hy4⟩; (try dsimp only at hy4); have hlhr4 := hr4.lt
      have Ehr4 := hr4.old; have hG := grownBy_trans hG E5; have hs5 := E5.size; refine Wo_nil ?_; refine ⟨trivial, ?_⟩; refine Wh_all (rs := [0]) (by kernel_rfl) rfl ?_; refine WhAll_cons rfl ?_ ?_
      refine Wo_buildSlice (ps := [(0, .string _), (1, .string _), (2, .string _), (3, .string _)]) (cs := [_, _, _, _]) rfl Try.underlying81 Try.sizeOf9 Try.zeroValue9 rfl rfl rfl rfl ?_; rintro b1 w6 hb1 E6 hB1; have hlb1 := hB1.lt
      have hr4 := hr4.ext E6; have hG := grownBy_ext hG E6; have hs6 := E6.size; refine Wo_nil ?_; refine ⟨trivial, ?_⟩
      refine Wh_take 3 rfl (by kernel_rfl) (by kernel_rfl) rfl (fun _ _ => opv_indexAddr Try.underlying81 Try.sizeOf9 rfl rfl (by omega)) trivial ?_; refine Wh_all (rs := [4]) (by kernel_rfl) rfl ?_; refine WhAll_cons rfl ?_ ?_
      refine Wo_tbl 1 Try.isAgg9 rfl rfl hB1 (by repeat (first | exact trivial | refine And.intro ⟨_, rfl, by decide⟩ ?_)) (by simp only [List.length_cons, List.length_nil]; omega) ?_; intro s1 hs1; refine Wo_nil ?_; refine ⟨trivial, ?_⟩
      refine Wh_take 9 rfl (by kernel_rfl) (by kernel_rfl) rfl (fun _ _ => opv_add_str rfl rfl (by omega)) trivial ?_; refine Wh_take 10 rfl (by kernel_rfl) (by kernel_rfl) rfl (fun _ _ => opv_assign (v := .string _) rfl) trivial ?_
      refine Wh_done (by kernel_rfl) ?_; refine W_ret ?_; refine at_ret (v := .string _) rfl ?_; rotate_left; exact WhAll_nil; exact WhAll_nil; exact WhAll_nil; exact WhAll_nil; refine W_skip ?_; refine W_seq ?_
      refine W_held (fun _ => True) mixed rfl (by kernel_rfl) ?_; intro w3 E3 K1 hz1; have hr2 := hr2.ext E3; have hG := grownBy_ext hG E3; have hs3 := E3.size
      refine Wh_take 0 rfl (by kernel_rfl) (by kernel_rfl) rfl (fun _ _ => opv_move (v := .pointer _) rfl) trivial ?_; refine Wh_take 1 rfl (by kernel_rfl) (by kernel_rfl) rfl (fun _ _ => opv_move (v := .int _ _) rfl) trivial ?_
      refine Wh_take 2 rfl (by kernel_rfl) (by kernel_rfl) rfl (fun _ _ => opv_sub rfl rfl (by omega)) trivial ?_; refine Wh_take 6 rfl (by kernel_rfl) (by kernel_rfl) rfl (fun _ _ => opv_move (v := .pointer _) rfl) trivial ?_
      refine Wh_take 11 rfl (by kernel_rfl) (by kernel_rfl) rfl (fun _ _ => opv_move (v := .pointer _) rfl) trivial ?_; refine Wh_take 12 rfl (by kernel_rfl) (by kernel_rfl) rfl (fun _ _ => opv_move (v := .int _ _) rfl) trivial ?_
      refine Wh_take 13 rfl (by kernel_rfl) (by kernel_rfl) rfl (fun _ _ => opv_sub rfl rfl (by omega)) trivial ?_; refine Wh_all (rs := [3, 5]) (by kernel_rfl) rfl ?_; refine WhAll_cons rfl ?_ ?_
      refine Wo_call rfl (opc2 (a := .pointer _) (b := .int _ _) Try.call74 rfl rfl) (ih _ _ (by omega) (by assumption) (by omega)) ?_; rintro _ w4 ⟨y3, rfl, E4, hr3, hy3⟩; (try dsimp only at hy3); have hlhr3 := hr3.lt
      have Ehr3 := hr3.old; have hG := grownBy_trans hG E4; have hs4 := E4.size; refine Wo_nil ?_; refine ⟨trivial, ?_⟩
      refine Wh_take 4 rfl (by kernel_rfl) (by kernel_rfl) rfl (fun _ _ => opv_add_str rfl rfl (by simp <;> omega)) trivial ?_; refine Wh_all (rs := [5, 7]) (by kernel_rfl) rfl ?_; refine WhAll_cons rfl ?_ ?_
      refine Wo_buildSlice (ps := [(0, .string _), (1, .string _)]) (cs := [_, _]) rfl Try.underlying81 Try.sizeOf9 Try.zeroValue9 rfl rfl rfl rfl ?_; rintro b1 w5 hb1 E5 hB1; have hlb1 := hB1.lt; have hr3 := hr3.ext E5
      have hG := grownBy_ext hG E5; have hs5 := E5.size; refine Wo_nil ?_; refine ⟨trivial, ?_⟩; refine Wh_all (rs := [7]) (by kernel_rfl) rfl ?_; refine WhAll_cons rfl ?_ ?_
      refine Wo_call rfl (opc2 (a := .pointer _) (b := .int _ _) Try.call76 rfl rfl) (pick_ok _ _ (by assumption) (by omega)) ?_; rintro _ w6 ⟨y4, rfl, E6, hr4, hy4⟩; (try dsimp only at hy4); have hlhr4 := hr4.lt; have Ehr4 := hr4.old
      have hB1 := hB1.grown E6 (by simp only [ne_eq, Option.some.injEq]; omega); have hG := grownBy_trans hG E6; have hs6 := E6.size; refine Wo_nil ?_; refine ⟨trivial, ?_⟩
      refine Wh_take 8 rfl (by kernel_rfl) (by kernel_rfl) rfl (fun _ _ => opv_indexAddr Try.underlying81 Try.sizeOf9 rfl rfl (by omega)) trivial ?_; refine Wh_all (rs := [9, 14]) (by kernel_rfl) rfl ?_; refine WhAll_cons rfl ?_ ?_
      refine Wo_tbl 1 Try.isAgg9 rfl rfl hB1 (by repeat (first | exact trivial | refine And.intro ⟨_, rfl, by decide⟩ ?_)) (by simp only [List.length_cons, List.length_nil]; omega) ?_; intro s1 hs1; refine Wo_nil ?_; refine ⟨trivial, ?_⟩
      refine Wh_take 10 rfl (by kernel_rfl) (by kernel_rfl) rfl (fun _ _ => opv_add_str rfl rfl (by simp <;> omega)) trivial ?_; refine Wh_all (rs := [14]) (by kernel_rfl) rfl ?_; refine WhAll_cons rfl ?_ ?_
      refine Wo_call rfl (opc2 (a := .pointer _) (b := .int _ _) Try.call74 rfl rfl) (ih _ _ (by omega) (by assumption) (by omega)) ?_; rintro _ w7 ⟨y5, rfl, E7, hr5, hy5⟩; (try dsimp only at hy5); have hlhr5 := hr5.lt
      have Ehr5 := hr5.old; have hB1 := hB1.grown E7 (by simp only [ne_eq, Option.some.injEq]; omega); have hG := grownBy_trans hG E7; have hs7 := E7.size; refine Wo_nil ?_; refine ⟨trivial, ?_⟩
      refine Wh_take 15 rfl (by kernel_rfl) (by kernel_rfl) rfl (fun _ _ => opv_add_str rfl rfl (by simp <;> omega)) trivial ?_
      refine Wh_take 16 rfl (by kernel_rfl) (by kernel_rfl) rfl (fun _ _ => opv_add_str rfl rfl (by simp <;> omega)) trivial ?_
      refine Wh_take 17 rfl (by kernel_rfl) (by kernel_rfl) rfl (fun _ _ => opv_assign (v := .string _) rfl) trivial ?_; refine Wh_done (by kernel_rfl) ?_; refine W_ret ?_; refine at_ret (v := .string _) rfl ?_; rotate_left
      exact WhAll_nil; refine WhAll_cons rfl ?_ ?_; refine Wo_call rfl (opc2 (a := .pointer _) (b := .int _ _) Try.call74 rfl rfl) (ih _ _ (by omega) (by assumption) (by omega)) ?_; rintro _ w7 ⟨y5, rfl, E7, hr5, hy5⟩
      (try dsimp only at hy5); have hlhr5 := hr5.lt; have Ehr5 := hr5.old; have hB1 := hB1.grown E7 (by simp only [ne_eq, Option.some.injEq]; omega); have hG := grownBy_trans hG E7; have hs7 := E7.size; refine Wo_nil ?_
      refine ⟨trivial, ?_⟩; refine Wh_all (rs := [9]) (by kernel_rfl) rfl ?_; refine WhAll_cons rfl ?_ ?_
      refine Wo_tbl 1 Try.isAgg9 rfl rfl hB1 (by repeat (first | exact trivial | refine And.intro ⟨_, rfl, by decide⟩ ?_)) (by simp only [List.length_cons, List.length_nil]; omega) ?_; intro s1 hs1; refine Wo_nil ?_; refine ⟨trivial, ?_⟩
      refine Wh_take 10 rfl (by kernel_rfl) (by kernel_rfl) rfl (fun _ _ => opv_add_str rfl rfl (by simp <;> omega)) trivial ?_
      refine Wh_take 15 rfl (by kernel_rfl) (by kernel_rfl) rfl (fun _ _ => opv_add_str rfl rfl (by simp <;> omega)) trivial ?_
      refine Wh_take 16 rfl (by kernel_rfl) (by kernel_rfl) rfl (fun _ _ => opv_add_str rfl rfl (by simp <;> omega)) trivial ?_
      refine Wh_take 17 rfl (by kernel_rfl) (by kernel_rfl) rfl (fun _ _ => opv_assign (v := .string _) rfl) trivial ?_; refine Wh_done (by kernel_rfl) ?_; refine W_ret ?_; refine at_ret (v := .string _) rfl ?_; rotate_left
      exact WhAll_nil; exact WhAll_nil; exact WhAll_nil; refine WhAll_cons rfl ?_ ?_; refine Wo_call rfl (opc2 (a := .pointer _) (b := .int _ _) Try.call76 rfl rfl) (pick_ok _ _ (by assumption) (by omega)) ?_
      rintro _ w5 ⟨y4, rfl, E5, hr4, hy4⟩; (try dsimp only at hy4); have hlhr4 := hr4.lt; have Ehr4 := hr4.old; have hG := grownBy_trans hG E5; have hs5 := E5.size; refine Wo_nil ?_; refine ⟨trivial, ?_⟩
      refine Wh_all (rs := [5, 14]) (by kernel_rfl) rfl ?_; refine WhAll_cons rfl ?_ ?_; refine Wo_buildSlice (ps := [(0, .string _), (1, .string _)]) (cs := [_, _]) rfl Try.underlying81 Try.sizeOf9 Try.zeroValue9 rfl rfl rfl rfl ?_
      rintro b1 w6 hb1 E6 hB1; have hlb1 := hB1.lt; have hr4 := hr4.ext E6; have hG := grownBy_ext hG E6; have hs6 := E6.size; refine Wo_nil ?_; refine ⟨trivial, ?_⟩
      refine Wh_take 8 rfl (by kernel_rfl) (by kernel_rfl) rfl (fun _ _ => opv_indexAddr Try.underlying81 Try.sizeOf9 rfl rfl (by omega)) trivial ?_; refine Wh_all (rs := [9, 14]) (by kernel_rfl) rfl ?_; refine WhAll_cons rfl ?_ ?_
      refine Wo_tbl 1 Try.isAgg9 rfl rfl hB1 (by repeat (first | exact trivial | refine And.intro ⟨_, rfl, by decide⟩ ?_)) (by simp only [List.length_cons, List.length_nil]; omega) ?_; intro s1 hs1; refine Wo_nil ?_; refine ⟨trivial, ?_⟩
      refine Wh_take 10 rfl (by kernel_rfl) (by kernel_rfl) rfl (fun _ _ => opv_add_str rfl rfl (by simp <;> omega)) trivial ?_; refine Wh_all (rs := [14]) (by kernel_rfl) rfl ?_; refine WhAll_cons rfl ?_ ?_
      refine Wo_call rfl (opc2 (a := .pointer _) (b := .int _ _) Try.call74 rfl rfl) (ih _ _ (by omega) (by assumption) (by omega)) ?_; rintro _ w7 ⟨y5, rfl, E7, hr5, hy5⟩; (try dsimp only at hy5); have hlhr5 := hr5.lt
      have Ehr5 := hr5.old; have hB1 := hB1.grown E7 (by simp only [ne_eq, Option.some.injEq]; omega); have hG := grownBy_trans hG E7; have hs7 := E7.size; refine Wo_nil ?_; refine ⟨trivial, ?_⟩
      refine Wh_take 15 rfl (by kernel_rfl) (by kernel_rfl) rfl (fun _ _ => opv_add_str rfl rfl (by simp <;> omega)) trivial ?_
      refine Wh_take 16 rfl (by kernel_rfl) (by kernel_rfl) rfl (fun _ _ => opv_add_str rfl rfl (by simp <;> omega)) trivial ?_
      refine Wh_take 17 rfl (by kernel_rfl) (by kernel_rfl) rfl (fun _ _ => opv_assign (v := .string _) rfl) trivial ?_; refine Wh_done (by kernel_rfl) ?_; refine W_ret ?_; refine at_ret (v := .string _) rfl ?_; rotate_left
      exact WhAll_nil; refine WhAll_cons rfl ?_ ?_; refine Wo_call rfl (opc2 (a := .pointer _) (b := .int _ _) Try.call74 rfl rfl) (ih _ _ (by omega) (by assumption) (by omega)) ?_; rintro _ w7 ⟨y5, rfl, E7, hr5, hy5⟩
      (try dsimp only at hy5); have hlhr5 := hr5.lt; have Ehr5 := hr5.old; have hB1 := hB1.grown E7 (by simp only [ne_eq, Option.some.injEq]; omega); have hG := grownBy_trans hG E7; have hs7 := E7.size; refine Wo_nil ?_
      refine ⟨trivial, ?_⟩; refine Wh_all (rs := [9]) (by kernel_rfl) rfl ?_; refine WhAll_cons rfl ?_ ?_
      refine Wo_tbl 1 Try.isAgg9 rfl rfl hB1 (by repeat (first | exact trivial | refine And.intro ⟨_, rfl, by decide⟩ ?_)) (by simp only [List.length_cons, List.length_nil]; omega) ?_; intro s1 hs1; refine Wo_nil ?_; refine ⟨trivial, ?_⟩
      refine Wh_take 10 rfl (by kernel_rfl) (by kernel_rfl) rfl (fun _ _ => opv_add_str rfl rfl (by simp <;> omega)) trivial ?_
      refine Wh_take 15 rfl (by kernel_rfl) (by kernel_rfl) rfl (fun _ _ => opv_add_str rfl rfl (by simp <;> omega)) trivial ?_
      refine Wh_take 16 rfl (by kernel_rfl) (by kernel_rfl) rfl (fun _ _ => opv_add_str rfl rfl (by simp <;> omega)) trivial ?_
      refine Wh_take 17 rfl (by kernel_rfl) (by kernel_rfl) rfl (fun _ _ => opv_assign (v := .string _) rfl) trivial ?_; refine Wh_done (by kernel_rfl) ?_; refine W_ret ?_; refine at_ret (v := .string _) rfl ?_; rotate_left
      exact WhAll_nil; exact WhAll_nil; refine WhAll_cons rfl ?_ ?_; refine Wo_call rfl (opc2 (a := .pointer _) (b := .int _ _) Try.call74 rfl rfl) (ih _ _ (by omega) (by assumption) (by omega)) ?_; rintro _ w6 ⟨y5, rfl, E6, hr5, hy5⟩
      (try dsimp only at hy5); have hlhr5 := hr5.lt; have Ehr5 := hr5.old; have hG := grownBy_trans hG E6; have hs6 := E6.size; refine Wo_nil ?_; refine ⟨trivial, ?_⟩; refine Wh_all (rs := [5]) (by kernel_rfl) rfl ?_
      refine WhAll_cons rfl ?_ ?_; refine Wo_buildSlice (ps := [(0, .string _), (1, .string _)]) (cs := [_, _]) rfl Try.underlying81 Try.sizeOf9 Try.zeroValue9 rfl rfl rfl rfl ?_; rintro b1 w7 hb1 E7 hB1; have hlb1 := hB1.lt
      have hr5 := hr5.ext E7; have hG := grownBy_ext hG E7; have hs7 := E7.size; refine Wo_nil ?_; refine ⟨trivial, ?_⟩
      refine Wh_take 8 rfl (by kernel_rfl) (by kernel_rfl) rfl (fun _ _ => opv_indexAddr Try.underlying81 Try.sizeOf9 rfl rfl (by omega)) trivial ?_; refine Wh_all (rs := [9]) (by kernel_rfl) rfl ?_; refine WhAll_cons rfl ?_ ?_
      refine Wo_tbl 1 Try.isAgg9 rfl rfl hB1 (by repeat (first | exact trivial | refine And.intro ⟨_, rfl, by decide⟩ ?_)) (by simp only [List.length_cons, List.length_nil]; omega) ?_; intro s1 hs1; refine Wo_nil ?_; refine ⟨trivial, ?_⟩
      refine Wh_take 10 rfl (by kernel_rfl) (by kernel_rfl) rfl (fun _ _ => opv_add_str rfl rfl (by simp <;> omega)) trivial ?_
      refine Wh_take 15 rfl (by kernel_rfl) (by kernel_rfl) rfl (fun _ _ => opv_add_str rfl rfl (by simp <;> omega)) trivial ?_
      refine Wh_take 16 rfl (by kernel_rfl) (by kernel_rfl) rfl (fun _ _ => opv_add_str rfl rfl (by simp <;> omega)) trivial ?_
      refine Wh_take 17 rfl (by kernel_rfl) (by kernel_rfl) rfl (fun _ _ => opv_assign (v := .string _) rfl) trivial ?_; refine Wh_done (by kernel_rfl) ?_; refine W_ret ?_; refine at_ret (v := .string _) rfl ?_; rotate_left
      exact WhAll_nil; exact WhAll_nil; exact WhAll_nil; exact WhAll_nil; refine WhAll_cons rfl ?_ ?_
      refine Wo_buildSlice (ps := [(0, .string _), (1, .string _)]) (cs := [_, _]) rfl Try.underlying81 Try.sizeOf9 Try.zeroValue9 rfl rfl rfl rfl ?_; rintro b1 w4 hb1 E4 hB1; have hlb1 := hB1.lt; have hr2 := hr2.ext E4
      have hG := grownBy_ext hG E4; have hs4 := E4.size; refine Wo_nil ?_; refine ⟨trivial, ?_⟩; refine Wh_all (rs := [3]) (by kernel_rfl) rfl ?_; refine WhAll_cons rfl ?_ ?_
      refine Wo_call rfl (opc2 (a := .pointer _) (b := .int _ _) Try.call74 rfl rfl) (ih _ _ (by omega) (by assumption) (by omega)) ?_; rintro _ w5 ⟨y3, rfl, E5, hr3, hy3⟩; (try dsimp only at hy3); have hlhr3 := hr3.lt
      have Ehr3 := hr3.old; have hB1 := hB1.grown E5 (by simp only [ne_eq, Option.some.injEq]; omega); have hG := grownBy_trans hG E5; have hs5 := E5.size; refine Wo_nil ?_; refine ⟨trivial, ?_⟩
      refine Wh_take 4 rfl (by kernel_rfl) (by kernel_rfl) rfl (fun _ _ => opv_add_str rfl rfl (by simp <;> omega)) trivial ?_; refine Wh_all (rs := [7]) (by kernel_rfl) rfl ?_; refine WhAll_cons rfl ?_ ?_
      refine Wo_call rfl (opc2 (a := .pointer _) (b := .int _ _) Try.call76 rfl rfl) (pick_ok _ _ (by assumption) (by omega)) ?_; rintro _ w6 ⟨y4, rfl, E6, hr4, hy4⟩; (try dsimp only at hy4); have hlhr4 := hr4.lt; have Ehr4 := hr4.old
      have hB1 := hB1.grown E6 (by simp only [ne_eq, Option.some.injEq]; omega); have hG := grownBy_trans hG E6; have hs6 := E6.size; refine Wo_nil ?_; refine ⟨trivial, ?_⟩
      refine Wh_take 8 rfl (by kernel_rfl) (by kernel_rfl) rfl (fun _ _ => opv_indexAddr Try.underlying81 Try.sizeOf9 rfl rfl (by omega)) trivial ?_; refine Wh_all (rs := [9, 14]) (by kernel_rfl) rfl ?_; refine WhAll_cons rfl ?_ ?_
      refine Wo_tbl 1 Try.isAgg9 rfl rfl hB1 (by repeat (first | exact trivial | refine And.intro ⟨_, rfl, by decide⟩ ?_)) (by simp only [List.length_cons, List.length_nil]; omega) ?_; intro s1 hs1; refine Wo_nil ?_; refine ⟨trivial, ?_⟩
      refine Wh_take 10 rfl (by kernel_rfl) (by kernel_rfl) rfl (fun _ _ => opv_add_str rfl rfl (by simp <;> omega)) trivial ?_; refine Wh_all (rs := [14]) (by kernel_rfl) rfl ?_; refine WhAll_cons rfl ?_ ?_
      refine Wo_call rfl (opc2 (a := .pointer _) (b := .int _ _) Try.call74 rfl rfl) (ih _ _ (by omega) (by assumption) (by omega)) ?_; rintro _ w7 ⟨y5, rfl, E7, hr5, hy5⟩; (try dsimp only at hy5); have hlhr5 := hr5.lt
      have Ehr5 := hr5.old; have hB1 := hB1.grown E7 (by simp only [ne_eq, Option.some.injEq]; omega); have hG := grownBy_trans hG E7; have hs7 := E7.size; refine Wo_nil ?_; refine ⟨trivial, ?_⟩
      refine Wh_take 15 rfl (by kernel_rfl) (by kernel_rfl) rfl (fun _ _ => opv_add_str rfl rfl (by simp <;> omega)) trivial ?_
      refine Wh_take 16 rfl (by kernel_rfl) (by kernel_rfl) rfl (fun _ _ => opv_add_str rfl rfl (by simp <;> omega)) trivial ?_
      refine Wh_take 17 rfl (by kernel_rfl) (by kernel_rfl) rfl (fun _ _ => opv_assign (v := .string _) rfl) trivial ?_; refine Wh_done (by kernel_rfl) ?_; refine W_ret ?_; refine at_ret (v := .string _) rfl ?_; rotate_left
      exact WhAll_nil; refine WhAll_cons rfl ?_ ?_; refine Wo_call rfl (opc2 (a := .pointer _) (b := .int _ _) Try.call74 rfl rfl) (ih _ _ (by omega) (by assumption) (by omega)) ?_; rintro _ w7 ⟨y5, rfl, E7, hr5, hy5⟩
      (try dsimp only at hy5); have hlhr5 := hr5.lt; have Ehr5 := hr5.old; have hB1 := hB1.grown E7 (by simp only [ne_eq, Option.some.injEq]; omega); have hG := grownBy_trans hG E7; have hs7 := E7.size; refine Wo_nil ?_
      refine ⟨trivial, ?_⟩; refine Wh_all (rs := [9]) (by kernel_rfl) rfl ?_; refine WhAll_cons rfl ?_ ?_
      refine Wo_tbl 1 Try.isAgg9 rfl rfl hB1 (by repeat (first | exact trivial | refine And.intro ⟨_, rfl, by decide⟩ ?_)) (by simp only [List.length_cons, List.length_nil]; omega) ?_; intro s1 hs1; refine Wo_nil ?_; refine ⟨trivial, ?_⟩
      refine Wh_take 10 rfl (by kernel_rfl) (by kernel_rfl) rfl (fun _ _ => opv_add_str rfl rfl (by simp <;> omega)) trivial ?_
      refine Wh_take 15 rfl (by kernel_rfl) (by kernel_rfl) rfl (fun _ _ => opv_add_str rfl rfl (by simp <;> omega)) trivial ?_
      refine Wh_take 16 rfl (by kernel_rfl) (by kernel_rfl) rfl (fun _ _ => opv_add_str rfl rfl (by simp <;> omega)) trivial ?_
      refine Wh_take 17 rfl (by kernel_rfl) (by kernel_rfl) rfl (fun _ _ => opv_assign (v := .string _) rfl) trivial ?_; refine Wh_done (by kernel_rfl) ?_; refine W_ret ?_; refine at_ret (v := .string _) rfl ?_; rotate_left
      exact WhAll_nil; exact WhAll_nil; exact WhAll_nil; exact WhAll_nil; exact WhAll_nil
    all_goals
      have e1 : cF (d + 1) = 4 + 2 * cF d := rfl
      have e2 : lF (d + 1) = 12 + 2 * lF d := rfl
      first
        | exact ⟨_, rfl, hG, hr2.le (by omega), by omega⟩
        | exact ⟨_, rfl, hG, hr3.le (by omega), by simp only [List.length_append, List.length_cons, List.length_nil]; omega⟩
        | exact ⟨_, rfl, hG, hr4.le (by omega), by simp only [List.length_append, List.length_cons, List.length_nil]; omega⟩
        | exact ⟨_, rfl, hG, hr5.le (by omega), by simp only [List.length_append, List.length_cons, List.length_nil]; omega⟩
end Go.Proofs.Ytjdfnngmbaojjaa
