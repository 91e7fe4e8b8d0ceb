/- Walks: a picture and a node drawn. -/
import Derived.Test.YthhaodjjfofogaaHsWRdP
namespace Go.Proofs.Ythhaodjjfofogaa
open Go.Hs
set_option maxRecDepth 10000
set_option maxHeartbeats 4000000
set_option linter.unusedVariables false
set_option linter.unusedSimpArgs false

theorem Node_ok {w0 : World} (w : World) {br m : Nat} (n : Int) (hr : Rdr w0 w br m) (hm : m ≤ 10000000) (hn : 0 ≤ n ∧ n ≤ 1000) :
    Does Try.prog 66 [.pointer (some ⟨br, 0, none⟩), .int .i64 n] w (RetDT w0 w br (m + 63) XR (fun p z => p.length ≤ 5 ∧ (∀ r ∈ p, r.length ≤ 6) ∧ -1000 ≤ z ∧ z ≤ 1000)) := by
  refine fn_of_W2 Try.func66 rfl Try.results66 Try.ntmps66 rfl ?_
  have hG : w.grownBy w (some br) := grownBy_refl _ _
  have hlr := hr.lt
  have hgr := hr.ge
  have E0 := hr.old
  focus
    have szE0 := E0.size; refine W_seq ?_; refine W_region rfl ?_; refine Wo rfl (opv_assign (v := .slice _ _ _) rfl) ?_; refine Wo rfl (opv_assign (v := .int _ _) rfl) ?_; refine Wo_nil ?_; refine W_seq ?_; refine W_region rfl ?_
    refine Wo rfl (opv_move (v := .pointer _) rfl) ?_; refine Wo rfl (opv_move (v := .int _ _) rfl) ?_
    refine Wo_call rfl (opc2 (a := .pointer _) (b := .int _ _) Try.call60 rfl rfl) (Picture_ok _ _ (by assumption) (by omega) (by assumption)) ?_; rintro u1 w1 ⟨E1, hr1, x1, hO1, hy1⟩; (try dsimp only at hy1); have hlhr1 := hr1.lt
    have Ehr1 := hr1.old; have hG := grownBy_trans hG E1; have hs1 := E1.size; refine Wo rfl (opv_assign (v := u1) rfl) ?_; refine Wo_nil ?_; refine W_seq ?_; refine W_region rfl ?_; refine Wo rfl (opv_move (v := u1) rfl) ?_
    refine Wo rfl (opv_move (v := .pointer _) rfl) ?_; refine Wo rfl (opv_move (v := u1) rfl) ?_; refine Wo rfl (opv_len Try.underlying22 rfl (Owned.read hO1)) ?_; refine Wo rfl (opv_max rfl rfl) ?_
    refine Wo_call rfl (opc2 (a := .pointer _) (b := .int _ _) Try.call61 rfl rfl) (pick_ok _ _ (by assumption) (by omega)) ?_; rintro _ w2 ⟨y1, rfl, E2, hr2, hy2⟩; (try dsimp only at hy2); have hlhr2 := hr2.lt; have Ehr2 := hr2.old
    have hO1 := hO1.toB.grown E2 (by omega); have hG := grownBy_trans hG E2; have hs2 := E2.size; refine Wo rfl (opv_move (v := .pointer _) rfl) ?_
    refine Wo_call rfl (opc2 (a := .pointer _) (b := .int _ _) Try.call61 rfl rfl) (pick_ok _ _ (by assumption) (by omega)) ?_; rintro _ w3 ⟨y2, rfl, E3, hr3, hy3⟩; (try dsimp only at hy3); have hlhr3 := hr3.lt; have Ehr3 := hr3.old
    have hO1 := hO1.grown E3 (by omega); have hG := grownBy_trans hG E3; have hs3 := E3.size; refine Wo rfl (opv_quo rfl rfl (by omega)) ?_; refine Wo rfl (opv_mul rfl rfl (by omega)) ?_; refine Wo rfl (opv_add rfl rfl (by omega)) ?_
    refine Wo rfl (opv_move (v := .pointer _) rfl) ?_; refine Wo_call rfl (opc2 (a := .pointer _) (b := .int _ _) Try.call61 rfl rfl) (pick_ok _ _ (by assumption) (by omega)) ?_; rintro _ w4 ⟨y3, rfl, E4, hr4, hy4⟩
    (try dsimp only at hy4); have hlhr4 := hr4.lt; have Ehr4 := hr4.old; have hO1 := hO1.grown E4 (by omega); have hG := grownBy_trans hG E4; have hs4 := E4.size; refine Wo rfl (opv_quo rfl rfl (by omega)) ?_
    refine Wo rfl (opv_mul rfl rfl (by omega)) ?_; refine Wo rfl (opv_sub rfl rfl (by omega)) ?_; refine Wo rfl (opv_assign (v := u1) rfl) ?_; refine Wo rfl (opv_assign (v := .int _ _) rfl) ?_; refine Wo_nil ?_; refine W_ret ?_
    refine at_ret (v := .tuple #[u1, .int _ _]) rfl ?_
  exact ⟨_, _, _, rfl, by assumption, Rdr.le (by assumption) (by omega), OwnedB.o (by assumption), by omega, hy1.2, by omega, by omega⟩

end Go.Proofs.Ythhaodjjfofogaa
