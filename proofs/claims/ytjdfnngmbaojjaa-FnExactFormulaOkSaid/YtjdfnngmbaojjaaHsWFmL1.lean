/- Walks of the laws on FormulaOk. -/
import Derived.Test.YtjdfnngmbaojjaaHsWFm3
namespace Go.Proofs.Ytjdfnngmbaojjaa
open Go.Hs
set_option maxRecDepth 10000
set_option maxHeartbeats 4000000
set_option linter.unusedVariables false


theorem FnExactFormulaOk_walk (w : World) (s : List UInt8) (hs : s.length ≤ 9223372036854775807) : Does Try.prog 3 [str s] w (Ret w (.bool true)) := by
  by_cases hl : s.length ≤ 1048576
  · have hl' : s.length ≤ lim := by unfold lim; omega
    refine fn_of_W1 Try.func3 rfl Try.results3 Try.ntmps3 rfl ?_
    focus
      refine W_seq ?_
      refine W_region rfl ?_
      refine Wo rfl (opv_assign (v := .bool _) rfl) ?_
      refine Wo_nil ?_
      refine W_seq ?_
      refine W_seq ?_
      refine W_region rfl ?_
      refine Wo rfl (opv_move (v := .string _) rfl) ?_
      refine Wo rfl (opv_len_str Try.underlying9 rfl) ?_
      refine Wo rfl (opv_gtr rfl rfl) ?_
      refine Wo_nil ?_
      refine W_cond_dec rfl (fun h1 => ?_) (fun h1 => ?_)
      (exfalso; omega)
      refine W_skip ?_
      refine W_seq ?_
      refine W_region rfl ?_
      refine Wo rfl (opv_move (v := .string _) rfl) ?_
      refine Wo_call rfl (opc1 (a := .string _) Try.call15 rfl) (spec_FormulaOk_ok _ _ (by assumption)) ?_
      rintro _ w1 ⟨rfl, E1⟩
      have hs1 := E1.size
      refine Wo rfl (opv_assign (v := .bool _) rfl) ?_
      refine Wo_nil ?_
      refine W_seq ?_
      refine W_region rfl ?_
      refine Wo rfl (opv_move (v := .string _) rfl) ?_
      refine Wo_call rfl (opc1 (a := .string _) Try.call16 rfl) (impl_FormulaOk_ok _ _ (by assumption)) ?_
      rintro _ w2 ⟨rfl, E2⟩
      have hs2 := E2.size
      refine Wo rfl (opv_assign (v := .bool _) rfl) ?_
      refine Wo_nil ?_
      refine W_seq ?_
      refine W_seq ?_
      refine W_region rfl ?_
      refine Wo rfl (opv_move (v := .bool _) rfl) ?_
      refine Wo rfl (opv_move (v := .bool _) rfl) ?_
      refine Wo rfl (opv_neq_bool Try.underlying4 rfl rfl) ?_
      refine Wo_nil ?_
      refine W_cond_ndec rfl (fun h2 => ?_) (fun h2 => ?_)
      contradiction
      refine W_skip ?_
      refine W_seq ?_
      refine W_region rfl ?_
      refine Wo rfl (opv_assign (v := .bool _) rfl) ?_
      refine Wo_nil ?_
      refine W_ret ?_
      exact ⟨rfl, (E1.trans E2)⟩
  · refine fn_of_W1 Try.func3 rfl Try.results3 Try.ntmps3 rfl ?_
    focus
      refine W_seq ?_
      refine W_region rfl ?_
      refine Wo rfl (opv_assign (v := .bool _) rfl) ?_
      refine Wo_nil ?_
      refine W_seq ?_
      refine W_seq ?_
      refine W_region rfl ?_
      refine Wo rfl (opv_move (v := .string _) rfl) ?_
      refine Wo rfl (opv_len_str Try.underlying9 rfl) ?_
      refine Wo rfl (opv_gtr rfl rfl) ?_
      refine Wo_nil ?_
      refine W_cond_dec rfl (fun h1 => ?_) (fun h1 => ?_)
      refine W_seq ?_
      refine W_region rfl ?_
      refine Wo rfl (opv_assign (v := .bool _) rfl) ?_
      refine Wo_nil ?_
      refine W_ret ?_
      exact ⟨rfl, (Ext.refl _)⟩
      (exfalso; omega)
end Go.Proofs.Ytjdfnngmbaojjaa
