/- Proved: called with any arguments, laws.FnExactDeskLine returns true, and each argument reads afterwards as it read before; with what the row lists tied to the program's text. No condition beyond the given card's own. -/
import Derived.Test.YtbgpppaljpngmaaGreatDoorMFnExactDeskLine10
namespace Go.Proofs.YtbgpppaljpngmaaGreatDoor.lFnExactDeskLine
open Go.ChangeShapes Go.WideShapes Go.ChangeAt Go.RowKit Go.Hs
open Go.ChangeMaps (open_string shut_string)
theorem over : Rows.fnExactDeskLineRow.holds Tryz.pinned (OpenSpec.ofChange Rows.fnExactDeskLineSpec) :=
  OpenClaim.holds_of_wide 11 Tryz.f11 rfl rfl rfl rfl rfl rfl rfl ⟨rfl, rfl, rfl, rfl, rfl⟩ rfl rfl rfl rfl rfl (by as_aux_lemma => kernel_rfl) Tryz.func11 cl
    (of_decide_eq_true (by as_aux_lemma => kernel_rfl)) (by unfold Func.isWrapper; first | (rw [if_pos (by decide +kernel)]; kernel_rfl) | (rw [if_neg (by decide +kernel)]; exact ⟨rfl, rfl⟩))
    (fun os started H enc _ => lifted os started H enc)
theorem proved : Rows.FnExactDeskLineCardSaid :=
  Claim7.holds_tied_plain_at .later [] [.data, .data, .data, .data, .pinned] true (true, "dfbd15e4c5b6f642933c2ad7fba8adfce5be59eb7e21a9b3134cc4f2f2b00f9a") false over (fun _ h => by cases h) (by as_aux_lemma => kernel_rfl) (fun _ h => by cases h) fnExactDeskLine_row_tie rfl ⟨rfl, rfl⟩ (by as_aux_lemma => kernel_rfl) rfl
    (fun f fn hf hfn => by
      obtain rfl : f = 11 := Option.some.inj ((show Tryz.prog.funcNamed "loop.example/hypersets/laws.FnExactDeskLine" = some 11 by as_aux_lemma => kernel_rfl).symm.trans hf) |>.symm
      obtain rfl : fn = Tryz.f11 := (Option.some.inj (Tryz.func11.symm.trans hfn)).symm
      exact ⟨by as_aux_lemma => kernel_rfl, fun j t ht => by
        rw [Tryz.params11] at ht
        have hm : t ∈ [40, 9] := by simpa using Array.mem_of_getElem? ht
        have hall : ([40, 9].all fun u => !Tryz.prog.wantsStandIn u) = true := by as_aux_lemma => kernel_rfl
        exact (show Tryz.prog.wantsStandIn t = false by simpa using List.all_eq_true.1 hall t hm)⟩)
    (by as_aux_lemma => kernel_rfl)
end Go.Proofs.YtbgpppaljpngmaaGreatDoor.lFnExactDeskLine
