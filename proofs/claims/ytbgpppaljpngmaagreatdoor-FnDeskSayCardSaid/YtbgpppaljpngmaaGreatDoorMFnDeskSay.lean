/- Proved: called with any arguments, laws.FnDeskSay returns true, and each argument reads afterwards as it read before; with what the row lists tied to the program's text. No condition beyond the given card's own. -/
import Derived.Test.YtbgpppaljpngmaaGreatDoorMFnDeskSay12
namespace Go.Proofs.YtbgpppaljpngmaaGreatDoor.lFnDeskSay
open Go.ChangeShapes Go.WideShapes Go.ChangeAt Go.RowKit Go.Hs
open Go.ChangeMaps (open_string shut_string)
theorem over:Rows.fnDeskSayRow.holds Tryz.pinned (OpenSpec.ofChange Rows.fnDeskSaySpec) :=
 OpenClaim.holds_of_wide 4 Tryz.f4 rfl rfl rfl rfl rfl rfl rfl ⟨rfl,rfl,rfl,rfl,rfl⟩ rfl rfl rfl rfl rfl (by as_aux_lemma=>kernel_rfl) Tryz.func4 cl
  (of_decide_eq_true (by as_aux_lemma=>kernel_rfl)) (by unfold Func.isWrapper;first | (rw [if_pos (by decide +kernel)];kernel_rfl) | (rw [if_neg (by decide +kernel)];exact ⟨rfl,rfl⟩))
  (fun os started H enc _=>lifted os started H enc)
theorem proved:Rows.FnDeskSayCardSaid :=
 Claim7.holds_tied_plain_at .later [] [.data, .data, .data, .data, .pinned] true (true, "dfbd15e4c5b6f642933c2ad7fba8adfce5be59eb7e21a9b3134cc4f2f2b00f9a") false over (fun _ h => by cases h) (by as_aux_lemma => kernel_rfl) (fun _ h => by cases h) fnDeskSay_row_tie rfl ⟨rfl, rfl⟩ (by as_aux_lemma => kernel_rfl) rfl
  (fun f fn hf hfn=>by
   obtain rfl : f = 4 := Option.some.inj ((show Tryz.prog.funcNamed "loop.example/hypersets/laws.FnDeskSay" = some 4 by as_aux_lemma => kernel_rfl).symm.trans hf) |>.symm
   obtain rfl:fn=Tryz.f4:=(Option.some.inj (Tryz.func4.symm.trans hfn)).symm
   exact ⟨by as_aux_lemma=>kernel_rfl,fun j t ht=>by
    rw [Tryz.params4] at ht
    have hm:t ∈ [22]:=by simpa using Array.mem_of_getElem? ht
    have hall:([22].all fun u=>!Tryz.prog.wantsStandIn u)=true:=by as_aux_lemma=>kernel_rfl
    exact (show Tryz.prog.wantsStandIn t=false by simpa using List.all_eq_true.1 hall t hm)⟩)
  (by as_aux_lemma=>kernel_rfl)
end Go.Proofs.YtbgpppaljpngmaaGreatDoor.lFnDeskSay
