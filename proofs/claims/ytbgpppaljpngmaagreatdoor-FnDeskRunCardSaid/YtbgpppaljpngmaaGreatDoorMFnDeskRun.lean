/- Proved: called with any arguments, laws.FnDeskRun returns true, and each argument reads afterwards as it read before; with what the row lists tied to the program's text. No condition beyond the given card's own. -/
import Derived.Test.YtbgpppaljpngmaaGreatDoorCards
import Derived.Test.YtbgpppaljpngmaaGreatDoorTie
import Derived.SevenTiedAt
import Derived.Shelf.LaysM
import Derived.Test.YtbgpppaljpngmaaGreatDoorMFnDeskRun7
namespace Go.Proofs.YtbgpppaljpngmaaGreatDoor.lFnDeskRun
open Go.ChangeShapes Go.WideShapes Go.ChangeAt Go.RowKit Go.Hs
open Go.ChangeMaps (open_string shut_string)
set_option linter.unusedVariables false
theorem own : ownKnob Tryz.prog.godebug = none := Kb
theorem laidOut : laidOutB Tryz.prog = true := Kb
set_option maxRecDepth 100000 in
set_option maxHeartbeats 4000000 in
open Go.Shelf in
shelf_lay LaysM.n146 Nm 146 at Tryz as Tryz.laysM146
theorem mx {W : World} (h : W.ShapedOpen Tryz.prog) : EMx gMx W (.bool true) () := Tryz.laysM146.s1_3 W h
set_option maxRecDepth 100000 in
set_option maxHeartbeats 4000000 in
theorem lifted (os : Os) (started : os.Started) (H : Type) (enc : TypeId × Value → H) :
    ReturnsInHanded {} Tryz.checked os 8 .any (fun w args => (Rows.fnDeskRunSpec.pre enc Tryz.prog Tryz.f8 Rows.fnDeskRunRow.domain false w args ∧ laidMetH Tryz.prog Rows.fnDeskRunRow.laid w) ∧ sizedMet enc Tryz.prog Tryz.f8 (OpenSpec.ofChange Rows.fnDeskRunSpec) false w args)
      (Rows.fnDeskRunSpec.post enc Tryz.prog Tryz.f8 false true false false) := by
  refine Rc (C := Tryz.checked) (X := fun w _ => laidMetH Tryz.prog Rows.fnDeskRunRow.laid w) (fun _ _ _ hh h => h.of_heap hh) own started Kb Tryz.func8
    (ChangeSpec.witness_shaped (enc := enc) (C := Tryz.checked) (os := os) (X := fun w _ => laidMetH Tryz.prog Rows.fnDeskRunRow.laid w) false (World.laidAll Tryz.prog os Rows.fnDeskRunRow.laid) #[.slice none 0 0] 8 (World.laidAll_os _ _ _)
      (World.shaped_of_ZipB Kb Kb) Kb Kb Kb
      (by rw [MakeChecks.laidMetH_plain _ _ _ Kb]; exact laidMet_laidAll _ Kb Kb)) ?_
  intro W base args ds gs before hval0 hW hsh
  have hval : ∀ (j : Nat) t v, Tryz.f8.params[j]? = some t → args[j]? = some v → Value.okWide Tryz.prog W .any base t v := hval0
  have hW' := hW
  obtain ⟨p, q, hA0, hV, rfl, hfz, hnd⟩ := hW
  have hA : DataW.TrodAll enc Tryz.prog W 0 (fun _ => true) true Tryz.f8.params.toList args.toList ds p := hA0
  rw [Tryz.params8] at hA hval
  obtain ⟨v0, vs0, d0, ds0, p0, q0, hargs, rfl, rfl, h0, r0⟩ := trodAll_cons hA
  obtain ⟨rfl, rfl, rfl⟩ := trodAll_nil r0
  obtain rfl : args = #[v0] := by cases args; simp_all
  obtain ⟨rfl, rfl⟩ := trodVars_none hV
  have k0 := h0
  have lt0 : ∀ x ∈ p0, x.block < W.heap.size := by obtain ⟨m, hm⟩ := k0; exact DataW.trod_lt m _ _ _ hm
  obtain ⟨a0, e0⟩ := read_slice Jj (reads_slice Jj Kb (reads_byte Jv)) (hval 0 22 v0 rfl rfl) h0
  have c0 := read_cap Jj (hval 0 22 v0 rfl rfl) h0
  clear hA0 hval0
  have hwalk := FnDeskRun_walk W (mx hsh) v0 a0 e0 c0
  unfold Does at hwalk
  refine hwalk.mono fun e W' ⟨v, he, hv, bel⟩ => ?_
  subst hv
  subst he
  exact ⟨_, rfl, _, _, _, [], _, [], hW', trodAll_mk1 (shut_bool Tryz.underlying4 _), (trodAll_cons_mk (Below.trod laidOut Kb (of_decide_eq_true Kb) k0 bel lt0) trodAll_mk0), rfl, Below.frame bel _, fun h => by cases h⟩
theorem over : Rows.fnDeskRunRow.holds Tryz.pinned (OpenSpec.ofChange Rows.fnDeskRunSpec) :=
  OpenClaim.holds_of_wide 8 Tryz.f8 rfl rfl rfl rfl rfl rfl rfl ⟨rfl, rfl, rfl, rfl, rfl⟩ rfl rfl rfl rfl rfl Kb Tryz.func8 Kb
    (of_decide_eq_true Kb) (by unfold Func.isWrapper; first | (rw [if_pos (by decide +kernel)]; kernel_rfl) | (rw [if_neg (by decide +kernel)]; exact ⟨rfl, rfl⟩))
    (fun os started H enc _ => lifted os started H enc)
theorem proved : Rows.FnDeskRunCardSaid :=
  Claim7.holds_tied_plain_at .later [] [.data, .data, .data, .data, .pinned] true (true, "dfbd15e4c5b6f642933c2ad7fba8adfce5be59eb7e21a9b3134cc4f2f2b00f9a") false over (fun _ h => by cases h) Kb (fun _ h => by cases h) fnDeskRun_row_tie rfl ⟨rfl, rfl⟩ Kb rfl
    (fun f fn hf hfn => by
      obtain rfl : f = 8 := Option.some.inj ((show Tryz.prog.funcNamed "loop.example/hypersets/laws.FnDeskRun" = some 8 by kernel_rfl).symm.trans hf) |>.symm
      obtain rfl : fn = Tryz.f8 := (Option.some.inj (Tryz.func8.symm.trans hfn)).symm
      exact ⟨Kb, fun j t ht => by
        rw [Tryz.params8] at ht
        have hm : t ∈ [22] := by simpa using Array.mem_of_getElem? ht
        have hall : ([22].all fun u => !Tryz.prog.wantsStandIn u) = true := Kb
        exact (show Tryz.prog.wantsStandIn t = false by simpa using List.all_eq_true.1 hall t hm)⟩)
    Kb
end Go.Proofs.YtbgpppaljpngmaaGreatDoor.lFnDeskRun
