/- Proved: called with any arguments, laws.FnJournalText returns true, and each argument reads afterwards as it read before; with what the row lists tied to the program's text. No condition beyond the given card's own. -/
import Derived.Test.YtgphoihilheoeaaDoorCards
import Derived.Test.YtgphoihilheoeaaDoorTie
import Derived.SevenTiedAt
import Derived.Shelf.LaysM
import Derived.Test.YtgphoihilheoeaaDoorMFnJournalText8
namespace Go.Proofs.YtgphoihilheoeaaDoor.lFnJournalText
open Go.ChangeShapes Go.WideShapes Go.ChangeAt Go.RowKit Go.Hs
open Go.ChangeMaps (open_string shut_string)
set_option linter.unusedVariables false
theorem own : ownKnob Tryd.prog.godebug = none := by kernel_rfl
theorem laidOut : laidOutB Tryd.prog = true := by kernel_rfl
set_option maxRecDepth 100000 in
set_option maxHeartbeats 4000000 in
open Go.Shelf in
shelf_lay LaysM.n146 Nm 146 at Tryd as Tryd.laysM146
theorem mx {W : World} (h : W.ShapedOpen Tryd.prog) : EMx gMx W (.bool true) () := Tryd.laysM146.s1_3 W h
set_option maxRecDepth 100000 in
set_option maxHeartbeats 4000000 in
theorem lifted (os : Os) (started : os.Started) (H : Type) (enc : TypeId × Value → H) :
    ReturnsInHanded {} Tryd.checked os 9 .any (fun w args => (Rows.fnJournalTextSpec.pre enc Tryd.prog Tryd.f9 Rows.fnJournalTextRow.domain false w args ∧ laidMetH Tryd.prog Rows.fnJournalTextRow.laid w) ∧ sizedMet enc Tryd.prog Tryd.f9 (OpenSpec.ofChange Rows.fnJournalTextSpec) false w args)
      (Rows.fnJournalTextSpec.post enc Tryd.prog Tryd.f9 false true false false) := by
  refine returnsInHanded_laid_shaped (C := Tryd.checked) (X := fun w _ => laidMetH Tryd.prog Rows.fnJournalTextRow.laid w) (fun _ _ _ hh h => h.of_heap hh) own started (by kernel_rfl) Tryd.func9
    (ChangeSpec.witness_shaped (enc := enc) (C := Tryd.checked) (os := os) (X := fun w _ => laidMetH Tryd.prog Rows.fnJournalTextRow.laid w) false (World.laidAll Tryd.prog os Rows.fnJournalTextRow.laid) #[.slice none 0 0] 8 (World.laidAll_os _ _ _)
      (World.shaped_of_ZipB (by kernel_rfl) (by kernel_rfl)) (by kernel_rfl) (by kernel_rfl) (by kernel_rfl)
      (by rw [MakeChecks.laidMetH_plain _ _ _ (by kernel_rfl)]; exact laidMet_laidAll _ (by kernel_rfl) (by kernel_rfl))) ?_
  intro W base args ds gs before hval0 hW hsh
  have hval : ∀ (j : Nat) t v, Tryd.f9.params[j]? = some t → args[j]? = some v → Value.okWide Tryd.prog W .any base t v := hval0
  have hW' := hW
  obtain ⟨p, q, hA0, hV, rfl, hfz, hnd⟩ := hW
  have hA : DataW.TrodAll enc Tryd.prog W 0 (fun _ => true) true Tryd.f9.params.toList args.toList ds p := hA0
  rw [Tryd.params9] at hA hval
  obtain ⟨v0, vs0, d0, ds0, p0, q0, hargs, rfl, rfl, h0, r0⟩ := trodAll_cons hA
  obtain ⟨rfl, rfl, rfl⟩ := trodAll_nil r0
  obtain rfl : args = #[v0] := by cases args; simp_all
  obtain ⟨rfl, rfl⟩ := trodVars_none hV
  have k0 := h0
  have lt0 : ∀ x ∈ p0, x.block < W.heap.size := by obtain ⟨m, hm⟩ := k0; exact DataW.trod_lt m _ _ _ hm
  obtain ⟨a0, e0⟩ := read_slice Tryd.underlying43 (reads_slice Tryd.underlying43 (by kernel_rfl) (reads_byte Tryd.underlying5)) (hval 0 43 v0 rfl rfl) h0
  have c0 := read_cap Tryd.underlying43 (hval 0 43 v0 rfl rfl) h0
  clear hA0 hval0
  have hwalk := FnJournalText_walk W (mx hsh) v0 a0 e0 c0
  unfold Does at hwalk
  refine hwalk.mono fun e W' ⟨v, he, hv, bel⟩ => ?_
  subst hv
  subst he
  exact ⟨_, rfl, _, _, _, [], _, [], hW', trodAll_mk1 (shut_bool Tryd.underlying4 _), (trodAll_cons_mk (Below.trod laidOut (by kernel_rfl) (of_decide_eq_true (by kernel_rfl)) k0 bel lt0) trodAll_mk0), rfl, Below.frame bel _, fun h => by cases h⟩
theorem over : Rows.fnJournalTextRow.holds Tryd.pinned (OpenSpec.ofChange Rows.fnJournalTextSpec) :=
  OpenClaim.holds_of_wide 9 Tryd.f9 rfl rfl rfl rfl rfl rfl rfl ⟨rfl, rfl, rfl, rfl, rfl⟩ rfl rfl rfl rfl rfl (by kernel_rfl) Tryd.func9 (by kernel_rfl)
    (of_decide_eq_true (by kernel_rfl)) (by unfold Func.isWrapper; first | (rw [if_pos (by decide +kernel)]; kernel_rfl) | (rw [if_neg (by decide +kernel)]; exact ⟨rfl, rfl⟩))
    (fun os started H enc _ => lifted os started H enc)
theorem proved : Rows.FnJournalTextCardSaid :=
  Claim7.holds_tied_plain_at .later [] [.data, .data, .data, .data, .pinned] true (true, "9ab071e0cd20e6e149e71736dff5f4244d2dd3b6b7ece41d3a612048bf526ffd") false over (fun _ h => by cases h) (by kernel_rfl) (fun _ h => by cases h) fnJournalText_row_tie rfl ⟨rfl, rfl⟩ (by kernel_rfl) rfl
    (fun f fn hf hfn => by
      obtain rfl : f = 9 := Option.some.inj ((show Tryd.prog.funcNamed "loop.example/hypersets/laws.FnJournalText" = some 9 by kernel_rfl).symm.trans hf) |>.symm
      obtain rfl : fn = Tryd.f9 := (Option.some.inj (Tryd.func9.symm.trans hfn)).symm
      exact ⟨by kernel_rfl, fun j t ht => by
        rw [Tryd.params9] at ht
        have hm : t ∈ [43] := by simpa using Array.mem_of_getElem? ht
        have hall : ([43].all fun u => !Tryd.prog.wantsStandIn u) = true := by kernel_rfl
        exact (show Tryd.prog.wantsStandIn t = false by simpa using List.all_eq_true.1 hall t hm)⟩)
    (by kernel_rfl)
end Go.Proofs.YtgphoihilheoeaaDoor.lFnJournalText
