/- Lemmas for FnJournalText. -/
import Derived.Test.YtgphoihilheoeaaDoorMFnJournalText7
namespace Go.Proofs.YtgphoihilheoeaaDoor
open Go.Hs
set_option maxRecDepth 10000
set_option maxHeartbeats 4000000
set_option linter.unusedVariables false
set_option linter.unusedSimpArgs false

theorem FnJournalText_walk (w : World) (hM : EMx gMx w (.bool true) ()) (v : Value) (xs : List UInt8) (h : Bytes w v xs) (hc : CapOk v) : Does Tryd.prog 9 [v] w (Ret w (.bool true)) := by
  have hle := h.le
  refine fn_of_W1 Tryd.func9 rfl Tryd.results9 Tryd.ntmps9 rfl ?_
  have stop4 : True := trivial
  focus
    refine W_seq ?_; refine W_region rfl ?_; refine Wo rfl (opv_assign (v := .bool _) rfl) ?_; refine Wo_nil ?_; refine W_seq ?_; refine W_seq ?_; refine W_region rfl ?_; refine Wo rfl (opv_move (v := v) rfl) ?_
    refine Wo rfl (opv_len Tryd.underlying43 rfl h) ?_; refine Wo rfl (opv_gtr rfl rfl) ?_; refine Wo_nil ?_; refine W_cond_dec rfl (fun h1 => ?_) (fun h1 => ?_); refine W_seq ?_; refine W_region rfl ?_
    refine Wo rfl (opv_assign (v := .bool _) rfl) ?_; refine Wo_nil ?_; refine W_ret ?_; exact ⟨rfl, (Ext.refl _)⟩; refine W_skip ?_; refine W_seq ?_; refine W_region rfl ?_; refine Wo rfl (opv_move (v := v) rfl) ?_
    refine Wo_call rfl (opc1 (a := v) Tryd.call30 rfl) (DrawJournalText_ok _ _ _ (h) (by assumption)) ?_; rintro u1 w1 ⟨l1, E1, hO1, hy1⟩; have hs1 := E1.size; refine Wo rfl (opv_assign (v := u1) rfl) ?_; refine Wo_nil ?_
    refine W_seq ?_
  clear stop4
  have hl6 : l1.length ≤ 6 := hy1.1
  have hx1 : ∀ a ∈ l1, a.text.length ≤ 1048576 := fun a ha => Nat.le_trans (hy1.2 a ha) (by decide)
  have kI := fun (w : World) (hM : EMx gMx w (.bool true) ()) (h : ESD w u1 l1) => impl_JournalText_ok w u1 l1 hM h (by omega) hx1
  have kS := fun (w : World) (h : ESD w u1 l1) => spec_JournalText_ok w u1 l1 h (by omega) hx1
  by_cases hj : jtV l1 = []
  · rw [hj] at kI kS
    focus
      have szE1 := E1.size; refine W_region rfl ?_; refine Wo rfl (opv_move (v := u1) rfl) ?_; refine Wo_call rfl (opc1 (a := u1) Tryd.call21 rfl) (kI _ ((Mono.mono E1 hM)) ((OD.read hO1))) ?_; rintro _ w2 ⟨rfl, E2⟩; have hs2 := E2.size
      refine Wo rfl (opv_assign (v := .string _) rfl) ?_; refine Wo_nil ?_; refine W_seq ?_; refine W_seq ?_; refine W_region rfl ?_; refine Wo rfl (opv_move (v := .string _) rfl) ?_; refine Wo rfl (opv_move (v := u1) rfl) ?_
      refine Wo_call rfl (opc1 (a := u1) Tryd.call19 rfl) (kS _ ((Mono.mono E2 (OD.read hO1)))) ?_; rintro _ w3 ⟨rfl, E3⟩; have hs3 := E3.size; refine Wo rfl (opv_neq_str rfl rfl) ?_; refine Wo_nil ?_
      refine W_cond_ndec rfl (fun h2 => ?_) (fun h2 => ?_); contradiction; refine W_skip ?_; refine W_seq ?_; refine W_seq ?_; refine W_region rfl ?_; refine Wo rfl (opv_move (v := .string _) rfl) ?_
      refine Wo rfl (opv_eql_str rfl rfl) ?_; refine Wo_nil ?_; refine W_cond_dec rfl (fun h3 => ?_) (fun h3 => ?_); refine W_seq ?_; refine W_region rfl ?_; refine Wo_call rfl (opc0 Tryd.call28) (alive_ok _) ?_; rintro _ w4 ⟨rfl, E4⟩
      have hs4 := E4.size; refine Wo rfl (opv_assign (v := .bool _) rfl) ?_; refine Wo_nil ?_; refine W_ret ?_; exact ⟨rfl, (((E1.trans E2).trans E3).trans E4)⟩; contradiction
  · have hall : ∀ a ∈ l1, dtV a ≠ [] := fun a ha he => by
      obtain ⟨k, hk, rfl⟩ := List.mem_iff_getElem.1 ha
      exact hj (jtV_no hk he)
    have he : jtV l1 = l1.flatMap (fun a => dtV a ++ [10]) := by
      have := jtV_yes (l := l1) (k := l1.length) (Nat.le_refl _) (fun a ha => hall a (by rwa [List.take_length] at ha))
      rwa [List.take_length] at this
    have hrj := rjV_jtV hall
    have hlen : (jtV l1).length ≤ 6 * 211 := by
      rw [he]
      exact Nat.le_trans (flatMap_len _ 211 _ fun a ha => by have := dtV_len a; rw [List.length_append]; simp only [List.length_cons, List.length_nil]; omega) (Nat.mul_le_mul_right _ hl6)
    rw [← he] at hrj
    generalize jtV l1 = s at *
    have kR : ∀ (w : World), EMx gMx w (.bool true) () → Does Tryd.prog 24 [str s] w (RetODZ w 26 l1 s.length) := fun w hM => by
      have := impl_ReadJournal_ok w s hM (by omega)
      rw [hrj] at this; exact this
    have kD := fun (w : World) (v u : Value) (h : ESD w v l1) (h' : ESD w u l1) => sameDeeds_ok w v u l1 l1 h h'
    rw [decide_eq_true rfl] at kD
    focus
      have szE1 := E1.size; refine W_region rfl ?_; refine Wo rfl (opv_move (v := u1) rfl) ?_; refine Wo_call rfl (opc1 (a := u1) Tryd.call21 rfl) (kI _ ((Mono.mono E1 hM)) ((OD.read hO1))) ?_; rintro _ w2 ⟨rfl, E2⟩; have hs2 := E2.size
      refine Wo rfl (opv_assign (v := .string _) rfl) ?_; refine Wo_nil ?_; refine W_seq ?_; refine W_seq ?_; refine W_region rfl ?_; refine Wo rfl (opv_move (v := .string _) rfl) ?_; refine Wo rfl (opv_move (v := u1) rfl) ?_
      refine Wo_call rfl (opc1 (a := u1) Tryd.call19 rfl) (kS _ ((Mono.mono E2 (OD.read hO1)))) ?_; rintro _ w3 ⟨rfl, E3⟩; have hs3 := E3.size; refine Wo rfl (opv_neq_str rfl rfl) ?_; refine Wo_nil ?_
      refine W_cond_ndec rfl (fun h2 => ?_) (fun h2 => ?_); contradiction; refine W_skip ?_; refine W_seq ?_; refine W_seq ?_; refine W_region rfl ?_; refine Wo rfl (opv_move (v := .string _) rfl) ?_
      refine Wo rfl (opv_eql_str rfl rfl) ?_; refine Wo_nil ?_; refine W_cond_dec rfl (fun h3 => ?_) (fun h3 => ?_); contradiction; refine W_skip ?_; refine W_seq ?_; refine W_region rfl ?_
      refine Wo rfl (opv_move (v := .string _) rfl) ?_; refine Wo_call rfl (opc1 (a := .string _) Tryd.call24 rfl) (kR _ ((Mono.mono ((E1.trans E2).trans E3) hM))) ?_; rintro _ w4 ⟨u2, rfl, E4, hO2⟩; have hs4 := E4.size
      refine Wo rfl (opv_move (v := .tuple _) rfl) ?_; refine Wo rfl (opv_extract (v := u2) rfl rfl) ?_; refine Wo rfl (opv_extract (v := .int _ _) rfl rfl) ?_; refine Wo rfl (opv_assign (v := u2) rfl) ?_
      refine Wo rfl (opv_assign (v := .int _ _) rfl) ?_; refine Wo_nil ?_; refine W_seq ?_; refine W_region rfl ?_; refine Wo rfl (opv_move (v := u2) rfl) ?_; refine Wo rfl (opv_move (v := u1) rfl) ?_
      refine Wo_call rfl (opc2 (a := u2) (b := u1) Tryd.call31 rfl rfl) (kD _ _ _ ((OD.read hO2)) ((Mono.mono ((E2.trans E3).trans E4) (OD.read hO1)))) ?_; rintro _ w5 ⟨rfl, E5⟩; have hs5 := E5.size
      refine Wo rfl (opv_move (v := .bool _) rfl) ?_; refine Wo rfl (opv_move (v := .int _ _) rfl) ?_; refine Wo rfl (opv_move (v := .string _) rfl) ?_; refine Wo rfl (opv_len_str Tryd.underlying9 rfl) ?_
      refine Wo rfl (opv_eql rfl rfl) ?_; refine Wo rfl (opv_pick_t (v := .bool _) rfl rfl) ?_; refine Wo rfl (opv_assign (v := .bool _) rfl) ?_; refine Wo_nil ?_; refine W_ret ?_; refine at_ret (v := .bool _) rfl ?_
      refine ⟨congrArg Value.bool ?_, ((((E1.trans E2).trans E3).trans E4).trans E5)⟩
    exact decide_eq_true rfl

end Go.Proofs.YtgphoihilheoeaaDoor
