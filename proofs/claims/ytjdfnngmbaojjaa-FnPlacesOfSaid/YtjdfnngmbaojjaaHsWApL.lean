/- Walks: TellsApart on both sides, and the laws on it. -/
import Derived.Test.YtjdfnngmbaojjaaHsWApI
import Derived.Test.YtjdfnngmbaojjaaHsWFmLO
import Derived.Test.YtjdfnngmbaojjaaHsDrawM
namespace Go.Proofs.Ytjdfnngmbaojjaa
open Go.Hs
set_option maxRecDepth 10000
set_option maxHeartbeats 4000000
set_option linter.unusedVariables false
set_option linter.unusedSimpArgs false
noncomputable def telV (p : List (List Int)) (a b : Int) : List UInt8 × Bool := if Nod p a ∧ Nod p b ∧ bsm p p.length a.toNat b.toNat = false ∧ (apF p 10 a.toNat b.toNat).enc.length ≤ 60 then ((apF p 10 a.toNat b.toNat).enc, true) else ([], false)

theorem spec_TellsApart_ok (w : World) (v : Value) (p : List (List Int)) (h : ESl Ints w v p) (a b : Int) : Does Try.prog 40 [v, .int .i64 a, .int .i64 b] w (Ret w (.tuple #[str (telV p a b).1, .bool (telV p a b).2])) := by
  have hle := h.le
  have hf : ∀ x, heldV p a b = x → ∀ (w : World) (pv : Value), ESl Ints w pv p → Does Try.prog 65 [pv, .int .i64 a, .int .i64 b] w (Ret w (.tuple #[.int .i64 x.1, .bool x.2])) := fun x e w pv h => by
    subst e; exact spec_HeldFor_ok w pv p h a b
  by_cases hc : Nod p a ∧ Nod p b ∧ bsm p p.length a.toNat b.toNat = false
  · obtain ⟨ha, hb, hs⟩ := hc
    have hp := ha.1
    have ha' := ha.2
    have hb' := hb.2
    have k1 : ∀ (w : World) (pv : Value), ESl Ints w pv p → Does Try.prog 65 [pv, .int .i64 a, .int .i64 b] w (Ret w (.tuple #[.int .i64 (hld p a.toNat b.toNat : Int), .bool true])) := hf _ (if_pos ⟨ha, hb, hs⟩)
    have k2 : ∀ (w : World) (pv : Value), ESl Ints w pv p → Does Try.prog 66 [pv, .int .i64 a, .int .i64 b] w (Ret w (str (apF p 10 a.toNat b.toNat).enc)) := fun w pv h => by
      have := l10Apart_ok p hp 10 (by omega) w pv a.toNat b.toNat h (by omega) (by omega) hs (mu_le hp hs)
      rw [Int.toNat_of_nonneg ha'.1, Int.toNat_of_nonneg hb'.1] at this
      exact this
    have hel := apF_len' hp (r := 10) (a := a.toNat) (b := b.toNat) (by omega) (by omega) (by omega)
    have k3 : ∀ x, okF (apF p 10 a.toNat b.toNat).enc = x → ∀ w, Does Try.prog 15 [str (apF p 10 a.toNat b.toNat).enc] w (Ret w (.bool x)) := fun x e w => by
      subst e; exact spec_FormulaOk_ok _ w (by unfold lim; omega)
    clear hf
    by_cases hl : (apF p 10 a.toNat b.toNat).enc.length ≤ 60
    · have e : telV p a b = ((apF p 10 a.toNat b.toNat).enc, true) := if_pos ⟨ha, hb, hs, hl⟩
      have k4 := k3 true (okF_enc hl)
      rw [e]
      clear k3
      generalize (apF p 10 a.toNat b.toNat).enc = t at *
      refine fn_of_W2 Try.func40 rfl Try.results40 Try.ntmps40 rfl ?_
      focus
        refine W_seq ?_; refine W_region rfl ?_; refine Wo rfl (opv_assign (v := .string _) rfl) ?_; refine Wo rfl (opv_assign (v := .bool _) rfl) ?_; refine Wo_nil ?_; refine W_seq ?_; refine W_region rfl ?_
        refine Wo rfl (opv_move (v := v) rfl) ?_; refine Wo rfl (opv_move (v := .int _ _) rfl) ?_; refine Wo rfl (opv_move (v := .int _ _) rfl) ?_
        refine Wo_call rfl (opc3 (a := v) (b := .int _ _) (c := .int _ _) Try.call65 rfl rfl rfl) (k1 _ _ (h)) ?_; rintro _ w1 ⟨rfl, E1⟩; have hs1 := E1.size; refine Wo rfl (opv_move (v := .tuple _) rfl) ?_
        refine Wo rfl (opv_extract (v := .int _ _) rfl rfl) ?_; refine Wo rfl (opv_extract (v := .bool _) rfl rfl) ?_; refine Wo rfl (opv_assign (v := .int _ _) rfl) ?_; refine Wo rfl (opv_assign (v := .bool _) rfl) ?_; refine Wo_nil ?_
        refine W_seq ?_; refine W_seq ?_; refine W_region rfl ?_; refine Wo rfl (opv_move (v := .bool _) rfl) ?_; refine Wo rfl (opv_not rfl) ?_; refine Wo_nil ?_; refine W_cond rfl (fun h1 => ?_) (fun h1 => ?_); contradiction
        refine W_skip ?_; refine W_seq ?_; refine W_region rfl ?_; refine Wo rfl (opv_move (v := v) rfl) ?_; refine Wo rfl (opv_move (v := .int _ _) rfl) ?_; refine Wo rfl (opv_move (v := .int _ _) rfl) ?_
        refine Wo_call rfl (opc3 (a := v) (b := .int _ _) (c := .int _ _) Try.call66 rfl rfl rfl) (k2 _ _ ((Mono.mono E1 h))) ?_; rintro _ w2 ⟨rfl, E2⟩; have hs2 := E2.size; refine Wo rfl (opv_assign (v := .string _) rfl) ?_
        refine Wo_nil ?_; refine W_seq ?_; refine W_seq ?_; refine W_region rfl ?_; refine Wo rfl (opv_move (v := .string _) rfl) ?_; refine Wo_call rfl (opc1 (a := .string _) Try.call15 rfl) (k4 _) ?_; rintro _ w3 ⟨rfl, E3⟩
        have hs3 := E3.size; refine Wo rfl (opv_not rfl) ?_; refine Wo_nil ?_; refine W_cond rfl (fun h2 => ?_) (fun h2 => ?_); contradiction; refine W_skip ?_; refine W_seq ?_; refine W_region rfl ?_
        refine Wo rfl (opv_move (v := .string _) rfl) ?_; refine Wo rfl (opv_assign (v := .string _) rfl) ?_; refine Wo rfl (opv_assign (v := .bool _) rfl) ?_; refine Wo_nil ?_; refine W_ret ?_; exact ⟨rfl, ((E1.trans E2).trans E3)⟩
    · have e : telV p a b = ([], false) := if_neg (fun h => hl h.2.2.2)
      have k4 := k3 false (by
        cases ho : okF (apF p 10 a.toNat b.toNat).enc with
        | false => rfl
        | true =>
          obtain ⟨f, hf⟩ := Option.isSome_iff_exists.1 ho
          exact absurd (theF_some.1 hf).2 hl)
      rw [e]
      clear k3
      generalize (apF p 10 a.toNat b.toNat).enc = t at *
      refine fn_of_W2 Try.func40 rfl Try.results40 Try.ntmps40 rfl ?_
      focus
        refine W_seq ?_; refine W_region rfl ?_; refine Wo rfl (opv_assign (v := .string _) rfl) ?_; refine Wo rfl (opv_assign (v := .bool _) rfl) ?_; refine Wo_nil ?_; refine W_seq ?_; refine W_region rfl ?_
        refine Wo rfl (opv_move (v := v) rfl) ?_; refine Wo rfl (opv_move (v := .int _ _) rfl) ?_; refine Wo rfl (opv_move (v := .int _ _) rfl) ?_
        refine Wo_call rfl (opc3 (a := v) (b := .int _ _) (c := .int _ _) Try.call65 rfl rfl rfl) (k1 _ _ (h)) ?_; rintro _ w1 ⟨rfl, E1⟩; have hs1 := E1.size; refine Wo rfl (opv_move (v := .tuple _) rfl) ?_
        refine Wo rfl (opv_extract (v := .int _ _) rfl rfl) ?_; refine Wo rfl (opv_extract (v := .bool _) rfl rfl) ?_; refine Wo rfl (opv_assign (v := .int _ _) rfl) ?_; refine Wo rfl (opv_assign (v := .bool _) rfl) ?_; refine Wo_nil ?_
        refine W_seq ?_; refine W_seq ?_; refine W_region rfl ?_; refine Wo rfl (opv_move (v := .bool _) rfl) ?_; refine Wo rfl (opv_not rfl) ?_; refine Wo_nil ?_; refine W_cond rfl (fun h1 => ?_) (fun h1 => ?_); contradiction
        refine W_skip ?_; refine W_seq ?_; refine W_region rfl ?_; refine Wo rfl (opv_move (v := v) rfl) ?_; refine Wo rfl (opv_move (v := .int _ _) rfl) ?_; refine Wo rfl (opv_move (v := .int _ _) rfl) ?_
        refine Wo_call rfl (opc3 (a := v) (b := .int _ _) (c := .int _ _) Try.call66 rfl rfl rfl) (k2 _ _ ((Mono.mono E1 h))) ?_; rintro _ w2 ⟨rfl, E2⟩; have hs2 := E2.size; refine Wo rfl (opv_assign (v := .string _) rfl) ?_
        refine Wo_nil ?_; refine W_seq ?_; refine W_seq ?_; refine W_region rfl ?_; refine Wo rfl (opv_move (v := .string _) rfl) ?_; refine Wo_call rfl (opc1 (a := .string _) Try.call15 rfl) (k4 _) ?_; rintro _ w3 ⟨rfl, E3⟩
        have hs3 := E3.size; refine Wo rfl (opv_not rfl) ?_; refine Wo_nil ?_; refine W_cond rfl (fun h2 => ?_) (fun h2 => ?_); refine W_seq ?_; refine W_region rfl ?_; refine Wo rfl (opv_assign (v := .string _) rfl) ?_
        refine Wo rfl (opv_assign (v := .bool _) rfl) ?_; refine Wo_nil ?_; refine W_ret ?_; exact ⟨rfl, ((E1.trans E2).trans E3)⟩; contradiction
  · have e : telV p a b = ([], false) := if_neg (fun h => hc ⟨h.1, h.2.1, h.2.2.1⟩)
    have k1 : ∀ (w : World) (pv : Value), ESl Ints w pv p → Does Try.prog 65 [pv, .int .i64 a, .int .i64 b] w (Ret w (.tuple #[.int .i64 (-1), .bool false])) := hf _ (if_neg hc)
    rw [e]
    clear hf
    refine fn_of_W2 Try.func40 rfl Try.results40 Try.ntmps40 rfl ?_
    focus
      refine W_seq ?_; refine W_region rfl ?_; refine Wo rfl (opv_assign (v := .string _) rfl) ?_; refine Wo rfl (opv_assign (v := .bool _) rfl) ?_; refine Wo_nil ?_; refine W_seq ?_; refine W_region rfl ?_
      refine Wo rfl (opv_move (v := v) rfl) ?_; refine Wo rfl (opv_move (v := .int _ _) rfl) ?_; refine Wo rfl (opv_move (v := .int _ _) rfl) ?_
      refine Wo_call rfl (opc3 (a := v) (b := .int _ _) (c := .int _ _) Try.call65 rfl rfl rfl) (k1 _ _ (h)) ?_; rintro _ w1 ⟨rfl, E1⟩; have hs1 := E1.size; refine Wo rfl (opv_move (v := .tuple _) rfl) ?_
      refine Wo rfl (opv_extract (v := .int _ _) rfl rfl) ?_; refine Wo rfl (opv_extract (v := .bool _) rfl rfl) ?_; refine Wo rfl (opv_assign (v := .int _ _) rfl) ?_; refine Wo rfl (opv_assign (v := .bool _) rfl) ?_; refine Wo_nil ?_
      refine W_seq ?_; refine W_seq ?_; refine W_region rfl ?_; refine Wo rfl (opv_move (v := .bool _) rfl) ?_; refine Wo rfl (opv_not rfl) ?_; refine Wo_nil ?_; refine W_cond rfl (fun h1 => ?_) (fun h1 => ?_); refine W_seq ?_
      refine W_region rfl ?_; refine Wo rfl (opv_assign (v := .string _) rfl) ?_; refine Wo rfl (opv_assign (v := .bool _) rfl) ?_; refine Wo_nil ?_; refine W_ret ?_; exact ⟨rfl, E1⟩; contradiction

theorem impl_TellsApart_ok (w : World) (v : Value) (p : List (List Int)) (h : ESl Ints w v p) (a b : Int) : Does Try.prog 41 [v, .int .i64 a, .int .i64 b] w (Ret w (.tuple #[str (telV p a b).1, .bool (telV p a b).2])) := by
  have hle := h.le
  have hnn : ∀ (z : Int) (x : Bool), decide (Nod p z) = x → ∀ (w : World) (pv : Value), ESl Ints w pv p → Does Try.prog 59 [pv, .int .i64 z] w (Ret w (.bool x)) := fun z x e w pv h => by
    subst e; exact hasNode_ok w pv p h z
  by_cases ha : Nod p a
  · have k1 := hnn a true (decide_eq_true ha)
    by_cases hb : Nod p b
    · have k2 := hnn b true (decide_eq_true hb)
      have hp := ha.1
      have ha' := ha.2
      have hb' := hb.2
      have hhf : ∀ (n : Nat), hld p a.toNat b.toNat = n → ∀ (w : World) (pv : Value), ESl Ints w pv p → Does Try.prog 67 [pv, .int .i64 a, .int .i64 b] w (Ret w (.int .i64 (n : Int))) := fun n e w pv h => by
        subst e
        have := heldFor_ok w pv p h hp a.toNat b.toNat (by omega) (by omega)
        rw [Int.toNat_of_nonneg ha'.1, Int.toNat_of_nonneg hb'.1] at this
        exact this
      clear hnn
      cases hs : bsm p p.length a.toNat b.toNat with
      | true =>
        have k3 := hhf 1000 (hld_top hp (by omega) (by omega) hs)
        have e : telV p a b = ([], false) := if_neg (by rintro ⟨_, _, h, _⟩; rw [hs] at h; cases h)
        rw [e]
        refine fn_of_W2 Try.func41 rfl Try.results41 Try.ntmps41 rfl ?_
        focus
          refine W_seq ?_; refine W_region rfl ?_; refine Wo rfl (opv_assign (v := .string _) rfl) ?_; refine Wo rfl (opv_assign (v := .bool _) rfl) ?_; refine Wo_nil ?_; refine W_seq ?_; refine W_seq ?_; refine W_region rfl ?_
          refine Wo rfl (opv_move (v := v) rfl) ?_; refine Wo rfl (opv_move (v := .int _ _) rfl) ?_; refine Wo_call rfl (opc2 (a := v) (b := .int _ _) Try.call59 rfl rfl) (k1 _ _ (h)) ?_; rintro _ w1 ⟨rfl, E1⟩; have hs1 := E1.size
          refine Wo rfl (opv_not rfl) ?_; refine Wo_split rfl (opv_move (v := .bool _) rfl) (fun h1 => ?_) (fun h1 => ?_); contradiction; refine Wo rfl (opv_move (v := v) rfl) ?_; refine Wo rfl (opv_move (v := .int _ _) rfl) ?_
          refine Wo_call rfl (opc2 (a := v) (b := .int _ _) Try.call59 rfl rfl) (k2 _ _ ((Mono.mono E1 h))) ?_; rintro _ w2 ⟨rfl, E2⟩; have hs2 := E2.size; refine Wo rfl (opv_not rfl) ?_; refine Wo rfl (opv_pick_f (v := .bool _) rfl rfl) ?_
          refine Wo_split rfl (opv_move (v := .bool _) rfl) (fun h2 => ?_) (fun h2 => ?_); contradiction; refine Wo rfl (opv_move (v := v) rfl) ?_; refine Wo rfl (opv_move (v := .int _ _) rfl) ?_
          refine Wo rfl (opv_move (v := .int _ _) rfl) ?_; refine Wo_call rfl (opc3 (a := v) (b := .int _ _) (c := .int _ _) Try.call67 rfl rfl rfl) (k3 _ _ ((Mono.mono (E1.trans E2) h))) ?_; rintro _ w3 ⟨rfl, E3⟩; have hs3 := E3.size
          refine Wo rfl (opv_eql rfl rfl) ?_; refine Wo rfl (opv_pick_f (v := .bool _) rfl rfl) ?_; refine Wo_nil ?_; refine W_cond_dec rfl (fun h3 => ?_) (fun h3 => ?_); refine W_seq ?_; refine W_region rfl ?_
          refine Wo rfl (opv_assign (v := .string _) rfl) ?_; refine Wo rfl (opv_assign (v := .bool _) rfl) ?_; refine Wo_nil ?_; refine W_ret ?_; exact ⟨rfl, ((E1.trans E2).trans E3)⟩; contradiction
      | false =>
        have k3 := hhf _ rfl
        have hlt := (hld_spec hs).2.2
        have hp5 := hp.2.1
        have k4 : ∀ (w : World) (pv : Value), ESl Ints w pv p → Does Try.prog 68 [pv, .int .i64 a, .int .i64 b] w (Ret w (str (apF p 10 a.toNat b.toNat).enc)) := fun w pv h => by
          have := tellsApart_ok p hp 10 (by omega) w pv a.toNat b.toNat h (by omega) (by omega) hs (mu_le hp hs)
          rw [Int.toNat_of_nonneg ha'.1, Int.toNat_of_nonneg hb'.1] at this
          exact this
        have hel := apF_len' hp (r := 10) (a := a.toNat) (b := b.toNat) (by omega) (by omega) (by omega)
        by_cases hl : (apF p 10 a.toNat b.toNat).enc.length ≤ 60
        · have e : telV p a b = ((apF p 10 a.toNat b.toNat).enc, true) := if_pos ⟨ha, hb, hs, hl⟩
          rw [e]
          clear hhf
          generalize (apF p 10 a.toNat b.toNat).enc = t at *
          refine fn_of_W2 Try.func41 rfl Try.results41 Try.ntmps41 rfl ?_
          focus
            refine W_seq ?_; refine W_region rfl ?_; refine Wo rfl (opv_assign (v := .string _) rfl) ?_; refine Wo rfl (opv_assign (v := .bool _) rfl) ?_; refine Wo_nil ?_; refine W_seq ?_; refine W_seq ?_; refine W_region rfl ?_
            refine Wo rfl (opv_move (v := v) rfl) ?_; refine Wo rfl (opv_move (v := .int _ _) rfl) ?_; refine Wo_call rfl (opc2 (a := v) (b := .int _ _) Try.call59 rfl rfl) (k1 _ _ (h)) ?_; rintro _ w1 ⟨rfl, E1⟩; have hs1 := E1.size
            refine Wo rfl (opv_not rfl) ?_; refine Wo_split rfl (opv_move (v := .bool _) rfl) (fun h1 => ?_) (fun h1 => ?_); contradiction; refine Wo rfl (opv_move (v := v) rfl) ?_; refine Wo rfl (opv_move (v := .int _ _) rfl) ?_
            refine Wo_call rfl (opc2 (a := v) (b := .int _ _) Try.call59 rfl rfl) (k2 _ _ ((Mono.mono E1 h))) ?_; rintro _ w2 ⟨rfl, E2⟩; have hs2 := E2.size; refine Wo rfl (opv_not rfl) ?_; refine Wo rfl (opv_pick_f (v := .bool _) rfl rfl) ?_
            refine Wo_split rfl (opv_move (v := .bool _) rfl) (fun h2 => ?_) (fun h2 => ?_); contradiction; refine Wo rfl (opv_move (v := v) rfl) ?_; refine Wo rfl (opv_move (v := .int _ _) rfl) ?_
            refine Wo rfl (opv_move (v := .int _ _) rfl) ?_; refine Wo_call rfl (opc3 (a := v) (b := .int _ _) (c := .int _ _) Try.call67 rfl rfl rfl) (k3 _ _ ((Mono.mono (E1.trans E2) h))) ?_; rintro _ w3 ⟨rfl, E3⟩; have hs3 := E3.size
            refine Wo rfl (opv_eql rfl rfl) ?_; refine Wo rfl (opv_pick_f (v := .bool _) rfl rfl) ?_; refine Wo_nil ?_; refine W_cond_dec rfl (fun h3 => ?_) (fun h3 => ?_); (exfalso; omega); refine W_skip ?_; refine W_seq ?_
            refine W_region rfl ?_; refine Wo rfl (opv_move (v := v) rfl) ?_; refine Wo rfl (opv_move (v := .int _ _) rfl) ?_; refine Wo rfl (opv_move (v := .int _ _) rfl) ?_
            refine Wo_call rfl (opc3 (a := v) (b := .int _ _) (c := .int _ _) Try.call68 rfl rfl rfl) (k4 _ _ ((Mono.mono ((E1.trans E2).trans E3) h))) ?_; rintro _ w4 ⟨rfl, E4⟩; have hs4 := E4.size
            refine Wo rfl (opv_assign (v := .string _) rfl) ?_; refine Wo_nil ?_; refine W_seq ?_; refine W_seq ?_; refine W_region rfl ?_; refine Wo rfl (opv_move (v := .string _) rfl) ?_; refine Wo rfl (opv_len_str Try.underlying9 rfl) ?_
            refine Wo rfl (opv_gtr rfl rfl) ?_; refine Wo_nil ?_; refine W_cond_dec rfl (fun h4 => ?_) (fun h4 => ?_); (exfalso; omega); refine W_skip ?_; refine W_seq ?_; refine W_region rfl ?_; refine Wo rfl (opv_move (v := .string _) rfl) ?_
            refine Wo rfl (opv_assign (v := .string _) rfl) ?_; refine Wo rfl (opv_assign (v := .bool _) rfl) ?_; refine Wo_nil ?_; refine W_ret ?_; exact ⟨rfl, (((E1.trans E2).trans E3).trans E4)⟩
        · have e : telV p a b = ([], false) := if_neg (fun h => hl h.2.2.2)
          rw [e]
          clear hhf
          generalize (apF p 10 a.toNat b.toNat).enc = t at *
          refine fn_of_W2 Try.func41 rfl Try.results41 Try.ntmps41 rfl ?_
          focus
            refine W_seq ?_; refine W_region rfl ?_; refine Wo rfl (opv_assign (v := .string _) rfl) ?_; refine Wo rfl (opv_assign (v := .bool _) rfl) ?_; refine Wo_nil ?_; refine W_seq ?_; refine W_seq ?_; refine W_region rfl ?_
            refine Wo rfl (opv_move (v := v) rfl) ?_; refine Wo rfl (opv_move (v := .int _ _) rfl) ?_; refine Wo_call rfl (opc2 (a := v) (b := .int _ _) Try.call59 rfl rfl) (k1 _ _ (h)) ?_; rintro _ w1 ⟨rfl, E1⟩; have hs1 := E1.size
            refine Wo rfl (opv_not rfl) ?_; refine Wo_split rfl (opv_move (v := .bool _) rfl) (fun h1 => ?_) (fun h1 => ?_); contradiction; refine Wo rfl (opv_move (v := v) rfl) ?_; refine Wo rfl (opv_move (v := .int _ _) rfl) ?_
            refine Wo_call rfl (opc2 (a := v) (b := .int _ _) Try.call59 rfl rfl) (k2 _ _ ((Mono.mono E1 h))) ?_; rintro _ w2 ⟨rfl, E2⟩; have hs2 := E2.size; refine Wo rfl (opv_not rfl) ?_; refine Wo rfl (opv_pick_f (v := .bool _) rfl rfl) ?_
            refine Wo_split rfl (opv_move (v := .bool _) rfl) (fun h2 => ?_) (fun h2 => ?_); contradiction; refine Wo rfl (opv_move (v := v) rfl) ?_; refine Wo rfl (opv_move (v := .int _ _) rfl) ?_
            refine Wo rfl (opv_move (v := .int _ _) rfl) ?_; refine Wo_call rfl (opc3 (a := v) (b := .int _ _) (c := .int _ _) Try.call67 rfl rfl rfl) (k3 _ _ ((Mono.mono (E1.trans E2) h))) ?_; rintro _ w3 ⟨rfl, E3⟩; have hs3 := E3.size
            refine Wo rfl (opv_eql rfl rfl) ?_; refine Wo rfl (opv_pick_f (v := .bool _) rfl rfl) ?_; refine Wo_nil ?_; refine W_cond_dec rfl (fun h3 => ?_) (fun h3 => ?_); (exfalso; omega); refine W_skip ?_; refine W_seq ?_
            refine W_region rfl ?_; refine Wo rfl (opv_move (v := v) rfl) ?_; refine Wo rfl (opv_move (v := .int _ _) rfl) ?_; refine Wo rfl (opv_move (v := .int _ _) rfl) ?_
            refine Wo_call rfl (opc3 (a := v) (b := .int _ _) (c := .int _ _) Try.call68 rfl rfl rfl) (k4 _ _ ((Mono.mono ((E1.trans E2).trans E3) h))) ?_; rintro _ w4 ⟨rfl, E4⟩; have hs4 := E4.size
            refine Wo rfl (opv_assign (v := .string _) rfl) ?_; refine Wo_nil ?_; refine W_seq ?_; refine W_seq ?_; refine W_region rfl ?_; refine Wo rfl (opv_move (v := .string _) rfl) ?_; refine Wo rfl (opv_len_str Try.underlying9 rfl) ?_
            refine Wo rfl (opv_gtr rfl rfl) ?_; refine Wo_nil ?_; refine W_cond_dec rfl (fun h4 => ?_) (fun h4 => ?_); refine W_seq ?_; refine W_region rfl ?_; refine Wo rfl (opv_assign (v := .string _) rfl) ?_
            refine Wo rfl (opv_assign (v := .bool _) rfl) ?_; refine Wo_nil ?_; refine W_ret ?_; exact ⟨rfl, (((E1.trans E2).trans E3).trans E4)⟩; (exfalso; omega)
    · have k2 := hnn b false (decide_eq_false hb)
      have e : telV p a b = ([], false) := if_neg (fun h => hb h.2.1)
      rw [e]
      clear hnn
      refine fn_of_W2 Try.func41 rfl Try.results41 Try.ntmps41 rfl ?_
      focus
        refine W_seq ?_; refine W_region rfl ?_; refine Wo rfl (opv_assign (v := .string _) rfl) ?_; refine Wo rfl (opv_assign (v := .bool _) rfl) ?_; refine Wo_nil ?_; refine W_seq ?_; refine W_seq ?_; refine W_region rfl ?_
        refine Wo rfl (opv_move (v := v) rfl) ?_; refine Wo rfl (opv_move (v := .int _ _) rfl) ?_; refine Wo_call rfl (opc2 (a := v) (b := .int _ _) Try.call59 rfl rfl) (k1 _ _ (h)) ?_; rintro _ w1 ⟨rfl, E1⟩; have hs1 := E1.size
        refine Wo rfl (opv_not rfl) ?_; refine Wo_split rfl (opv_move (v := .bool _) rfl) (fun h1 => ?_) (fun h1 => ?_); contradiction; refine Wo rfl (opv_move (v := v) rfl) ?_; refine Wo rfl (opv_move (v := .int _ _) rfl) ?_
        refine Wo_call rfl (opc2 (a := v) (b := .int _ _) Try.call59 rfl rfl) (k2 _ _ ((Mono.mono E1 h))) ?_; rintro _ w2 ⟨rfl, E2⟩; have hs2 := E2.size; refine Wo rfl (opv_not rfl) ?_; refine Wo rfl (opv_pick_f (v := .bool _) rfl rfl) ?_
        refine Wo_split rfl (opv_move (v := .bool _) rfl) (fun h2 => ?_) (fun h2 => ?_); refine Wo_skip rfl ?_; refine Wo_skip rfl ?_; refine Wo_skip rfl ?_; refine Wo_skip rfl ?_; refine Wo_skip rfl ?_
        refine Wo rfl (opv_pick_t (v := .bool _) rfl rfl) ?_; refine Wo_nil ?_; refine W_cond_true rfl ?_; refine W_seq ?_; refine W_region rfl ?_; refine Wo rfl (opv_assign (v := .string _) rfl) ?_
        refine Wo rfl (opv_assign (v := .bool _) rfl) ?_; refine Wo_nil ?_; refine W_ret ?_; exact ⟨rfl, (E1.trans E2)⟩; contradiction
  · have k1 := hnn a false (decide_eq_false ha)
    have e : telV p a b = ([], false) := if_neg (fun h => ha h.1)
    rw [e]
    clear hnn
    refine fn_of_W2 Try.func41 rfl Try.results41 Try.ntmps41 rfl ?_
    focus
      refine W_seq ?_; refine W_region rfl ?_; refine Wo rfl (opv_assign (v := .string _) rfl) ?_; refine Wo rfl (opv_assign (v := .bool _) rfl) ?_; refine Wo_nil ?_; refine W_seq ?_; refine W_seq ?_; refine W_region rfl ?_
      refine Wo rfl (opv_move (v := v) rfl) ?_; refine Wo rfl (opv_move (v := .int _ _) rfl) ?_; refine Wo_call rfl (opc2 (a := v) (b := .int _ _) Try.call59 rfl rfl) (k1 _ _ (h)) ?_; rintro _ w1 ⟨rfl, E1⟩; have hs1 := E1.size
      refine Wo rfl (opv_not rfl) ?_; refine Wo_split rfl (opv_move (v := .bool _) rfl) (fun h1 => ?_) (fun h1 => ?_); refine Wo_skip rfl ?_; refine Wo_skip rfl ?_; refine Wo_skip rfl ?_; refine Wo_skip rfl ?_
      refine Wo rfl (opv_pick_t (v := .bool _) rfl rfl) ?_; refine Wo rfl (opv_move (v := .bool _) rfl) ?_; refine Wo_skip rfl ?_; refine Wo_skip rfl ?_; refine Wo_skip rfl ?_; refine Wo_skip rfl ?_; refine Wo_skip rfl ?_
      refine Wo rfl (opv_pick_t (v := .bool _) rfl rfl) ?_; refine Wo_nil ?_; refine W_cond_true rfl ?_; refine W_seq ?_; refine W_region rfl ?_; refine Wo rfl (opv_assign (v := .string _) rfl) ?_
      refine Wo rfl (opv_assign (v := .bool _) rfl) ?_; refine Wo_nil ?_; refine W_ret ?_; exact ⟨rfl, E1⟩; contradiction

theorem FnExactTellsApart_walk (w : World) (v : Value) (p : List (List Int)) (h : ESl Ints w v p) (a : Int) (ha : -9223372036854775808 ≤ a ∧ a ≤ 9223372036854775807) (b : Int) (hb : -9223372036854775808 ≤ b ∧ b ≤ 9223372036854775807) :
    Does Try.prog 12 [v, .int .i64 a, .int .i64 b] w (Ret w (.bool true)) := by
  refine fn_of_W1 Try.func12 rfl Try.results12 Try.ntmps12 rfl ?_
  focus
    refine W_seq ?_; refine W_region rfl ?_; refine Wo rfl (opv_assign (v := .bool _) rfl) ?_; refine Wo_nil ?_; refine W_seq ?_; refine W_region rfl ?_; refine Wo rfl (opv_assign (v := .int _ _) rfl) ?_; refine Wo_nil ?_
    refine W_seq ?_; refine W_region rfl ?_; refine Wo rfl (opv_move (v := v) rfl) ?_; refine Wo rfl (opv_move (v := .int _ _) rfl) ?_
    refine Wo_call rfl (opc2 (a := v) (b := .int _ _) Try.call24 rfl rfl) (szIntSS_ok _ _ _ (h) _ (by omega)) ?_; rintro _ w1 ⟨E1, y1, rfl, hy1⟩; have hs1 := E1.size; refine Wo rfl (opv_assign (v := .int _ _) rfl) ?_; refine Wo_nil ?_
    refine W_seq ?_; refine W_seq ?_; refine W_region rfl ?_; refine Wo rfl (opv_move (v := .int _ _) rfl) ?_; refine Wo rfl (opv_lss rfl rfl) ?_; refine Wo_nil ?_; refine W_cond_dec rfl (fun h1 => ?_) (fun h1 => ?_); refine W_seq ?_
    refine W_region rfl ?_; refine Wo rfl (opv_assign (v := .bool _) rfl) ?_; refine Wo_nil ?_; refine W_ret ?_; exact ⟨rfl, E1⟩; refine W_skip ?_; refine W_seq ?_; refine W_region rfl ?_; refine Wo rfl (opv_move (v := v) rfl) ?_
  rcases hy1 with h9 | ⟨h5, h6, h7, h7', h8⟩
  · omega
  focus
    have szE1 := E1.size; refine Wo_call rfl (opc1 (a := v) Try.call26 rfl) (toIntSS_ok _ _ _ ((Mono.mono E1 h)) (by assumption) (by assumption)) ?_; rintro u1 w2 ⟨E2, hO1⟩; have hs2 := E2.size
    refine Wo rfl (opv_move (v := .int _ _) rfl) ?_; refine Wo rfl (opv_move (v := .int _ _) rfl) ?_
    refine Wo_call rfl (opc3 (a := u1) (b := .int _ _) (c := .int _ _) Try.call40 rfl rfl rfl) (spec_TellsApart_ok _ _ _ ((Owned.read hO1)) _ _) ?_; rintro _ w3 ⟨rfl, E3⟩; have hs3 := E3.size
    refine Wo rfl (opv_move (v := .tuple _) rfl) ?_; refine Wo rfl (opv_extract (v := .string _) rfl rfl) ?_; refine Wo rfl (opv_extract (v := .bool _) rfl rfl) ?_; refine Wo rfl (opv_assign (v := .string _) rfl) ?_
    refine Wo rfl (opv_assign (v := .bool _) rfl) ?_; refine Wo_nil ?_; refine W_seq ?_; refine W_region rfl ?_; refine Wo rfl (opv_move (v := v) rfl) ?_
    refine Wo_call rfl (opc1 (a := v) Try.call26 rfl) (toIntSS_ok _ _ _ ((Mono.mono ((E1.trans E2).trans E3) h)) (by assumption) (by assumption)) ?_; rintro u2 w4 ⟨E4, hO2⟩; have hs4 := E4.size
    refine Wo rfl (opv_assign (v := u2) rfl) ?_; refine Wo_nil ?_; refine W_seq ?_; refine W_region rfl ?_; refine Wo rfl (opv_move (v := u2) rfl) ?_; refine Wo rfl (opv_move (v := .int _ _) rfl) ?_
    refine Wo rfl (opv_move (v := .int _ _) rfl) ?_; refine Wo_call rfl (opc3 (a := u2) (b := .int _ _) (c := .int _ _) Try.call41 rfl rfl rfl) (impl_TellsApart_ok _ _ _ ((Owned.read hO2)) _ _) ?_; rintro _ w5 ⟨rfl, E5⟩
    have hs5 := E5.size; refine Wo rfl (opv_move (v := .tuple _) rfl) ?_; refine Wo rfl (opv_extract (v := .string _) rfl rfl) ?_; refine Wo rfl (opv_extract (v := .bool _) rfl rfl) ?_; refine Wo rfl (opv_assign (v := .string _) rfl) ?_
    refine Wo rfl (opv_assign (v := .bool _) rfl) ?_; refine Wo_nil ?_; refine W_seq ?_; refine W_seq ?_; refine W_region rfl ?_; refine Wo rfl (opv_move (v := .string _) rfl) ?_; refine Wo rfl (opv_move (v := .string _) rfl) ?_
    refine Wo rfl (opv_neq_str rfl rfl) ?_; refine Wo_split_ndec rfl (opv_move (v := .bool _) rfl) (fun h2 => ?_) (fun h2 => ?_); contradiction; refine Wo rfl (opv_move (v := .bool _) rfl) ?_
    refine Wo rfl (opv_move (v := .bool _) rfl) ?_; refine Wo rfl (opv_neq_bool Try.underlying4 rfl rfl) ?_; refine Wo rfl (opv_pick_f (v := .bool _) rfl rfl) ?_; refine Wo_nil ?_; refine W_cond_ndec rfl (fun h3 => ?_) (fun h3 => ?_)
    contradiction; refine W_skip ?_; refine W_seq ?_; refine W_seq ?_; refine W_region rfl ?_; refine Wo rfl (opv_move (v := u2) rfl) ?_; refine Wo rfl (opv_move (v := v) rfl) ?_
    refine Wo_call rfl (opc1 (a := v) Try.call26 rfl) (toIntSS_ok _ _ _ ((Mono.mono ((((E1.trans E2).trans E3).trans E4).trans E5) h)) (by assumption) (by assumption)) ?_; rintro u3 w6 ⟨E6, hO3⟩; have hs6 := E6.size
    refine Wo_call rfl (opc2 (a := u2) (b := u3) Try.call28 rfl rfl) (eqIntSS_ok _ _ _ _ _ ((Mono.mono (E5.trans E6) (Owned.read hO2))) ((Owned.read hO3))) ?_; rintro _ w7 ⟨rfl, E7⟩; have hs7 := E7.size; refine Wo rfl (opv_not rfl) ?_
    refine Wo_nil ?_; refine W_cond_ndec rfl (fun h4 => ?_) (fun h4 => ?_); contradiction; refine W_skip ?_; refine W_seq ?_; refine W_region rfl ?_; refine Wo rfl (opv_assign (v := .bool _) rfl) ?_; refine Wo_nil ?_; refine W_ret ?_
    exact ⟨rfl, ((((((E1.trans E2).trans E3).trans E4).trans E5).trans E6).trans E7)⟩

theorem DrawSameAt_ok (w : World) (v : Value) (xs : List UInt8) (h : Bytes w v xs) (hc : CapOk v) :
    Does Try.prog 72 [v] w (RetTM w XR (fun p z z2 => p.length ≤ 5 ∧ (∀ r ∈ p, r.length ≤ 6) ∧ -1000 ≤ z ∧ z ≤ 1000 ∧ -1000 ≤ z2 ∧ z2 ≤ 1000)) := by
  refine fn_of_W3 Try.func72 rfl Try.results72 Try.ntmps72 rfl ?_
  have hle := h.le
  focus
    refine W_seq ?_; refine W_region rfl ?_; refine Wo rfl (opv_assign (v := .slice _ _ _) rfl) ?_; refine Wo rfl (opv_assign (v := .int _ _) rfl) ?_; refine Wo rfl (opv_assign (v := .int _ _) rfl) ?_; refine Wo_nil ?_; refine W_seq ?_
    refine W_region rfl ?_; refine Wo rfl (opv_move (v := v) rfl) ?_; refine Wo_call rfl (opc1 (a := v) Try.call53 rfl) (open_ok _ _ _ (h) (by assumption)) ?_; rintro _ w1 ⟨E1, y1, rfl, hy1⟩; have hs1 := E1.size
    refine Wo rfl (opv_assign (v := .pointer _) rfl) ?_; refine Wo_nil ?_; refine W_seq ?_; refine W_region rfl ?_; refine Wo rfl (opv_move (v := .pointer _) rfl) ?_
    refine Wo_call rfl (opc2 (a := .pointer _) (b := .int _ _) Try.call64 rfl rfl) (Twin_ok _ _ (by assumption) (by omega) (by omega)) ?_; rintro u1 w2 ⟨E2, hr1, x1, hO1, hy2⟩; (try dsimp only at hy2); have hlhr1 := hr1.lt
    have Ehr1 := hr1.old; have hs2 := E2.size; refine Wo rfl (opv_assign (v := u1) rfl) ?_; refine Wo_nil ?_; refine W_seq ?_; refine W_region rfl ?_; refine Wo rfl (opv_move (v := u1) rfl) ?_
    refine Wo rfl (opv_move (v := .pointer _) rfl) ?_; refine Wo_call rfl (opc2 (a := .pointer _) (b := .int _ _) Try.call76 rfl rfl) (pick_ok _ _ (by assumption) (by omega)) ?_; rintro _ w3 ⟨y2, rfl, E3, hr2, hy3⟩
    (try dsimp only at hy3); have hlhr2 := hr2.lt; have Ehr2 := hr2.old; have hs3 := E3.size; refine Wo rfl (opv_move (v := .pointer _) rfl) ?_
    refine Wo_call rfl (opc2 (a := .pointer _) (b := .int _ _) Try.call76 rfl rfl) (pick_ok _ _ (by assumption) (by omega)) ?_; rintro _ w4 ⟨y3, rfl, E4, hr3, hy4⟩; (try dsimp only at hy4); have hlhr3 := hr3.lt; have Ehr3 := hr3.old
    have hs4 := E4.size; refine Wo rfl (opv_move (v := .pointer _) rfl) ?_; refine Wo_call rfl (opc2 (a := .pointer _) (b := .int _ _) Try.call76 rfl rfl) (pick_ok _ _ (by assumption) (by omega)) ?_; rintro _ w5 ⟨y4, rfl, E5, hr4, hy5⟩
    (try dsimp only at hy5); have hlhr4 := hr4.lt; have Ehr4 := hr4.old; have hs5 := E5.size; refine Wo rfl (opv_quo rfl rfl (by omega)) ?_; refine Wo rfl (opv_mul rfl rfl (by omega)) ?_; refine Wo rfl (opv_add rfl rfl (by omega)) ?_
    refine Wo rfl (opv_assign (v := u1) rfl) ?_; refine Wo rfl (opv_assign (v := .int _ _) rfl) ?_; refine Wo rfl (opv_assign (v := .int _ _) rfl) ?_; refine Wo_nil ?_; refine W_ret ?_
    refine at_ret (v := .tuple #[u1, .int _ _, .int _ _]) rfl ?_
  have hl := hy1.lt
  have hB := ((hO1.toB.grown E3 (.inl hl)).grown E4 (.inl hl)).grown E5 (.inl hl)
  refine ⟨_, _, _, _, rfl, Ehr4, hB.o.mono (by omega), hy2.1, hy2.2, by omega, by omega, by omega, by omega⟩

theorem DrawTellsApart_ok (w : World) (v : Value) (xs : List UInt8) (h : Bytes w v xs) (hc : CapOk v) :
    Does Try.prog 47 [v] w (RetTM w XR (fun p z z2 => p.length ≤ 5 ∧ (∀ r ∈ p, r.length ≤ 6) ∧ -1000 ≤ z ∧ z ≤ 1000 ∧ -1000 ≤ z2 ∧ z2 ≤ 1000)) := by
  refine fn_of_W3 Try.func47 rfl Try.results47 Try.ntmps47 rfl ?_
  have hle := h.le
  focus
    refine W_seq ?_; refine W_region rfl ?_; refine Wo rfl (opv_assign (v := .slice _ _ _) rfl) ?_; refine Wo rfl (opv_assign (v := .int _ _) rfl) ?_; refine Wo rfl (opv_assign (v := .int _ _) rfl) ?_; refine Wo_nil ?_; refine W_seq ?_
    refine W_region rfl ?_; refine Wo rfl (opv_move (v := v) rfl) ?_; refine Wo_call rfl (opc1 (a := v) Try.call72 rfl) (DrawSameAt_ok _ _ _ (h) (by assumption)) ?_; rintro _ w1 ⟨u1, z1, q1, x1, rfl, E1, hO1, hy1⟩; have hs1 := E1.size
    refine Wo rfl (opv_extract (v := u1) rfl rfl) ?_; refine Wo rfl (opv_extract (v := .int _ _) rfl rfl) ?_; refine Wo rfl (opv_extract (v := .int _ _) rfl rfl) ?_; refine Wo rfl (opv_assign (v := u1) rfl) ?_
    refine Wo rfl (opv_assign (v := .int _ _) rfl) ?_; refine Wo rfl (opv_assign (v := .int _ _) rfl) ?_; refine Wo_nil ?_; refine W_ret ?_; refine at_ret (v := .tuple #[u1, .int _ _, .int _ _]) rfl ?_
  exact ⟨_, _, _, _, rfl, E1, hO1, hy1⟩

theorem FnTellsApart_walk (w : World) (v : Value) (xs : List UInt8) (h : Bytes w v xs) (hc : CapOk v) : Does Try.prog 14 [v] w (Ret w (.bool true)) := by
  have hle := h.le
  refine fn_of_W1 Try.func14 rfl Try.results14 Try.ntmps14 rfl ?_
  focus
    refine W_seq ?_; refine W_region rfl ?_; refine Wo rfl (opv_assign (v := .bool _) rfl) ?_; refine Wo_nil ?_; refine W_seq ?_; refine W_seq ?_; refine W_region rfl ?_; refine Wo rfl (opv_move (v := v) rfl) ?_
    refine Wo rfl (opv_len Try.underlying24 rfl h) ?_; refine Wo rfl (opv_gtr rfl rfl) ?_; refine Wo_nil ?_; refine W_cond_dec rfl (fun h1 => ?_) (fun h1 => ?_); refine W_seq ?_; refine W_region rfl ?_
    refine Wo rfl (opv_assign (v := .bool _) rfl) ?_; refine Wo_nil ?_; refine W_ret ?_; exact ⟨rfl, (Ext.refl _)⟩; refine W_skip ?_; refine W_seq ?_; refine W_region rfl ?_; refine Wo rfl (opv_move (v := v) rfl) ?_
    refine Wo_call rfl (opc1 (a := v) Try.call47 rfl) (DrawTellsApart_ok _ _ _ (h) (by assumption)) ?_; rintro _ w1 ⟨u1, z1, q1, x1, rfl, E1, hO1, hy1⟩; have hs1 := E1.size; refine Wo rfl (opv_move (v := .tuple _) rfl) ?_
    refine Wo rfl (opv_extract (v := u1) rfl rfl) ?_; refine Wo rfl (opv_extract (v := .int _ _) rfl rfl) ?_; refine Wo rfl (opv_extract (v := .int _ _) rfl rfl) ?_; refine Wo rfl (opv_assign (v := u1) rfl) ?_
    refine Wo rfl (opv_assign (v := .int _ _) rfl) ?_; refine Wo rfl (opv_assign (v := .int _ _) rfl) ?_; refine Wo_nil ?_; refine W_seq ?_; refine W_region rfl ?_; refine Wo rfl (opv_move (v := u1) rfl) ?_
    refine Wo rfl (opv_move (v := .int _ _) rfl) ?_; refine Wo rfl (opv_move (v := .int _ _) rfl) ?_
  have hv : ∀ r, telV x1 z1 q1 = r → (∀ (w : World) (pv : Value), ESl Ints w pv x1 → Does Try.prog 40 [pv, .int .i64 z1, .int .i64 q1] w (Ret w (.tuple #[str r.1, .bool r.2]))) ∧ (∀ (w : World) (pv : Value), ESl Ints w pv x1 → Does Try.prog 41 [pv, .int .i64 z1, .int .i64 q1] w (Ret w (.tuple #[str r.1, .bool r.2]))) := fun r e => by
    subst e
    exact ⟨fun w pv h => spec_TellsApart_ok w pv x1 h z1 q1, fun w pv h => impl_TellsApart_ok w pv x1 h z1 q1⟩
  by_cases hcc : Nod x1 z1 ∧ Nod x1 q1 ∧ bsm x1 x1.length z1.toNat q1.toNat = false ∧ (apF x1 10 z1.toNat q1.toNat).enc.length ≤ 60
  · obtain ⟨k1, k2⟩ := hv _ (if_pos hcc)
    obtain ⟨ha, hb, hs, hl⟩ := hcc
    have hp := ha.1
    obtain ⟨t1, t2, t3⟩ := apF_ok hp 10 z1.toNat q1.toNat hs (mu_le hp hs)
    obtain ⟨f, hf⟩ : ∃ f, f = apF x1 10 z1.toNat q1.toNat := ⟨_, rfl⟩
    rw [← hf] at k1 k2 t1 t2 t3 hl
    have hth := theF_enc hl
    have k1' : ∀ (w : World) (pv : Value), ESl Ints w pv x1 → Does Try.prog 40 [pv, .int .i64 z1, .int .i64 q1] w (Ret w (.tuple #[str f.enc, .bool true])) := k1
    have k2' : ∀ (w : World) (pv : Value), ESl Ints w pv x1 → Does Try.prog 41 [pv, .int .i64 z1, .int .i64 q1] w (Ret w (.tuple #[str f.enc, .bool true])) := k2
    have k3 : ∀ (w : World) (pv : Value), ESl Ints w pv x1 → Does Try.prog 48 [pv, .int .i64 z1, .int .i64 q1] w (Ret w (.tuple #[.int .i64 (hld x1 z1.toNat q1.toNat : Int), .bool true])) := fun w pv h => by
      have := impl_HeldFor_ok w pv x1 h z1 q1
      rw [show heldV x1 z1 q1 = ((hld x1 z1.toNat q1.toNat : Int), true) from if_pos ⟨ha, hb, hs⟩] at this
      exact this
    have k4 : ∀ w, Does Try.prog 16 [str f.enc] w (Ret w (.bool true)) := fun w => by
      have := impl_FormulaOk_ok f.enc w (by unfold lim; omega)
      rw [okF, hth] at this; exact this
    have k5 : ∀ (w : World) (pv : Value), ESl Ints w pv x1 → Does Try.prog 27 [str f.enc, pv, .int .i64 z1] w (Ret w (.bool true)) := fun w pv h => by
      have := impl_HoldsAt_ok f.enc w pv x1 z1 (by unfold lim; omega) h
      rw [show holdsV f.enc x1 z1 = true by unfold holdsV; rw [hth, decide_eq_true ha]; simp [t1]] at this
      exact this
    have k6 : ∀ (w : World) (pv : Value), ESl Ints w pv x1 → Does Try.prog 27 [str f.enc, pv, .int .i64 q1] w (Ret w (.bool false)) := fun w pv h => by
      have := impl_HoldsAt_ok f.enc w pv x1 q1 (by unfold lim; omega) h
      rw [show holdsV f.enc x1 q1 = false by unfold holdsV; rw [hth, decide_eq_true hb]; simp [t2]] at this
      exact this
    have k7 : ∀ w, Does Try.prog 18 [str f.enc] w (Ret w (.int .i64 ((hld x1 z1.toNat q1.toNat : Int) + 1))) := fun w => by
      have := impl_FormulaDeep_ok f.enc w (by unfold lim; omega)
      rw [deepV_some hth, t3] at this; exact this
    have hlt := (hld_spec hs).2.2
    have hp5 := hp.2.1
    clear hv k1 k2 hf t1 t2 t3
    generalize hg : f.enc = g at *
    generalize hld x1 z1.toNat q1.toNat = n at *
    focus
      have szE1 := E1.size; refine Wo_call rfl (opc3 (a := u1) (b := .int _ _) (c := .int _ _) Try.call41 rfl rfl rfl) (k2' _ _ ((Owned.read hO1))) ?_; rintro _ w2 ⟨rfl, E2⟩; have hs2 := E2.size
      refine Wo rfl (opv_move (v := .tuple _) rfl) ?_; refine Wo rfl (opv_extract (v := .string _) rfl rfl) ?_; refine Wo rfl (opv_extract (v := .bool _) rfl rfl) ?_; refine Wo rfl (opv_assign (v := .string _) rfl) ?_
      refine Wo rfl (opv_assign (v := .bool _) rfl) ?_; refine Wo_nil ?_; refine W_seq ?_; refine W_region rfl ?_; refine Wo rfl (opv_move (v := u1) rfl) ?_; refine Wo rfl (opv_move (v := .int _ _) rfl) ?_
      refine Wo rfl (opv_move (v := .int _ _) rfl) ?_; refine Wo_call rfl (opc3 (a := u1) (b := .int _ _) (c := .int _ _) Try.call40 rfl rfl rfl) (k1' _ _ ((Mono.mono E2 (Owned.read hO1)))) ?_; rintro _ w3 ⟨rfl, E3⟩; have hs3 := E3.size
      refine Wo rfl (opv_move (v := .tuple _) rfl) ?_; refine Wo rfl (opv_extract (v := .string _) rfl rfl) ?_; refine Wo rfl (opv_extract (v := .bool _) rfl rfl) ?_; refine Wo rfl (opv_assign (v := .string _) rfl) ?_
      refine Wo rfl (opv_assign (v := .bool _) rfl) ?_; refine Wo_nil ?_; refine W_seq ?_; refine W_seq ?_; refine W_region rfl ?_; refine Wo rfl (opv_move (v := .string _) rfl) ?_; refine Wo rfl (opv_move (v := .string _) rfl) ?_
      refine Wo rfl (opv_neq_str rfl rfl) ?_; refine Wo_split_ndec rfl (opv_move (v := .bool _) rfl) (fun h2 => ?_) (fun h2 => ?_); contradiction; refine Wo rfl (opv_move (v := .bool _) rfl) ?_
      refine Wo rfl (opv_move (v := .bool _) rfl) ?_; refine Wo rfl (opv_neq_bool Try.underlying4 rfl rfl) ?_; refine Wo rfl (opv_pick_f (v := .bool _) rfl rfl) ?_; refine Wo_nil ?_; refine W_cond_ndec rfl (fun h3 => ?_) (fun h3 => ?_)
      contradiction; refine W_skip ?_; refine W_seq ?_; refine W_seq ?_; refine W_region rfl ?_; refine Wo rfl (opv_move (v := .bool _) rfl) ?_; refine Wo rfl (opv_not rfl) ?_; refine Wo_nil ?_
      refine W_cond rfl (fun h4 => ?_) (fun h4 => ?_); contradiction; refine W_skip ?_; refine W_seq ?_; refine W_region rfl ?_; refine Wo rfl (opv_move (v := u1) rfl) ?_; refine Wo rfl (opv_move (v := .int _ _) rfl) ?_
      refine Wo rfl (opv_move (v := .int _ _) rfl) ?_; refine Wo_call rfl (opc3 (a := u1) (b := .int _ _) (c := .int _ _) Try.call48 rfl rfl rfl) (k3 _ _ ((Mono.mono (E2.trans E3) (Owned.read hO1)))) ?_; rintro _ w4 ⟨rfl, E4⟩
      have hs4 := E4.size; refine Wo rfl (opv_move (v := .tuple _) rfl) ?_; refine Wo rfl (opv_extract (v := .int _ _) rfl rfl) ?_; refine Wo rfl (opv_extract (v := .bool _) rfl rfl) ?_; refine Wo rfl (opv_assign (v := .int _ _) rfl) ?_
      refine Wo rfl (opv_assign (v := .bool _) rfl) ?_; refine Wo_nil ?_; refine W_seq ?_; refine W_region rfl ?_; refine Wo rfl (opv_move (v := .string _) rfl) ?_; refine Wo_call rfl (opc1 (a := .string _) Try.call16 rfl) (k4 _) ?_
      rintro _ w5 ⟨rfl, E5⟩; have hs5 := E5.size; refine Wo rfl (opv_move (v := .bool _) rfl) ?_; refine Wo rfl (opv_move (v := .string _) rfl) ?_; refine Wo rfl (opv_move (v := u1) rfl) ?_; refine Wo rfl (opv_move (v := .int _ _) rfl) ?_
      refine Wo_call rfl (opc3 (a := .string _) (b := u1) (c := .int _ _) Try.call27 rfl rfl rfl) (k5 _ _ ((Mono.mono (((E2.trans E3).trans E4).trans E5) (Owned.read hO1)))) ?_; rintro _ w6 ⟨rfl, E6⟩; have hs6 := E6.size
      refine Wo rfl (opv_pick_t (v := .bool _) rfl rfl) ?_; refine Wo rfl (opv_move (v := .bool _) rfl) ?_; refine Wo rfl (opv_move (v := .string _) rfl) ?_; refine Wo rfl (opv_move (v := u1) rfl) ?_
      refine Wo rfl (opv_move (v := .int _ _) rfl) ?_; refine Wo_call rfl (opc3 (a := .string _) (b := u1) (c := .int _ _) Try.call27 rfl rfl rfl) (k6 _ _ ((Mono.mono ((((E2.trans E3).trans E4).trans E5).trans E6) (Owned.read hO1)))) ?_
      rintro _ w7 ⟨rfl, E7⟩; have hs7 := E7.size; refine Wo rfl (opv_not rfl) ?_; refine Wo rfl (opv_pick_t (v := .bool _) rfl rfl) ?_; refine Wo_split rfl (opv_move (v := .bool _) rfl) (fun h5 => ?_) (fun h5 => ?_)
      refine Wo rfl (opv_move (v := .bool _) rfl) ?_; refine Wo rfl (opv_pick_t (v := .bool _) rfl rfl) ?_; refine Wo rfl (opv_move (v := .bool _) rfl) ?_; refine Wo rfl (opv_move (v := .string _) rfl) ?_
      refine Wo_call rfl (opc1 (a := .string _) Try.call18 rfl) (k7 _) ?_; rintro _ w8 ⟨rfl, E8⟩; have hs8 := E8.size; refine Wo rfl (opv_move (v := .int _ _) rfl) ?_; refine Wo rfl (opv_add rfl rfl (by omega)) ?_
      refine Wo rfl (opv_eql rfl rfl) ?_; refine Wo rfl (opv_pick_t (v := .bool _) rfl rfl) ?_; refine Wo rfl (opv_assign (v := .bool _) rfl) ?_; refine Wo_nil ?_; refine W_ret ?_; refine at_ret (v := .bool _) rfl ?_
      refine ⟨congrArg Value.bool ?_, (((((((E1.trans E2).trans E3).trans E4).trans E5).trans E6).trans E7).trans E8)⟩; rotate_left; contradiction
    simp
  · obtain ⟨k1, k2⟩ := hv ([], false) (if_neg hcc)
    have k1' : ∀ (w : World) (pv : Value), ESl Ints w pv x1 → Does Try.prog 40 [pv, .int .i64 z1, .int .i64 q1] w (Ret w (.tuple #[str [], .bool false])) := k1
    have k2' : ∀ (w : World) (pv : Value), ESl Ints w pv x1 → Does Try.prog 41 [pv, .int .i64 z1, .int .i64 q1] w (Ret w (.tuple #[str [], .bool false])) := k2
    clear hv k1 k2
    focus
      have szE1 := E1.size; refine Wo_call rfl (opc3 (a := u1) (b := .int _ _) (c := .int _ _) Try.call41 rfl rfl rfl) (k2' _ _ ((Owned.read hO1))) ?_; rintro _ w2 ⟨rfl, E2⟩; have hs2 := E2.size
      refine Wo rfl (opv_move (v := .tuple _) rfl) ?_; refine Wo rfl (opv_extract (v := .string _) rfl rfl) ?_; refine Wo rfl (opv_extract (v := .bool _) rfl rfl) ?_; refine Wo rfl (opv_assign (v := .string _) rfl) ?_
      refine Wo rfl (opv_assign (v := .bool _) rfl) ?_; refine Wo_nil ?_; refine W_seq ?_; refine W_region rfl ?_; refine Wo rfl (opv_move (v := u1) rfl) ?_; refine Wo rfl (opv_move (v := .int _ _) rfl) ?_
      refine Wo rfl (opv_move (v := .int _ _) rfl) ?_; refine Wo_call rfl (opc3 (a := u1) (b := .int _ _) (c := .int _ _) Try.call40 rfl rfl rfl) (k1' _ _ ((Mono.mono E2 (Owned.read hO1)))) ?_; rintro _ w3 ⟨rfl, E3⟩; have hs3 := E3.size
      refine Wo rfl (opv_move (v := .tuple _) rfl) ?_; refine Wo rfl (opv_extract (v := .string _) rfl rfl) ?_; refine Wo rfl (opv_extract (v := .bool _) rfl rfl) ?_; refine Wo rfl (opv_assign (v := .string _) rfl) ?_
      refine Wo rfl (opv_assign (v := .bool _) rfl) ?_; refine Wo_nil ?_; refine W_seq ?_; refine W_seq ?_; refine W_region rfl ?_; refine Wo rfl (opv_move (v := .string _) rfl) ?_; refine Wo rfl (opv_move (v := .string _) rfl) ?_
      refine Wo rfl (opv_neq_str rfl rfl) ?_; refine Wo_split_ndec rfl (opv_move (v := .bool _) rfl) (fun h2 => ?_) (fun h2 => ?_); contradiction; refine Wo rfl (opv_move (v := .bool _) rfl) ?_
      refine Wo rfl (opv_move (v := .bool _) rfl) ?_; refine Wo rfl (opv_neq_bool Try.underlying4 rfl rfl) ?_; refine Wo rfl (opv_pick_f (v := .bool _) rfl rfl) ?_; refine Wo_nil ?_; refine W_cond_ndec rfl (fun h3 => ?_) (fun h3 => ?_)
      contradiction; refine W_skip ?_; refine W_seq ?_; refine W_seq ?_; refine W_region rfl ?_; refine Wo rfl (opv_move (v := .bool _) rfl) ?_; refine Wo rfl (opv_not rfl) ?_; refine Wo_nil ?_
      refine W_cond rfl (fun h4 => ?_) (fun h4 => ?_); refine W_seq ?_; refine W_region rfl ?_; refine Wo rfl (opv_move (v := .string _) rfl) ?_; refine Wo rfl (opv_eql_str rfl rfl) ?_
      refine Wo_split_dec rfl (opv_move (v := .bool _) rfl) (fun h5 => ?_) (fun h5 => ?_); refine Wo_call rfl (opc0 Try.call20) (alive_ok _) ?_; rintro _ w4 ⟨rfl, E4⟩; have hs4 := E4.size
      refine Wo rfl (opv_pick_t (v := .bool _) rfl rfl) ?_; refine Wo rfl (opv_assign (v := .bool _) rfl) ?_; refine Wo_nil ?_; refine W_ret ?_; exact ⟨rfl, (((E1.trans E2).trans E3).trans E4)⟩; contradiction; contradiction

end Go.Proofs.Ytjdfnngmbaojjaa
