/- Walks: readFormula, FormulaOk on both sides. -/
import Derived.Test.YtjdfnngmbaojjaaHsWFm2
namespace Go.Proofs.Ytjdfnngmbaojjaa
open Go.Hs
set_option maxRecDepth 10000
set_option maxHeartbeats 4000000
set_option linter.unusedVariables false


theorem readFormula_some (s : List UInt8) (w : World) (f : Fm) (h : theF s = some f) :
    Does Try.prog 50 [str s] w (RetX w (fun ad => .pointer (some ad)) fun ad w' => Above w.heap.size EFm w' (.pointer (some ad)) f) := by
  obtain ⟨hs, hl⟩ := theF_some.1 h
  have hp : pre s = some (f, []) := pre_eq (by simpa using hs)
  have ih2 : ∀ w, Does Try.prog 73 [str s] w (RetX w (fun ad => .tuple #[.pointer (some ad), str []]) fun ad w' => Above w.heap.size EFm w' (.pointer (some ad)) f) := fun w =>
    (readPart_ok _ s w (by unfold lim; omega) (Nat.le_refl _)).mono fun v w' ⟨e, h⟩ => by
      rw [hp] at h
      obtain ⟨u, hv, hu⟩ := h
      obtain ⟨ad, rfl⟩ := hu.here.ptr
      exact ⟨e, ad, hv, hu⟩
  clear hp hs
  refine fn_of_W1 Try.func50 rfl Try.results50 Try.ntmps50 rfl ?_
  focus
    refine W_seq ?_; refine W_region rfl ?_; refine Wo rfl (opv_assign (v := .pointer _) rfl) ?_; refine Wo_nil ?_; refine W_seq ?_; refine W_seq ?_; refine W_region rfl ?_; refine Wo rfl (opv_move (v := .string _) rfl) ?_
    refine Wo rfl (opv_len_str Try.underlying9 rfl) ?_; refine Wo rfl (opv_gtr rfl rfl) ?_; refine Wo_nil ?_; refine W_cond_dec rfl (fun h1 => ?_) (fun h1 => ?_); (exfalso; omega); refine W_skip ?_; refine W_seq ?_
    refine W_region rfl ?_; refine Wo rfl (opv_move (v := .string _) rfl) ?_; refine Wo_call rfl (opc1 (a := .string _) Try.call73 rfl) (ih2 _) ?_; rintro _ w1 ⟨E1, y1, rfl, hy1⟩; have hs1 := E1.size
    refine Wo rfl (opv_move (v := .tuple _) rfl) ?_; refine Wo rfl (opv_extract (v := .pointer _) rfl rfl) ?_; refine Wo rfl (opv_extract (v := .string _) rfl rfl) ?_; refine Wo rfl (opv_assign (v := .pointer _) rfl) ?_
    refine Wo rfl (opv_assign (v := .string _) rfl) ?_; refine Wo_nil ?_; refine W_seq ?_; refine W_seq ?_; refine W_region rfl ?_; refine Wo rfl (opv_move (v := .string _) rfl) ?_; refine Wo rfl (opv_neq_str rfl rfl) ?_
    refine Wo_nil ?_; refine W_cond_ndec rfl (fun h2 => ?_) (fun h2 => ?_); contradiction; refine W_skip ?_; refine W_seq ?_; refine W_region rfl ?_; refine Wo rfl (opv_move (v := .pointer _) rfl) ?_
    refine Wo rfl (opv_assign (v := .pointer _) rfl) ?_; refine Wo_nil ?_; refine W_ret ?_; refine at_ret (v := .pointer _) rfl ?_; refine ⟨E1, _, rfl, ?_⟩; (try dsimp only)
  exact hy1

theorem readFormula_none (s : List UInt8) (w : World) (hl : s.length ≤ lim) (h : theF s = none) : Does Try.prog 50 [str s] w (Ret w (.pointer none)) := by
  unfold lim at hl
  by_cases h60 : 60 < s.length
  · refine fn_of_W1 Try.func50 rfl Try.results50 Try.ntmps50 rfl ?_
    focus
      refine W_seq ?_; refine W_region rfl ?_; refine Wo rfl (opv_assign (v := .pointer _) rfl) ?_; refine Wo_nil ?_; refine W_seq ?_; refine W_seq ?_; refine W_region rfl ?_; refine Wo rfl (opv_move (v := .string _) rfl) ?_
      refine Wo rfl (opv_len_str Try.underlying9 rfl) ?_; refine Wo rfl (opv_gtr rfl rfl) ?_; refine Wo_nil ?_; refine W_cond_dec rfl (fun h1 => ?_) (fun h1 => ?_); refine W_seq ?_; refine W_region rfl ?_
      refine Wo rfl (opv_assign (v := .pointer _) rfl) ?_; refine Wo_nil ?_; refine W_ret ?_; exact ⟨rfl, (Ext.refl _)⟩; (exfalso; omega)
  cases hp : pre s with
  | none =>
    have ih2 : ∀ w, Does Try.prog 73 [str s] w (Ret w (.tuple #[.pointer none, str s])) := fun w =>
      (readPart_ok _ s w (by unfold lim; omega) (Nat.le_refl _)).mono fun v w' ⟨e, h⟩ => ⟨by rw [hp] at h; exact h, e⟩
    clear hp h
    refine fn_of_W1 Try.func50 rfl Try.results50 Try.ntmps50 rfl ?_
    focus
      refine W_seq ?_; refine W_region rfl ?_; refine Wo rfl (opv_assign (v := .pointer _) rfl) ?_; refine Wo_nil ?_; refine W_seq ?_; refine W_seq ?_; refine W_region rfl ?_; refine Wo rfl (opv_move (v := .string _) rfl) ?_
      refine Wo rfl (opv_len_str Try.underlying9 rfl) ?_; refine Wo rfl (opv_gtr rfl rfl) ?_; refine Wo_nil ?_; refine W_cond_dec rfl (fun h1 => ?_) (fun h1 => ?_); (exfalso; omega); refine W_skip ?_; refine W_seq ?_
      refine W_region rfl ?_; refine Wo rfl (opv_move (v := .string _) rfl) ?_; refine Wo_call rfl (opc1 (a := .string _) Try.call73 rfl) (ih2 _) ?_; rintro _ w1 ⟨rfl, E1⟩; have hs1 := E1.size
      refine Wo rfl (opv_move (v := .tuple _) rfl) ?_; refine Wo rfl (opv_extract (v := .pointer _) rfl rfl) ?_; refine Wo rfl (opv_extract (v := .string _) rfl rfl) ?_; refine Wo rfl (opv_assign (v := .pointer _) rfl) ?_
      refine Wo rfl (opv_assign (v := .string _) rfl) ?_; refine Wo_nil ?_; refine W_seq ?_; refine W_seq ?_; refine W_region rfl ?_; refine Wo rfl (opv_move (v := .string _) rfl) ?_; refine Wo rfl (opv_neq_str rfl rfl) ?_
      refine Wo_nil ?_; refine W_cond_ndec rfl (fun h2 => ?_) (fun h2 => ?_); refine W_seq ?_; refine W_region rfl ?_; refine Wo rfl (opv_assign (v := .pointer _) rfl) ?_; refine Wo_nil ?_; refine W_ret ?_; exact ⟨rfl, E1⟩
      refine W_skip ?_; refine W_seq ?_; refine W_region rfl ?_; refine Wo rfl (opv_move (v := .pointer _) rfl) ?_; refine Wo rfl (opv_assign (v := .pointer _) rfl) ?_; refine Wo_nil ?_; refine W_ret ?_; exact ⟨rfl, E1⟩
  | some q =>
    obtain ⟨f, r1⟩ := q
    have ih2 : ∀ w, Does Try.prog 73 [str s] w (RetX w (fun ad => .tuple #[.pointer (some ad), str r1]) fun ad w' => Above w.heap.size EFm w' (.pointer (some ad)) f) := fun w =>
      (readPart_ok _ s w (by unfold lim; omega) (Nat.le_refl _)).mono fun v w' ⟨e, h⟩ => by
        rw [hp] at h
        obtain ⟨u, hv, hu⟩ := h
        obtain ⟨ad, rfl⟩ := hu.here.ptr
        exact ⟨e, ad, hv, hu⟩
    have hr : r1 ≠ [] := by
      rintro rfl
      have := pre_some hp
      rw [theF_some.2 ⟨by simpa using this, by omega⟩] at h
      cases h
    clear hp h
    refine fn_of_W1 Try.func50 rfl Try.results50 Try.ntmps50 rfl ?_
    focus
      refine W_seq ?_; refine W_region rfl ?_; refine Wo rfl (opv_assign (v := .pointer _) rfl) ?_; refine Wo_nil ?_; refine W_seq ?_; refine W_seq ?_; refine W_region rfl ?_; refine Wo rfl (opv_move (v := .string _) rfl) ?_
      refine Wo rfl (opv_len_str Try.underlying9 rfl) ?_; refine Wo rfl (opv_gtr rfl rfl) ?_; refine Wo_nil ?_; refine W_cond_dec rfl (fun h1 => ?_) (fun h1 => ?_); (exfalso; omega); refine W_skip ?_; refine W_seq ?_
      refine W_region rfl ?_; refine Wo rfl (opv_move (v := .string _) rfl) ?_; refine Wo_call rfl (opc1 (a := .string _) Try.call73 rfl) (ih2 _) ?_; rintro _ w1 ⟨E1, y1, rfl, hy1⟩; have hs1 := E1.size
      refine Wo rfl (opv_move (v := .tuple _) rfl) ?_; refine Wo rfl (opv_extract (v := .pointer _) rfl rfl) ?_; refine Wo rfl (opv_extract (v := .string _) rfl rfl) ?_; refine Wo rfl (opv_assign (v := .pointer _) rfl) ?_
      refine Wo rfl (opv_assign (v := .string _) rfl) ?_; refine Wo_nil ?_; refine W_seq ?_; refine W_seq ?_; refine W_region rfl ?_; refine Wo rfl (opv_move (v := .string _) rfl) ?_; refine Wo rfl (opv_neq_str rfl rfl) ?_
      refine Wo_nil ?_; refine W_cond_ndec rfl (fun h2 => ?_) (fun h2 => ?_); refine W_seq ?_; refine W_region rfl ?_; refine Wo rfl (opv_assign (v := .pointer _) rfl) ?_; refine Wo_nil ?_; refine W_ret ?_; exact ⟨rfl, E1⟩; contradiction

/-- Whether a text is a formula. -/
noncomputable def okF (s : List UInt8) : Bool := (theF s).isSome


theorem impl_FormulaOk_ok (s : List UInt8) (w : World) (hl : s.length ≤ lim) : Does Try.prog 16 [str s] w (Ret w (.bool (okF s))) := by
  cases h : theF s with
  | none =>
    have e : okF s = false := by rw [okF, h]; rfl
    rw [e]
    refine fn_of_W1 Try.func16 rfl Try.results16 Try.ntmps16 rfl ?_
    focus
      refine W_seq ?_; refine W_region rfl ?_; refine Wo rfl (opv_assign (v := .bool _) rfl) ?_; refine Wo_nil ?_; refine W_seq ?_; refine W_region rfl ?_; refine Wo rfl (opv_move (v := .string _) rfl) ?_
      refine Wo_call rfl (opc1 (a := .string _) Try.call50 rfl) (readFormula_none _ _ (by assumption) (by assumption)) ?_; rintro _ w1 ⟨rfl, E1⟩; have hs1 := E1.size; refine Wo rfl (opv_neq_nil Try.underlying57 rfl rfl) ?_
      refine Wo rfl (opv_assign (v := .bool _) rfl) ?_; refine Wo_nil ?_; refine W_ret ?_; exact ⟨rfl, E1⟩
  | some f =>
    have e : okF s = true := by rw [okF, h]; rfl
    rw [e]
    refine fn_of_W1 Try.func16 rfl Try.results16 Try.ntmps16 rfl ?_
    focus
      refine W_seq ?_; refine W_region rfl ?_; refine Wo rfl (opv_assign (v := .bool _) rfl) ?_; refine Wo_nil ?_; refine W_seq ?_; refine W_region rfl ?_; refine Wo rfl (opv_move (v := .string _) rfl) ?_
      refine Wo_call rfl (opc1 (a := .string _) Try.call50 rfl) (readFormula_some _ _ _ (by assumption)) ?_; rintro _ w1 ⟨E1, y1, rfl, hy1⟩; have hs1 := E1.size; refine Wo rfl (opv_neq_some Try.underlying57 rfl rfl) ?_
      refine Wo rfl (opv_assign (v := .bool _) rfl) ?_; refine Wo_nil ?_; refine W_ret ?_; exact ⟨rfl, E1⟩


theorem l10End_ok' (s : List UInt8) (w : World) (hl : s.length ≤ lim) : Does Try.prog 49 [str s, .int .i64 0] w (Ret w (.int .i64 (endV s s.length))) :=
  l10End_ok _ s 0 w hl (Nat.le_refl _)
theorem spec_FormulaOk_ok (s : List UInt8) (w : World) (hl : s.length ≤ lim) : Does Try.prog 15 [str s] w (Ret w (.bool (okF s))) := by
  have hl' := hl
  unfold lim at hl'
  have key : (s.length ≤ 60 → 0 < s.length → (endV s s.length = (s.length : Int) ↔ okF s = true)) ∧ (60 < s.length → okF s = false) ∧ (s.length = 0 → okF s = false) := by
    refine ⟨fun h60 h0 => ?_, fun h => by rw [okF, theF_long h]; rfl, fun h => ?_⟩
    · cases hp : pre s with
      | none =>
        have : theF s = none := by unfold theF; rw [if_pos h60, hp]
        rw [endV, hp, okF, this]
        simp
      | some q =>
        obtain ⟨f, r⟩ := q
        have hs := pre_some hp
        have hlen := congrArg List.length hs
        simp only [List.length_append] at hlen
        have hf := f.enc_pos
        cases r with
        | nil =>
          have : theF s = some f := theF_some.2 ⟨by simpa using hs, h60⟩
          rw [endV, hp, okF, this]
          simp
        | cons c r =>
          have : theF s = none := by unfold theF; rw [if_pos h60, hp]
          rw [endV, hp, okF, this]
          simp only [List.length_cons] at hlen ⊢
          simp
          omega
    · have : s = [] := List.eq_nil_of_length_eq_zero h
      subst this
      have : theF [] = none := by unfold theF; rw [pre_nil]; rfl
      rw [okF, this]; rfl
  obtain ⟨k1, k2, k3⟩ := key
  refine fn_of_W1 Try.func15 rfl Try.results15 Try.ntmps15 rfl ?_
  focus
    refine W_seq ?_; refine W_region rfl ?_; refine Wo rfl (opv_assign (v := .bool _) rfl) ?_; refine Wo_nil ?_; refine W_seq ?_; refine W_region rfl ?_; refine Wo rfl (opv_move (v := .string _) rfl) ?_
    refine Wo rfl (opv_len_str Try.underlying9 rfl) ?_; refine Wo rfl (opv_leq rfl rfl) ?_; refine Wo_split_dec rfl (opv_move (v := .bool _) rfl) (fun h1 => ?_) (fun h1 => ?_); refine Wo rfl (opv_move (v := .string _) rfl) ?_
    refine Wo rfl (opv_len_str Try.underlying9 rfl) ?_; refine Wo rfl (opv_gtr rfl rfl) ?_; refine Wo rfl (opv_pick_t (v := .bool _) rfl rfl) ?_; refine Wo_split_dec rfl (opv_move (v := .bool _) rfl) (fun h2 => ?_) (fun h2 => ?_)
    refine Wo rfl (opv_move (v := .string _) rfl) ?_; refine Wo_call rfl (opc2 (a := .string _) (b := .int _ _) Try.call49 rfl rfl) (l10End_ok' _ _ (by assumption)) ?_; rintro _ w1 ⟨rfl, E1⟩; have hs1 := E1.size
    refine Wo rfl (opv_move (v := .string _) rfl) ?_; refine Wo rfl (opv_len_str Try.underlying9 rfl) ?_; refine Wo rfl (opv_eql rfl rfl) ?_; refine Wo rfl (opv_pick_t (v := .bool _) rfl rfl) ?_
    refine Wo rfl (opv_assign (v := .bool _) rfl) ?_; refine Wo_nil ?_; refine W_ret ?_; refine at_ret (v := .bool _) rfl ?_; refine ⟨congrArg Value.bool ?_, E1⟩; rotate_left; refine Wo_skip rfl ?_; refine Wo_skip rfl ?_
    refine Wo_skip rfl ?_; refine Wo_skip rfl ?_; refine Wo_skip rfl ?_; refine Wo rfl (opv_pick_f (v := .bool _) rfl rfl) ?_; refine Wo rfl (opv_assign (v := .bool _) rfl) ?_; refine Wo_nil ?_; refine W_ret ?_
    refine at_ret (v := .bool _) rfl ?_; refine ⟨congrArg Value.bool ?_, (Ext.refl _)⟩; rotate_left; refine Wo_skip rfl ?_; refine Wo_skip rfl ?_; refine Wo_skip rfl ?_; refine Wo rfl (opv_pick_f (v := .bool _) rfl rfl) ?_
    refine Wo rfl (opv_move (v := .bool _) rfl) ?_; refine Wo_skip rfl ?_; refine Wo_skip rfl ?_; refine Wo_skip rfl ?_; refine Wo_skip rfl ?_; refine Wo_skip rfl ?_; refine Wo rfl (opv_pick_f (v := .bool _) rfl rfl) ?_
    refine Wo rfl (opv_assign (v := .bool _) rfl) ?_; refine Wo_nil ?_; refine W_ret ?_; refine at_ret (v := .bool _) rfl ?_; refine ⟨congrArg Value.bool ?_, (Ext.refl _)⟩; rotate_left
  · rw [Bool.eq_iff_iff, decide_eq_true_iff]; exact k1 (by omega) (by omega)
  · exact (k3 (by omega)).symm
  · exact (k2 (by omega)).symm
end Go.Proofs.Ytjdfnngmbaojjaa
