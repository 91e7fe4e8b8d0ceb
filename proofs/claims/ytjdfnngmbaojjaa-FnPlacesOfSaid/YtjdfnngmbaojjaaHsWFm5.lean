/- Walks: OppositeOf on both sides; the laws FnExactFormulaDeep, FnExactOppositeOf. -/
import Derived.Test.YtjdfnngmbaojjaaHsWFm4
namespace Go.Proofs.Ytjdfnngmbaojjaa
open Go.Hs
set_option maxRecDepth 10000
set_option maxHeartbeats 4000000
set_option linter.unusedVariables false

def oppP (f : Fm) : List UInt8 × Bool := if f.opp.enc.length ≤ 60 then (f.opp.enc, true) else ([], false)
noncomputable def oppV (s : List UInt8) : List UInt8 × Bool := match theF s with
  | some f => oppP f
  | none => ([], false)


theorem impl_OppositeOf_ok (s : List UInt8) (w : World) (hl : s.length ≤ lim) : Does Try.prog 22 [str s] w (Ret w (.tuple #[str (oppV s).1, .bool (oppV s).2])) := by
  cases h : theF s with
  | none =>
    have e : oppV s = ([], false) := by unfold oppV; rw [h]
    rw [e]
    refine fn_of_W2 Try.func22 rfl Try.results22 Try.ntmps22 rfl ?_
    focus
      refine W_seq ?_; refine W_region rfl ?_; refine Wo rfl (opv_assign (v := .string _) rfl) ?_; refine Wo rfl (opv_assign (v := .bool _) rfl) ?_; refine Wo_nil ?_; refine W_seq ?_; refine W_region rfl ?_
      refine Wo rfl (opv_move (v := .string _) rfl) ?_; refine Wo_call rfl (opc1 (a := .string _) Try.call50 rfl) (readFormula_none _ _ (by assumption) (by assumption)) ?_; rintro _ w1 ⟨rfl, E1⟩; have hs1 := E1.size
      refine Wo rfl (opv_assign (v := .pointer _) rfl) ?_; refine Wo_nil ?_; refine W_seq ?_; refine W_seq ?_; refine W_region rfl ?_; refine Wo rfl (opv_move (v := .pointer _) rfl) ?_
      refine Wo rfl (opv_eql_nil Try.underlying57 rfl rfl) ?_; refine Wo_nil ?_; refine W_cond_true rfl ?_; refine W_seq ?_; refine W_region rfl ?_; refine Wo rfl (opv_assign (v := .string _) rfl) ?_
      refine Wo rfl (opv_assign (v := .bool _) rfl) ?_; refine Wo_nil ?_; refine W_ret ?_; exact ⟨rfl, E1⟩
  | some f =>
    have e : oppV s = oppP f := by unfold oppV; rw [h]
    have hf := theF_some.1 h
    have hd : ∀ (w : World) (v : Value), EFm w v f → Does Try.prog 55 [v] w (Ret w (str f.opp.enc)) := fun w v hv => opposite_ok f w v hv (by rw [← hf.1]; omega)
    rw [e]
    by_cases h60 : f.opp.enc.length ≤ 60
    · have e2 : oppP f = (f.opp.enc, true) := if_pos h60
      rw [e2]
      refine fn_of_W2 Try.func22 rfl Try.results22 Try.ntmps22 rfl ?_
      focus
        refine W_seq ?_; refine W_region rfl ?_; refine Wo rfl (opv_assign (v := .string _) rfl) ?_; refine Wo rfl (opv_assign (v := .bool _) rfl) ?_; refine Wo_nil ?_; refine W_seq ?_; refine W_region rfl ?_
        refine Wo rfl (opv_move (v := .string _) rfl) ?_; refine Wo_call rfl (opc1 (a := .string _) Try.call50 rfl) (readFormula_some _ _ _ (by assumption)) ?_; rintro _ w1 ⟨E1, y1, rfl, hy1⟩; have hs1 := E1.size
        refine Wo rfl (opv_assign (v := .pointer _) rfl) ?_; refine Wo_nil ?_; refine W_seq ?_; refine W_seq ?_; refine W_region rfl ?_; refine Wo rfl (opv_move (v := .pointer _) rfl) ?_
        refine Wo rfl (opv_eql_some Try.underlying57 rfl rfl) ?_; refine Wo_nil ?_; refine W_cond_false rfl ?_; refine W_skip ?_; refine W_seq ?_; refine W_region rfl ?_; refine Wo rfl (opv_move (v := .pointer _) rfl) ?_
        refine Wo_call rfl (opc1 (a := .pointer _) Try.call55 rfl) (hd _ _ ((Above.here hy1))) ?_; rintro _ w2 ⟨rfl, E2⟩; have hs2 := E2.size; refine Wo rfl (opv_assign (v := .string _) rfl) ?_; refine Wo_nil ?_; refine W_seq ?_
        refine W_seq ?_; refine W_region rfl ?_; refine Wo rfl (opv_move (v := .string _) rfl) ?_; refine Wo rfl (opv_len_str Try.underlying9 rfl) ?_; refine Wo rfl (opv_gtr rfl rfl) ?_; refine Wo_nil ?_
        refine W_cond_dec rfl (fun h1 => ?_) (fun h1 => ?_); (exfalso; omega); refine W_skip ?_; refine W_seq ?_; refine W_region rfl ?_; refine Wo rfl (opv_move (v := .string _) rfl) ?_; refine Wo rfl (opv_assign (v := .string _) rfl) ?_
        refine Wo rfl (opv_assign (v := .bool _) rfl) ?_; refine Wo_nil ?_; refine W_ret ?_; exact ⟨rfl, (E1.trans E2)⟩
    · have e2 : oppP f = ([], false) := if_neg h60
      rw [e2]
      refine fn_of_W2 Try.func22 rfl Try.results22 Try.ntmps22 rfl ?_
      focus
        refine W_seq ?_; refine W_region rfl ?_; refine Wo rfl (opv_assign (v := .string _) rfl) ?_; refine Wo rfl (opv_assign (v := .bool _) rfl) ?_; refine Wo_nil ?_; refine W_seq ?_; refine W_region rfl ?_
        refine Wo rfl (opv_move (v := .string _) rfl) ?_; refine Wo_call rfl (opc1 (a := .string _) Try.call50 rfl) (readFormula_some _ _ _ (by assumption)) ?_; rintro _ w1 ⟨E1, y1, rfl, hy1⟩; have hs1 := E1.size
        refine Wo rfl (opv_assign (v := .pointer _) rfl) ?_; refine Wo_nil ?_; refine W_seq ?_; refine W_seq ?_; refine W_region rfl ?_; refine Wo rfl (opv_move (v := .pointer _) rfl) ?_
        refine Wo rfl (opv_eql_some Try.underlying57 rfl rfl) ?_; refine Wo_nil ?_; refine W_cond_false rfl ?_; refine W_skip ?_; refine W_seq ?_; refine W_region rfl ?_; refine Wo rfl (opv_move (v := .pointer _) rfl) ?_
        refine Wo_call rfl (opc1 (a := .pointer _) Try.call55 rfl) (hd _ _ ((Above.here hy1))) ?_; rintro _ w2 ⟨rfl, E2⟩; have hs2 := E2.size; refine Wo rfl (opv_assign (v := .string _) rfl) ?_; refine Wo_nil ?_; refine W_seq ?_
        refine W_seq ?_; refine W_region rfl ?_; refine Wo rfl (opv_move (v := .string _) rfl) ?_; refine Wo rfl (opv_len_str Try.underlying9 rfl) ?_; refine Wo rfl (opv_gtr rfl rfl) ?_; refine Wo_nil ?_
        refine W_cond_dec rfl (fun h1 => ?_) (fun h1 => ?_); refine W_seq ?_; refine W_region rfl ?_; refine Wo rfl (opv_assign (v := .string _) rfl) ?_; refine Wo rfl (opv_assign (v := .bool _) rfl) ?_; refine Wo_nil ?_; refine W_ret ?_
        exact ⟨rfl, (E1.trans E2)⟩; (exfalso; omega)


theorem spec_OppositeOf_ok1 : ∀ (f : Fm), f.enc.length ≤ 60 → ∀ w : World, Does Try.prog 21 [str f.enc] w (Ret w (.tuple #[str (oppP f).1, .bool (oppP f).2])) := by
  have hok : ∀ (f : Fm), f.enc.length ≤ 60 → ∀ w : World, Does Try.prog 15 [str f.enc] w (Ret w (.bool true)) := fun f h w => by
    have := spec_FormulaOk_ok f.enc w (by unfold lim; omega)
    rw [okF_enc h] at this
    exact this
  have hno : ∀ (f : Fm), 60 < f.enc.length → f.enc.length ≤ 1000 → ∀ w : World, Does Try.prog 15 [str f.enc] w (Ret w (.bool false)) := fun f h h' w => by
    have := spec_FormulaOk_ok f.enc w (by unfold lim; omega)
    rw [okF, theF_long h] at this
    exact this
  have un : ∀ (f g : Fm) (c d : UInt8), f.enc = c :: g.enc → f.opp.enc = d :: g.opp.enc → (c = 83 ∧ d = 65 ∨ c = 65 ∧ d = 83) →
      (g.enc.length ≤ 60 → ∀ w : World, Does Try.prog 21 [str g.enc] w (Ret w (.tuple #[str (oppP g).1, .bool (oppP g).2]))) →
      f.enc.length ≤ 60 → ∀ w : World, Does Try.prog 21 [str f.enc] w (Ret w (.tuple #[str (oppP f).1, .bool (oppP f).2])) := by
    intro f g c d he ho hcd ih h60 w
    have hs := hok f h60
    have hlen : f.enc.length = g.enc.length + 1 := by rw [he]; rfl
    have hol : f.opp.enc.length = g.opp.enc.length + 1 := by rw [ho]; rfl
    have hb := opp_len g
    have hn : (f.enc.getD 0 0).toNat = c.toNat := by rw [he]; rfl
    have e1 : f.enc.drop 1 = g.enc := by rw [he]; rfl
    have i1 : ∀ w, Does Try.prog 21 [str (f.enc.drop 1)] w (Ret w (.tuple #[str (oppP g).1, .bool (oppP g).2])) := fun w => by rw [e1]; exact ih (by omega) w
    have h1 : (c.toNat = 83 ∧ d = 65) ∨ (c.toNat = 65 ∧ d = 83) := by rcases hcd with ⟨rfl, rfl⟩ | ⟨rfl, rfl⟩ <;> simp
    have hfo := hok f.opp
    have hfn := hno f.opp
    rw [ho] at hfo hfn
    clear ih e1 hok hno hcd
    by_cases hg : g.opp.enc.length ≤ 60
    · have eg : oppP g = (g.opp.enc, true) := if_pos hg
      rw [eg] at i1
      by_cases hf : f.opp.enc.length ≤ 60
      · have ef : oppP f = (d :: g.opp.enc, true) := by rw [← ho]; exact if_pos hf
        rw [ef]
        have hfo' := hfo (by rw [← ho]; exact hf)
        clear hfn eg ef he ho hfo
        rcases h1 with ⟨hc, rfl⟩ | ⟨hc, rfl⟩
        · refine fn_of_W2 Try.func21 rfl Try.results21 Try.ntmps21 rfl ?_
          focus
            refine W_seq ?_; refine W_region rfl ?_; refine Wo rfl (opv_assign (v := .string _) rfl) ?_; refine Wo rfl (opv_assign (v := .bool _) rfl) ?_; refine Wo_nil ?_; refine W_seq ?_; refine W_seq ?_; refine W_region rfl ?_
            refine Wo rfl (opv_move (v := .string _) rfl) ?_; refine Wo_call rfl (opc1 (a := .string _) Try.call15 rfl) (hs _) ?_; rintro _ w1 ⟨rfl, E1⟩; have hs1 := E1.size; refine Wo rfl (opv_not rfl) ?_; refine Wo_nil ?_
            refine W_cond rfl (fun h1 => ?_) (fun h1 => ?_); contradiction; refine W_skip ?_; refine W_seq ?_; refine W_region rfl ?_; refine Wo rfl (opv_assign (v := .string _) rfl) ?_; refine Wo_nil ?_; refine W_seq ?_; refine W_seq ?_
            refine W_region rfl ?_; refine Wo rfl (opv_move (v := .string _) rfl) ?_; refine Wo rfl (opv_index_str (k := 0) Try.underlying9 rfl rfl (by omega)) ?_; refine Wo_nil ?_; refine W_block ?_; refine W_seq ?_; refine W_region rfl ?_
            refine Wo rfl (opv_eql rfl rfl) ?_; refine Wo rfl (opv_assign (v := .bool _) rfl) ?_; refine Wo_nil ?_; refine W_cond_dec rfl (fun h2 => ?_) (fun h2 => ?_); (exfalso; omega); refine W_seq ?_; refine W_region rfl ?_
            refine Wo rfl (opv_eql rfl rfl) ?_; refine Wo rfl (opv_assign (v := .bool _) rfl) ?_; refine Wo_nil ?_; refine W_cond_dec rfl (fun h3 => ?_) (fun h3 => ?_); (exfalso; omega); refine W_seq ?_; refine W_seq ?_; refine W_region rfl ?_
            refine Wo rfl (opv_eql rfl rfl) ?_; refine Wo rfl (opv_assign (v := .bool _) rfl) ?_; refine Wo_nil ?_; refine W_cond_dec rfl (fun h4 => ?_) (fun h4 => ?_); refine W_skip ?_; refine W_cond_dec rfl (fun h5 => ?_) (fun h5 => ?_)
            refine W_seq ?_; refine W_region rfl ?_; refine Wo rfl (opv_move (v := .string _) rfl) ?_; refine Wo rfl (opv_slice_str_lo (l := 1) Try.underlying9 rfl rfl (by omega)) ?_
            refine Wo_call rfl (opc1 (a := .string _) Try.call21 rfl) (i1 _) ?_; rintro _ w2 ⟨rfl, E2⟩; have hs2 := E2.size; refine Wo rfl (opv_move (v := .tuple _) rfl) ?_; refine Wo rfl (opv_extract (v := .string _) rfl rfl) ?_
            refine Wo rfl (opv_extract (v := .bool _) rfl rfl) ?_; refine Wo rfl (opv_assign (v := .string _) rfl) ?_; refine Wo rfl (opv_assign (v := .bool _) rfl) ?_; refine Wo_nil ?_; refine W_seq ?_; refine W_seq ?_; refine W_region rfl ?_
            refine Wo rfl (opv_move (v := .bool _) rfl) ?_; refine Wo rfl (opv_not rfl) ?_; refine Wo_nil ?_; refine W_cond rfl (fun h6 => ?_) (fun h6 => ?_); contradiction; refine W_skip ?_; refine W_seq ?_; refine W_region rfl ?_
            refine Wo rfl (opv_move (v := .string _) rfl) ?_; refine Wo rfl (opv_add_str rfl rfl (by simp <;> omega)) ?_; refine Wo rfl (opv_assign (v := .string _) rfl) ?_; refine Wo_nil ?_; refine W_seq ?_; refine W_region rfl ?_
            refine Wo rfl (opv_move (v := .string _) rfl) ?_; refine Wo rfl (opv_index_str (k := 0) Try.underlying9 rfl rfl (by omega)) ?_; refine Wo rfl (opv_eql rfl rfl) ?_; refine Wo_nil ?_
            refine W_cond_dec rfl (fun h7 => ?_) (fun h7 => ?_); (exfalso; omega); refine W_skip ?_; refine W_seq ?_; refine W_seq ?_; refine W_region rfl ?_; refine Wo rfl (opv_move (v := .string _) rfl) ?_
            refine Wo_call rfl (opc1 (a := .string _) Try.call15 rfl) (hfo' _) ?_; rintro _ w3 ⟨rfl, E3⟩; have hs3 := E3.size; refine Wo rfl (opv_not rfl) ?_; refine Wo_nil ?_; refine W_cond rfl (fun h8 => ?_) (fun h8 => ?_); contradiction
            refine W_skip ?_; refine W_seq ?_; refine W_region rfl ?_; refine Wo rfl (opv_move (v := .string _) rfl) ?_; refine Wo rfl (opv_assign (v := .string _) rfl) ?_; refine Wo rfl (opv_assign (v := .bool _) rfl) ?_; refine Wo_nil ?_
            refine W_ret ?_; exact ⟨rfl, ((E1.trans E2).trans E3)⟩; contradiction; (exfalso; omega)
        · refine fn_of_W2 Try.func21 rfl Try.results21 Try.ntmps21 rfl ?_
          focus
            refine W_seq ?_; refine W_region rfl ?_; refine Wo rfl (opv_assign (v := .string _) rfl) ?_; refine Wo rfl (opv_assign (v := .bool _) rfl) ?_; refine Wo_nil ?_; refine W_seq ?_; refine W_seq ?_; refine W_region rfl ?_
            refine Wo rfl (opv_move (v := .string _) rfl) ?_; refine Wo_call rfl (opc1 (a := .string _) Try.call15 rfl) (hs _) ?_; rintro _ w1 ⟨rfl, E1⟩; have hs1 := E1.size; refine Wo rfl (opv_not rfl) ?_; refine Wo_nil ?_
            refine W_cond rfl (fun h1 => ?_) (fun h1 => ?_); contradiction; refine W_skip ?_; refine W_seq ?_; refine W_region rfl ?_; refine Wo rfl (opv_assign (v := .string _) rfl) ?_; refine Wo_nil ?_; refine W_seq ?_; refine W_seq ?_
            refine W_region rfl ?_; refine Wo rfl (opv_move (v := .string _) rfl) ?_; refine Wo rfl (opv_index_str (k := 0) Try.underlying9 rfl rfl (by omega)) ?_; refine Wo_nil ?_; refine W_block ?_; refine W_seq ?_; refine W_region rfl ?_
            refine Wo rfl (opv_eql rfl rfl) ?_; refine Wo rfl (opv_assign (v := .bool _) rfl) ?_; refine Wo_nil ?_; refine W_cond_dec rfl (fun h2 => ?_) (fun h2 => ?_); (exfalso; omega); refine W_seq ?_; refine W_region rfl ?_
            refine Wo rfl (opv_eql rfl rfl) ?_; refine Wo rfl (opv_assign (v := .bool _) rfl) ?_; refine Wo_nil ?_; refine W_cond_dec rfl (fun h3 => ?_) (fun h3 => ?_); (exfalso; omega); refine W_seq ?_; refine W_seq ?_; refine W_region rfl ?_
            refine Wo rfl (opv_eql rfl rfl) ?_; refine Wo rfl (opv_assign (v := .bool _) rfl) ?_; refine Wo_nil ?_; refine W_cond_dec rfl (fun h4 => ?_) (fun h4 => ?_); (exfalso; omega); refine W_region rfl ?_
            refine Wo rfl (opv_eql rfl rfl) ?_; refine Wo rfl (opv_assign (v := .bool _) rfl) ?_; refine Wo_nil ?_; refine W_cond_dec rfl (fun h5 => ?_) (fun h5 => ?_); refine W_seq ?_; refine W_region rfl ?_
            refine Wo rfl (opv_move (v := .string _) rfl) ?_; refine Wo rfl (opv_slice_str_lo (l := 1) Try.underlying9 rfl rfl (by omega)) ?_; refine Wo_call rfl (opc1 (a := .string _) Try.call21 rfl) (i1 _) ?_; rintro _ w2 ⟨rfl, E2⟩
            have hs2 := E2.size; refine Wo rfl (opv_move (v := .tuple _) rfl) ?_; refine Wo rfl (opv_extract (v := .string _) rfl rfl) ?_; refine Wo rfl (opv_extract (v := .bool _) rfl rfl) ?_; refine Wo rfl (opv_assign (v := .string _) rfl) ?_
            refine Wo rfl (opv_assign (v := .bool _) rfl) ?_; refine Wo_nil ?_; refine W_seq ?_; refine W_seq ?_; refine W_region rfl ?_; refine Wo rfl (opv_move (v := .bool _) rfl) ?_; refine Wo rfl (opv_not rfl) ?_; refine Wo_nil ?_
            refine W_cond rfl (fun h6 => ?_) (fun h6 => ?_); contradiction; refine W_skip ?_; refine W_seq ?_; refine W_region rfl ?_; refine Wo rfl (opv_move (v := .string _) rfl) ?_; refine Wo rfl (opv_add_str rfl rfl (by simp <;> omega)) ?_
            refine Wo rfl (opv_assign (v := .string _) rfl) ?_; refine Wo_nil ?_; refine W_seq ?_; refine W_region rfl ?_; refine Wo rfl (opv_move (v := .string _) rfl) ?_
            refine Wo rfl (opv_index_str (k := 0) Try.underlying9 rfl rfl (by omega)) ?_; refine Wo rfl (opv_eql rfl rfl) ?_; refine Wo_nil ?_; refine W_cond_dec rfl (fun h7 => ?_) (fun h7 => ?_); refine W_region rfl ?_
            refine Wo rfl (opv_move (v := .string _) rfl) ?_; refine Wo rfl (opv_add_str rfl rfl (by simp <;> omega)) ?_; refine Wo rfl (opv_assign (v := .string _) rfl) ?_; refine Wo_nil ?_; refine W_seq ?_; refine W_seq ?_
            refine W_region rfl ?_; refine Wo rfl (opv_move (v := .string _) rfl) ?_; refine Wo_call rfl (opc1 (a := .string _) Try.call15 rfl) (hfo' _) ?_; rintro _ w3 ⟨rfl, E3⟩; have hs3 := E3.size; refine Wo rfl (opv_not rfl) ?_
            refine Wo_nil ?_; refine W_cond rfl (fun h8 => ?_) (fun h8 => ?_); contradiction; refine W_skip ?_; refine W_seq ?_; refine W_region rfl ?_; refine Wo rfl (opv_move (v := .string _) rfl) ?_
            refine Wo rfl (opv_assign (v := .string _) rfl) ?_; refine Wo rfl (opv_assign (v := .bool _) rfl) ?_; refine Wo_nil ?_; refine W_ret ?_; exact ⟨rfl, ((E1.trans E2).trans E3)⟩; contradiction; (exfalso; omega)
      · have ef : oppP f = ([], false) := if_neg hf
        rw [ef]
        have hfo' := hfn (by simp only [List.length_cons]; omega) (by simp only [List.length_cons]; omega)
        clear hfn eg ef he ho hfo
        rcases h1 with ⟨hc, rfl⟩ | ⟨hc, rfl⟩
        · refine fn_of_W2 Try.func21 rfl Try.results21 Try.ntmps21 rfl ?_
          focus
            refine W_seq ?_; refine W_region rfl ?_; refine Wo rfl (opv_assign (v := .string _) rfl) ?_; refine Wo rfl (opv_assign (v := .bool _) rfl) ?_; refine Wo_nil ?_; refine W_seq ?_; refine W_seq ?_; refine W_region rfl ?_
            refine Wo rfl (opv_move (v := .string _) rfl) ?_; refine Wo_call rfl (opc1 (a := .string _) Try.call15 rfl) (hs _) ?_; rintro _ w1 ⟨rfl, E1⟩; have hs1 := E1.size; refine Wo rfl (opv_not rfl) ?_; refine Wo_nil ?_
            refine W_cond rfl (fun h1 => ?_) (fun h1 => ?_); contradiction; refine W_skip ?_; refine W_seq ?_; refine W_region rfl ?_; refine Wo rfl (opv_assign (v := .string _) rfl) ?_; refine Wo_nil ?_; refine W_seq ?_; refine W_seq ?_
            refine W_region rfl ?_; refine Wo rfl (opv_move (v := .string _) rfl) ?_; refine Wo rfl (opv_index_str (k := 0) Try.underlying9 rfl rfl (by omega)) ?_; refine Wo_nil ?_; refine W_block ?_; refine W_seq ?_; refine W_region rfl ?_
            refine Wo rfl (opv_eql rfl rfl) ?_; refine Wo rfl (opv_assign (v := .bool _) rfl) ?_; refine Wo_nil ?_; refine W_cond_dec rfl (fun h2 => ?_) (fun h2 => ?_); (exfalso; omega); refine W_seq ?_; refine W_region rfl ?_
            refine Wo rfl (opv_eql rfl rfl) ?_; refine Wo rfl (opv_assign (v := .bool _) rfl) ?_; refine Wo_nil ?_; refine W_cond_dec rfl (fun h3 => ?_) (fun h3 => ?_); (exfalso; omega); refine W_seq ?_; refine W_seq ?_; refine W_region rfl ?_
            refine Wo rfl (opv_eql rfl rfl) ?_; refine Wo rfl (opv_assign (v := .bool _) rfl) ?_; refine Wo_nil ?_; refine W_cond_dec rfl (fun h4 => ?_) (fun h4 => ?_); refine W_skip ?_; refine W_cond_dec rfl (fun h5 => ?_) (fun h5 => ?_)
            refine W_seq ?_; refine W_region rfl ?_; refine Wo rfl (opv_move (v := .string _) rfl) ?_; refine Wo rfl (opv_slice_str_lo (l := 1) Try.underlying9 rfl rfl (by omega)) ?_
            refine Wo_call rfl (opc1 (a := .string _) Try.call21 rfl) (i1 _) ?_; rintro _ w2 ⟨rfl, E2⟩; have hs2 := E2.size; refine Wo rfl (opv_move (v := .tuple _) rfl) ?_; refine Wo rfl (opv_extract (v := .string _) rfl rfl) ?_
            refine Wo rfl (opv_extract (v := .bool _) rfl rfl) ?_; refine Wo rfl (opv_assign (v := .string _) rfl) ?_; refine Wo rfl (opv_assign (v := .bool _) rfl) ?_; refine Wo_nil ?_; refine W_seq ?_; refine W_seq ?_; refine W_region rfl ?_
            refine Wo rfl (opv_move (v := .bool _) rfl) ?_; refine Wo rfl (opv_not rfl) ?_; refine Wo_nil ?_; refine W_cond rfl (fun h6 => ?_) (fun h6 => ?_); contradiction; refine W_skip ?_; refine W_seq ?_; refine W_region rfl ?_
            refine Wo rfl (opv_move (v := .string _) rfl) ?_; refine Wo rfl (opv_add_str rfl rfl (by simp <;> omega)) ?_; refine Wo rfl (opv_assign (v := .string _) rfl) ?_; refine Wo_nil ?_; refine W_seq ?_; refine W_region rfl ?_
            refine Wo rfl (opv_move (v := .string _) rfl) ?_; refine Wo rfl (opv_index_str (k := 0) Try.underlying9 rfl rfl (by omega)) ?_; refine Wo rfl (opv_eql rfl rfl) ?_; refine Wo_nil ?_
            refine W_cond_dec rfl (fun h7 => ?_) (fun h7 => ?_); (exfalso; omega); refine W_skip ?_; refine W_seq ?_; refine W_seq ?_; refine W_region rfl ?_; refine Wo rfl (opv_move (v := .string _) rfl) ?_
            refine Wo_call rfl (opc1 (a := .string _) Try.call15 rfl) (hfo' _) ?_; rintro _ w3 ⟨rfl, E3⟩; have hs3 := E3.size; refine Wo rfl (opv_not rfl) ?_; refine Wo_nil ?_; refine W_cond rfl (fun h8 => ?_) (fun h8 => ?_); refine W_seq ?_
            refine W_region rfl ?_; refine Wo rfl (opv_assign (v := .string _) rfl) ?_; refine Wo rfl (opv_assign (v := .bool _) rfl) ?_; refine Wo_nil ?_; refine W_ret ?_; exact ⟨rfl, ((E1.trans E2).trans E3)⟩; contradiction; contradiction
            (exfalso; omega)
        · refine fn_of_W2 Try.func21 rfl Try.results21 Try.ntmps21 rfl ?_
          focus
            refine W_seq ?_; refine W_region rfl ?_; refine Wo rfl (opv_assign (v := .string _) rfl) ?_; refine Wo rfl (opv_assign (v := .bool _) rfl) ?_; refine Wo_nil ?_; refine W_seq ?_; refine W_seq ?_; refine W_region rfl ?_
            refine Wo rfl (opv_move (v := .string _) rfl) ?_; refine Wo_call rfl (opc1 (a := .string _) Try.call15 rfl) (hs _) ?_; rintro _ w1 ⟨rfl, E1⟩; have hs1 := E1.size; refine Wo rfl (opv_not rfl) ?_; refine Wo_nil ?_
            refine W_cond rfl (fun h1 => ?_) (fun h1 => ?_); contradiction; refine W_skip ?_; refine W_seq ?_; refine W_region rfl ?_; refine Wo rfl (opv_assign (v := .string _) rfl) ?_; refine Wo_nil ?_; refine W_seq ?_; refine W_seq ?_
            refine W_region rfl ?_; refine Wo rfl (opv_move (v := .string _) rfl) ?_; refine Wo rfl (opv_index_str (k := 0) Try.underlying9 rfl rfl (by omega)) ?_; refine Wo_nil ?_; refine W_block ?_; refine W_seq ?_; refine W_region rfl ?_
            refine Wo rfl (opv_eql rfl rfl) ?_; refine Wo rfl (opv_assign (v := .bool _) rfl) ?_; refine Wo_nil ?_; refine W_cond_dec rfl (fun h2 => ?_) (fun h2 => ?_); (exfalso; omega); refine W_seq ?_; refine W_region rfl ?_
            refine Wo rfl (opv_eql rfl rfl) ?_; refine Wo rfl (opv_assign (v := .bool _) rfl) ?_; refine Wo_nil ?_; refine W_cond_dec rfl (fun h3 => ?_) (fun h3 => ?_); (exfalso; omega); refine W_seq ?_; refine W_seq ?_; refine W_region rfl ?_
            refine Wo rfl (opv_eql rfl rfl) ?_; refine Wo rfl (opv_assign (v := .bool _) rfl) ?_; refine Wo_nil ?_; refine W_cond_dec rfl (fun h4 => ?_) (fun h4 => ?_); (exfalso; omega); refine W_region rfl ?_
            refine Wo rfl (opv_eql rfl rfl) ?_; refine Wo rfl (opv_assign (v := .bool _) rfl) ?_; refine Wo_nil ?_; refine W_cond_dec rfl (fun h5 => ?_) (fun h5 => ?_); refine W_seq ?_; refine W_region rfl ?_
            refine Wo rfl (opv_move (v := .string _) rfl) ?_; refine Wo rfl (opv_slice_str_lo (l := 1) Try.underlying9 rfl rfl (by omega)) ?_; refine Wo_call rfl (opc1 (a := .string _) Try.call21 rfl) (i1 _) ?_; rintro _ w2 ⟨rfl, E2⟩
            have hs2 := E2.size; refine Wo rfl (opv_move (v := .tuple _) rfl) ?_; refine Wo rfl (opv_extract (v := .string _) rfl rfl) ?_; refine Wo rfl (opv_extract (v := .bool _) rfl rfl) ?_; refine Wo rfl (opv_assign (v := .string _) rfl) ?_
            refine Wo rfl (opv_assign (v := .bool _) rfl) ?_; refine Wo_nil ?_; refine W_seq ?_; refine W_seq ?_; refine W_region rfl ?_; refine Wo rfl (opv_move (v := .bool _) rfl) ?_; refine Wo rfl (opv_not rfl) ?_; refine Wo_nil ?_
            refine W_cond rfl (fun h6 => ?_) (fun h6 => ?_); contradiction; refine W_skip ?_; refine W_seq ?_; refine W_region rfl ?_; refine Wo rfl (opv_move (v := .string _) rfl) ?_; refine Wo rfl (opv_add_str rfl rfl (by simp <;> omega)) ?_
            refine Wo rfl (opv_assign (v := .string _) rfl) ?_; refine Wo_nil ?_; refine W_seq ?_; refine W_region rfl ?_; refine Wo rfl (opv_move (v := .string _) rfl) ?_
            refine Wo rfl (opv_index_str (k := 0) Try.underlying9 rfl rfl (by omega)) ?_; refine Wo rfl (opv_eql rfl rfl) ?_; refine Wo_nil ?_; refine W_cond_dec rfl (fun h7 => ?_) (fun h7 => ?_); refine W_region rfl ?_
            refine Wo rfl (opv_move (v := .string _) rfl) ?_; refine Wo rfl (opv_add_str rfl rfl (by simp <;> omega)) ?_; refine Wo rfl (opv_assign (v := .string _) rfl) ?_; refine Wo_nil ?_; refine W_seq ?_; refine W_seq ?_
            refine W_region rfl ?_; refine Wo rfl (opv_move (v := .string _) rfl) ?_; refine Wo_call rfl (opc1 (a := .string _) Try.call15 rfl) (hfo' _) ?_; rintro _ w3 ⟨rfl, E3⟩; have hs3 := E3.size; refine Wo rfl (opv_not rfl) ?_
            refine Wo_nil ?_; refine W_cond rfl (fun h8 => ?_) (fun h8 => ?_); refine W_seq ?_; refine W_region rfl ?_; refine Wo rfl (opv_assign (v := .string _) rfl) ?_; refine Wo rfl (opv_assign (v := .bool _) rfl) ?_; refine Wo_nil ?_
            refine W_ret ?_; exact ⟨rfl, ((E1.trans E2).trans E3)⟩; contradiction; contradiction; (exfalso; omega)
    · have eg : oppP g = ([], false) := if_neg hg
      have ef : oppP f = ([], false) := if_neg (by omega)
      rw [eg] at i1
      rw [ef]
      clear hfn eg ef he ho hfo
      rcases h1 with ⟨hc, rfl⟩ | ⟨hc, rfl⟩
      · refine fn_of_W2 Try.func21 rfl Try.results21 Try.ntmps21 rfl ?_
        focus
          refine W_seq ?_; refine W_region rfl ?_; refine Wo rfl (opv_assign (v := .string _) rfl) ?_; refine Wo rfl (opv_assign (v := .bool _) rfl) ?_; refine Wo_nil ?_; refine W_seq ?_; refine W_seq ?_; refine W_region rfl ?_
          refine Wo rfl (opv_move (v := .string _) rfl) ?_; refine Wo_call rfl (opc1 (a := .string _) Try.call15 rfl) (hs _) ?_; rintro _ w1 ⟨rfl, E1⟩; have hs1 := E1.size; refine Wo rfl (opv_not rfl) ?_; refine Wo_nil ?_
          refine W_cond rfl (fun h1 => ?_) (fun h1 => ?_); contradiction; refine W_skip ?_; refine W_seq ?_; refine W_region rfl ?_; refine Wo rfl (opv_assign (v := .string _) rfl) ?_; refine Wo_nil ?_; refine W_seq ?_; refine W_seq ?_
          refine W_region rfl ?_; refine Wo rfl (opv_move (v := .string _) rfl) ?_; refine Wo rfl (opv_index_str (k := 0) Try.underlying9 rfl rfl (by omega)) ?_; refine Wo_nil ?_; refine W_block ?_; refine W_seq ?_; refine W_region rfl ?_
          refine Wo rfl (opv_eql rfl rfl) ?_; refine Wo rfl (opv_assign (v := .bool _) rfl) ?_; refine Wo_nil ?_; refine W_cond_dec rfl (fun h2 => ?_) (fun h2 => ?_); (exfalso; omega); refine W_seq ?_; refine W_region rfl ?_
          refine Wo rfl (opv_eql rfl rfl) ?_; refine Wo rfl (opv_assign (v := .bool _) rfl) ?_; refine Wo_nil ?_; refine W_cond_dec rfl (fun h3 => ?_) (fun h3 => ?_); (exfalso; omega); refine W_seq ?_; refine W_seq ?_; refine W_region rfl ?_
          refine Wo rfl (opv_eql rfl rfl) ?_; refine Wo rfl (opv_assign (v := .bool _) rfl) ?_; refine Wo_nil ?_; refine W_cond_dec rfl (fun h4 => ?_) (fun h4 => ?_); refine W_skip ?_; refine W_cond_dec rfl (fun h5 => ?_) (fun h5 => ?_)
          refine W_seq ?_; refine W_region rfl ?_; refine Wo rfl (opv_move (v := .string _) rfl) ?_; refine Wo rfl (opv_slice_str_lo (l := 1) Try.underlying9 rfl rfl (by omega)) ?_
          refine Wo_call rfl (opc1 (a := .string _) Try.call21 rfl) (i1 _) ?_; rintro _ w2 ⟨rfl, E2⟩; have hs2 := E2.size; refine Wo rfl (opv_move (v := .tuple _) rfl) ?_; refine Wo rfl (opv_extract (v := .string _) rfl rfl) ?_
          refine Wo rfl (opv_extract (v := .bool _) rfl rfl) ?_; refine Wo rfl (opv_assign (v := .string _) rfl) ?_; refine Wo rfl (opv_assign (v := .bool _) rfl) ?_; refine Wo_nil ?_; refine W_seq ?_; refine W_seq ?_; refine W_region rfl ?_
          refine Wo rfl (opv_move (v := .bool _) rfl) ?_; refine Wo rfl (opv_not rfl) ?_; refine Wo_nil ?_; refine W_cond rfl (fun h6 => ?_) (fun h6 => ?_); refine W_seq ?_; refine W_region rfl ?_
          refine Wo rfl (opv_assign (v := .string _) rfl) ?_; refine Wo rfl (opv_assign (v := .bool _) rfl) ?_; refine Wo_nil ?_; refine W_ret ?_; exact ⟨rfl, (E1.trans E2)⟩; contradiction; contradiction; (exfalso; omega)
      · refine fn_of_W2 Try.func21 rfl Try.results21 Try.ntmps21 rfl ?_
        focus
          refine W_seq ?_; refine W_region rfl ?_; refine Wo rfl (opv_assign (v := .string _) rfl) ?_; refine Wo rfl (opv_assign (v := .bool _) rfl) ?_; refine Wo_nil ?_; refine W_seq ?_; refine W_seq ?_; refine W_region rfl ?_
          refine Wo rfl (opv_move (v := .string _) rfl) ?_; refine Wo_call rfl (opc1 (a := .string _) Try.call15 rfl) (hs _) ?_; rintro _ w1 ⟨rfl, E1⟩; have hs1 := E1.size; refine Wo rfl (opv_not rfl) ?_; refine Wo_nil ?_
          refine W_cond rfl (fun h1 => ?_) (fun h1 => ?_); contradiction; refine W_skip ?_; refine W_seq ?_; refine W_region rfl ?_; refine Wo rfl (opv_assign (v := .string _) rfl) ?_; refine Wo_nil ?_; refine W_seq ?_; refine W_seq ?_
          refine W_region rfl ?_; refine Wo rfl (opv_move (v := .string _) rfl) ?_; refine Wo rfl (opv_index_str (k := 0) Try.underlying9 rfl rfl (by omega)) ?_; refine Wo_nil ?_; refine W_block ?_; refine W_seq ?_; refine W_region rfl ?_
          refine Wo rfl (opv_eql rfl rfl) ?_; refine Wo rfl (opv_assign (v := .bool _) rfl) ?_; refine Wo_nil ?_; refine W_cond_dec rfl (fun h2 => ?_) (fun h2 => ?_); (exfalso; omega); refine W_seq ?_; refine W_region rfl ?_
          refine Wo rfl (opv_eql rfl rfl) ?_; refine Wo rfl (opv_assign (v := .bool _) rfl) ?_; refine Wo_nil ?_; refine W_cond_dec rfl (fun h3 => ?_) (fun h3 => ?_); (exfalso; omega); refine W_seq ?_; refine W_seq ?_; refine W_region rfl ?_
          refine Wo rfl (opv_eql rfl rfl) ?_; refine Wo rfl (opv_assign (v := .bool _) rfl) ?_; refine Wo_nil ?_; refine W_cond_dec rfl (fun h4 => ?_) (fun h4 => ?_); (exfalso; omega); refine W_region rfl ?_
          refine Wo rfl (opv_eql rfl rfl) ?_; refine Wo rfl (opv_assign (v := .bool _) rfl) ?_; refine Wo_nil ?_; refine W_cond_dec rfl (fun h5 => ?_) (fun h5 => ?_); refine W_seq ?_; refine W_region rfl ?_
          refine Wo rfl (opv_move (v := .string _) rfl) ?_; refine Wo rfl (opv_slice_str_lo (l := 1) Try.underlying9 rfl rfl (by omega)) ?_; refine Wo_call rfl (opc1 (a := .string _) Try.call21 rfl) (i1 _) ?_; rintro _ w2 ⟨rfl, E2⟩
          have hs2 := E2.size; refine Wo rfl (opv_move (v := .tuple _) rfl) ?_; refine Wo rfl (opv_extract (v := .string _) rfl rfl) ?_; refine Wo rfl (opv_extract (v := .bool _) rfl rfl) ?_; refine Wo rfl (opv_assign (v := .string _) rfl) ?_
          refine Wo rfl (opv_assign (v := .bool _) rfl) ?_; refine Wo_nil ?_; refine W_seq ?_; refine W_seq ?_; refine W_region rfl ?_; refine Wo rfl (opv_move (v := .bool _) rfl) ?_; refine Wo rfl (opv_not rfl) ?_; refine Wo_nil ?_
          refine W_cond rfl (fun h6 => ?_) (fun h6 => ?_); refine W_seq ?_; refine W_region rfl ?_; refine Wo rfl (opv_assign (v := .string _) rfl) ?_; refine Wo rfl (opv_assign (v := .bool _) rfl) ?_; refine Wo_nil ?_; refine W_ret ?_
          exact ⟨rfl, (E1.trans E2)⟩; contradiction; (exfalso; omega)
  have bin : ∀ (h f g : Fm) (c d : UInt8), h.enc = 40 :: (f.enc ++ c :: (g.enc ++ [41])) → h.opp.enc = ([40] ++ f.opp.enc ++ [d]) ++ g.opp.enc ++ [41] → (c = 38 ∧ d = 124 ∨ c = 124 ∧ d = 38) →
      (f.enc.length ≤ 60 → ∀ w : World, Does Try.prog 21 [str f.enc] w (Ret w (.tuple #[str (oppP f).1, .bool (oppP f).2]))) →
      (g.enc.length ≤ 60 → ∀ w : World, Does Try.prog 21 [str g.enc] w (Ret w (.tuple #[str (oppP g).1, .bool (oppP g).2]))) →
      h.enc.length ≤ 60 → ∀ w : World, Does Try.prog 21 [str h.enc] w (Ret w (.tuple #[str (oppP h).1, .bool (oppP h).2])) := by
    intro h f g c d he ho hcd ih1 ih2 h60 w
    have hs := hok h h60
    have hlen : h.enc.length = f.enc.length + g.enc.length + 3 := by rw [he]; simp; omega
    have hol : h.opp.enc.length = f.opp.enc.length + g.opp.enc.length + 3 := by rw [ho]; simp; omega
    have hb := opp_len f
    have hb2 := opp_len g
    have hn : (h.enc.getD 0 0).toNat = 40 := by rw [he]; rfl
    have hend : ∀ w, Does Try.prog 49 [str h.enc, .int .i64 1] w (Ret w (.int .i64 ((f.enc.length + 1 : Nat) : Int))) := fun w => by
      have := l10End_ok _ h.enc 1 w (by unfold lim; omega) (Nat.le_refl _)
      have e : endV (h.enc.drop 1) h.enc.length = ((f.enc.length + 1 : Nat) : Int) := by
        rw [endV, pre_eq (l := h.enc.drop 1) (f := f) (r := c :: (g.enc ++ [41])) (by rw [he]; rfl)]
        simp only [List.length_cons, List.length_append, List.length_nil]
        omega
      rw [e] at this
      exact this
    have e1 : (h.enc.drop 1).take (f.enc.length + 1 - 1) = f.enc := by rw [he]; simp
    have hmid : (h.enc.getD (f.enc.length + 1) 0).toNat = c.toNat := by
      rw [he, List.getD_cons_succ, List.getD_eq_getElem?_getD, List.getElem?_append_right (Nat.le_refl _)]; simp
    have e2 : (h.enc.drop (((f.enc.length + 1 : Nat) : Int) + 1).toNat).take (((h.enc.length : Int) - 1).toNat - (((f.enc.length + 1 : Nat) : Int) + 1).toNat) = g.enc := by
      have a1 : (((f.enc.length + 1 : Nat) : Int) + 1).toNat = f.enc.length + 2 := by omega
      have a2 : ((h.enc.length : Int) - 1).toNat = f.enc.length + g.enc.length + 2 := by omega
      have a3 : f.enc.length + g.enc.length + 2 - (f.enc.length + 2) = g.enc.length := by omega
      rw [a1, a2, a3, he]
      have : f.enc.length + 2 = (f.enc.length + 1) + 1 := rfl
      rw [this, List.drop_succ_cons, List.drop_append, List.drop_eq_nil_of_le (by omega)]
      simp
    have i1 : ∀ w, Does Try.prog 21 [str ((h.enc.drop 1).take (f.enc.length + 1 - 1))] w (Ret w (.tuple #[str (oppP f).1, .bool (oppP f).2])) := fun w => by rw [e1]; exact ih1 (by omega) w
    have i2 : ∀ w, Does Try.prog 21 [str ((h.enc.drop (((f.enc.length + 1 : Nat) : Int) + 1).toNat).take (((h.enc.length : Int) - 1).toNat - (((f.enc.length + 1 : Nat) : Int) + 1).toNat))] w (Ret w (.tuple #[str (oppP g).1, .bool (oppP g).2])) :=
      fun w => by rw [e2]; exact ih2 (by omega) w
    have h1 : (c.toNat = 38 ∧ d = 124) ∨ (c.toNat = 124 ∧ d = 38) := by rcases hcd with ⟨rfl, rfl⟩ | ⟨rfl, rfl⟩ <;> simp
    have hfo := hok h.opp
    have hfn := hno h.opp
    rw [ho] at hfo hfn
    clear e1 e2 ih1 ih2 hok hcd hno un
    have hfl : f.enc.length + 1 < h.enc.length := by omega
    by_cases hf : f.opp.enc.length ≤ 60
    · have ef : oppP f = (f.opp.enc, true) := if_pos hf
      rw [ef] at i1
      by_cases hg : g.opp.enc.length ≤ 60
      · have eg : oppP g = (g.opp.enc, true) := if_pos hg
        rw [eg] at i2
        by_cases hh : h.opp.enc.length ≤ 60
        · have eh : oppP h = (([40] ++ f.opp.enc ++ [d]) ++ g.opp.enc ++ [41], true) := by rw [← ho]; exact if_pos hh
          rw [eh]
          have hfo' := hfo (by rw [← ho]; exact hh)
          clear hfn eg ef he ho hfo eh
          generalize f.enc.length = m1 at *
          rcases h1 with ⟨hc, rfl⟩ | ⟨hc, rfl⟩
          · refine fn_of_W2 Try.func21 rfl Try.results21 Try.ntmps21 rfl ?_
            focus
              refine W_seq ?_; refine W_region rfl ?_; refine Wo rfl (opv_assign (v := .string _) rfl) ?_; refine Wo rfl (opv_assign (v := .bool _) rfl) ?_; refine Wo_nil ?_; refine W_seq ?_; refine W_seq ?_; refine W_region rfl ?_
              refine Wo rfl (opv_move (v := .string _) rfl) ?_; refine Wo_call rfl (opc1 (a := .string _) Try.call15 rfl) (hs _) ?_; rintro _ w1 ⟨rfl, E1⟩; have hs1 := E1.size; refine Wo rfl (opv_not rfl) ?_; refine Wo_nil ?_
              refine W_cond rfl (fun h1 => ?_) (fun h1 => ?_); contradiction; refine W_skip ?_; refine W_seq ?_; refine W_region rfl ?_; refine Wo rfl (opv_assign (v := .string _) rfl) ?_; refine Wo_nil ?_; refine W_seq ?_; refine W_seq ?_
              refine W_region rfl ?_; refine Wo rfl (opv_move (v := .string _) rfl) ?_; refine Wo rfl (opv_index_str (k := 0) Try.underlying9 rfl rfl (by omega)) ?_; refine Wo_nil ?_; refine W_block ?_; refine W_seq ?_; refine W_region rfl ?_
              refine Wo rfl (opv_eql rfl rfl) ?_; refine Wo rfl (opv_assign (v := .bool _) rfl) ?_; refine Wo_nil ?_; refine W_cond_dec rfl (fun h2 => ?_) (fun h2 => ?_); (exfalso; omega); refine W_seq ?_; refine W_region rfl ?_
              refine Wo rfl (opv_eql rfl rfl) ?_; refine Wo rfl (opv_assign (v := .bool _) rfl) ?_; refine Wo_nil ?_; refine W_cond_dec rfl (fun h3 => ?_) (fun h3 => ?_); (exfalso; omega); refine W_seq ?_; refine W_seq ?_; refine W_region rfl ?_
              refine Wo rfl (opv_eql rfl rfl) ?_; refine Wo rfl (opv_assign (v := .bool _) rfl) ?_; refine Wo_nil ?_; refine W_cond_dec rfl (fun h4 => ?_) (fun h4 => ?_); (exfalso; omega); refine W_region rfl ?_
              refine Wo rfl (opv_eql rfl rfl) ?_; refine Wo rfl (opv_assign (v := .bool _) rfl) ?_; refine Wo_nil ?_; refine W_cond_dec rfl (fun h5 => ?_) (fun h5 => ?_); (exfalso; omega); refine W_seq ?_; refine W_region rfl ?_
              refine Wo rfl (opv_move (v := .string _) rfl) ?_; refine Wo_call rfl (opc2 (a := .string _) (b := .int _ _) Try.call49 rfl rfl) (hend _) ?_; rintro _ w2 ⟨rfl, E2⟩; have hs2 := E2.size
              refine Wo rfl (opv_assign (v := .int _ _) rfl) ?_; refine Wo_nil ?_; refine W_seq ?_; refine W_region rfl ?_; refine Wo rfl (opv_move (v := .string _) rfl) ?_; refine Wo rfl (opv_move (v := .int _ _) rfl) ?_
              refine Wo rfl (opv_slice_str (l := 1) Try.underlying9 rfl rfl rfl (by omega)) ?_; refine Wo_call rfl (opc1 (a := .string _) Try.call21 rfl) (i1 _) ?_; rintro _ w3 ⟨rfl, E3⟩; have hs3 := E3.size
              refine Wo rfl (opv_move (v := .tuple _) rfl) ?_; refine Wo rfl (opv_extract (v := .string _) rfl rfl) ?_; refine Wo rfl (opv_extract (v := .bool _) rfl rfl) ?_; refine Wo rfl (opv_assign (v := .string _) rfl) ?_
              refine Wo rfl (opv_assign (v := .bool _) rfl) ?_; refine Wo_nil ?_; refine W_seq ?_; refine W_region rfl ?_; refine Wo rfl (opv_move (v := .string _) rfl) ?_; refine Wo rfl (opv_move (v := .int _ _) rfl) ?_
              refine Wo rfl (opv_add rfl rfl (by omega)) ?_; refine Wo rfl (opv_move (v := .string _) rfl) ?_; refine Wo rfl (opv_len_str Try.underlying9 rfl) ?_; refine Wo rfl (opv_sub rfl rfl (by omega)) ?_
              refine Wo rfl (opv_slice_str_z Try.underlying9 rfl rfl rfl (by omega)) ?_; refine Wo_call rfl (opc1 (a := .string _) Try.call21 rfl) (i2 _) ?_; rintro _ w4 ⟨rfl, E4⟩; have hs4 := E4.size
              refine Wo rfl (opv_move (v := .tuple _) rfl) ?_; refine Wo rfl (opv_extract (v := .string _) rfl rfl) ?_; refine Wo rfl (opv_extract (v := .bool _) rfl rfl) ?_; refine Wo rfl (opv_assign (v := .string _) rfl) ?_
              refine Wo rfl (opv_assign (v := .bool _) rfl) ?_; refine Wo_nil ?_; refine W_seq ?_; refine W_seq ?_; refine W_region rfl ?_; refine Wo rfl (opv_move (v := .bool _) rfl) ?_; refine Wo rfl (opv_not rfl) ?_
              refine Wo_split rfl (opv_move (v := .bool _) rfl) (fun h6 => ?_) (fun h6 => ?_); contradiction; refine Wo rfl (opv_move (v := .bool _) rfl) ?_; refine Wo rfl (opv_not rfl) ?_; refine Wo rfl (opv_pick_f (v := .bool _) rfl rfl) ?_
              refine Wo_nil ?_; refine W_cond rfl (fun h7 => ?_) (fun h7 => ?_); contradiction; refine W_skip ?_; refine W_seq ?_; refine W_region rfl ?_; refine Wo rfl (opv_assign (v := .string _) rfl) ?_; refine Wo_nil ?_; refine W_seq ?_
              refine W_seq ?_; refine W_region rfl ?_; refine Wo rfl (opv_move (v := .string _) rfl) ?_; refine Wo rfl (opv_move (v := .int _ _) rfl) ?_; refine Wo rfl (opv_index_str Try.underlying9 rfl rfl (by omega)) ?_
              refine Wo rfl (opv_eql rfl rfl) ?_; refine Wo_nil ?_; refine W_cond_dec rfl (fun h8 => ?_) (fun h8 => ?_); (exfalso; omega); refine W_skip ?_; refine W_region rfl ?_; refine Wo rfl (opv_move (v := .string _) rfl) ?_
              refine Wo rfl (opv_add_str rfl rfl (by simp <;> omega)) ?_; refine Wo rfl (opv_move (v := .string _) rfl) ?_; refine Wo rfl (opv_add_str rfl rfl (by simp <;> omega)) ?_; refine Wo rfl (opv_move (v := .string _) rfl) ?_
              refine Wo rfl (opv_add_str rfl rfl (by simp <;> omega)) ?_; refine Wo rfl (opv_add_str rfl rfl (by simp <;> omega)) ?_; refine Wo rfl (opv_assign (v := .string _) rfl) ?_; refine Wo_nil ?_; refine W_seq ?_; refine W_seq ?_
              refine W_region rfl ?_; refine Wo rfl (opv_move (v := .string _) rfl) ?_; refine Wo_call rfl (opc1 (a := .string _) Try.call15 rfl) (hfo' _) ?_; rintro _ w5 ⟨rfl, E5⟩; have hs5 := E5.size; refine Wo rfl (opv_not rfl) ?_
              refine Wo_nil ?_; refine W_cond rfl (fun h9 => ?_) (fun h9 => ?_); contradiction; refine W_skip ?_; refine W_seq ?_; refine W_region rfl ?_; refine Wo rfl (opv_move (v := .string _) rfl) ?_
              refine Wo rfl (opv_assign (v := .string _) rfl) ?_; refine Wo rfl (opv_assign (v := .bool _) rfl) ?_; refine Wo_nil ?_; refine W_ret ?_; exact ⟨rfl, ((((E1.trans E2).trans E3).trans E4).trans E5)⟩
          · refine fn_of_W2 Try.func21 rfl Try.results21 Try.ntmps21 rfl ?_
            focus
              refine W_seq ?_; refine W_region rfl ?_; refine Wo rfl (opv_assign (v := .string _) rfl) ?_; refine Wo rfl (opv_assign (v := .bool _) rfl) ?_; refine Wo_nil ?_; refine W_seq ?_; refine W_seq ?_; refine W_region rfl ?_
              refine Wo rfl (opv_move (v := .string _) rfl) ?_; refine Wo_call rfl (opc1 (a := .string _) Try.call15 rfl) (hs _) ?_; rintro _ w1 ⟨rfl, E1⟩; have hs1 := E1.size; refine Wo rfl (opv_not rfl) ?_; refine Wo_nil ?_
              refine W_cond rfl (fun h1 => ?_) (fun h1 => ?_); contradiction; refine W_skip ?_; refine W_seq ?_; refine W_region rfl ?_; refine Wo rfl (opv_assign (v := .string _) rfl) ?_; refine Wo_nil ?_; refine W_seq ?_; refine W_seq ?_
              refine W_region rfl ?_; refine Wo rfl (opv_move (v := .string _) rfl) ?_; refine Wo rfl (opv_index_str (k := 0) Try.underlying9 rfl rfl (by omega)) ?_; refine Wo_nil ?_; refine W_block ?_; refine W_seq ?_; refine W_region rfl ?_
              refine Wo rfl (opv_eql rfl rfl) ?_; refine Wo rfl (opv_assign (v := .bool _) rfl) ?_; refine Wo_nil ?_; refine W_cond_dec rfl (fun h2 => ?_) (fun h2 => ?_); (exfalso; omega); refine W_seq ?_; refine W_region rfl ?_
              refine Wo rfl (opv_eql rfl rfl) ?_; refine Wo rfl (opv_assign (v := .bool _) rfl) ?_; refine Wo_nil ?_; refine W_cond_dec rfl (fun h3 => ?_) (fun h3 => ?_); (exfalso; omega); refine W_seq ?_; refine W_seq ?_; refine W_region rfl ?_
              refine Wo rfl (opv_eql rfl rfl) ?_; refine Wo rfl (opv_assign (v := .bool _) rfl) ?_; refine Wo_nil ?_; refine W_cond_dec rfl (fun h4 => ?_) (fun h4 => ?_); (exfalso; omega); refine W_region rfl ?_
              refine Wo rfl (opv_eql rfl rfl) ?_; refine Wo rfl (opv_assign (v := .bool _) rfl) ?_; refine Wo_nil ?_; refine W_cond_dec rfl (fun h5 => ?_) (fun h5 => ?_); (exfalso; omega); refine W_seq ?_; refine W_region rfl ?_
              refine Wo rfl (opv_move (v := .string _) rfl) ?_; refine Wo_call rfl (opc2 (a := .string _) (b := .int _ _) Try.call49 rfl rfl) (hend _) ?_; rintro _ w2 ⟨rfl, E2⟩; have hs2 := E2.size
              refine Wo rfl (opv_assign (v := .int _ _) rfl) ?_; refine Wo_nil ?_; refine W_seq ?_; refine W_region rfl ?_; refine Wo rfl (opv_move (v := .string _) rfl) ?_; refine Wo rfl (opv_move (v := .int _ _) rfl) ?_
              refine Wo rfl (opv_slice_str (l := 1) Try.underlying9 rfl rfl rfl (by omega)) ?_; refine Wo_call rfl (opc1 (a := .string _) Try.call21 rfl) (i1 _) ?_; rintro _ w3 ⟨rfl, E3⟩; have hs3 := E3.size
              refine Wo rfl (opv_move (v := .tuple _) rfl) ?_; refine Wo rfl (opv_extract (v := .string _) rfl rfl) ?_; refine Wo rfl (opv_extract (v := .bool _) rfl rfl) ?_; refine Wo rfl (opv_assign (v := .string _) rfl) ?_
              refine Wo rfl (opv_assign (v := .bool _) rfl) ?_; refine Wo_nil ?_; refine W_seq ?_; refine W_region rfl ?_; refine Wo rfl (opv_move (v := .string _) rfl) ?_; refine Wo rfl (opv_move (v := .int _ _) rfl) ?_
              refine Wo rfl (opv_add rfl rfl (by omega)) ?_; refine Wo rfl (opv_move (v := .string _) rfl) ?_; refine Wo rfl (opv_len_str Try.underlying9 rfl) ?_; refine Wo rfl (opv_sub rfl rfl (by omega)) ?_
              refine Wo rfl (opv_slice_str_z Try.underlying9 rfl rfl rfl (by omega)) ?_; refine Wo_call rfl (opc1 (a := .string _) Try.call21 rfl) (i2 _) ?_; rintro _ w4 ⟨rfl, E4⟩; have hs4 := E4.size
              refine Wo rfl (opv_move (v := .tuple _) rfl) ?_; refine Wo rfl (opv_extract (v := .string _) rfl rfl) ?_; refine Wo rfl (opv_extract (v := .bool _) rfl rfl) ?_; refine Wo rfl (opv_assign (v := .string _) rfl) ?_
              refine Wo rfl (opv_assign (v := .bool _) rfl) ?_; refine Wo_nil ?_; refine W_seq ?_; refine W_seq ?_; refine W_region rfl ?_; refine Wo rfl (opv_move (v := .bool _) rfl) ?_; refine Wo rfl (opv_not rfl) ?_
              refine Wo_split rfl (opv_move (v := .bool _) rfl) (fun h6 => ?_) (fun h6 => ?_); contradiction; refine Wo rfl (opv_move (v := .bool _) rfl) ?_; refine Wo rfl (opv_not rfl) ?_; refine Wo rfl (opv_pick_f (v := .bool _) rfl rfl) ?_
              refine Wo_nil ?_; refine W_cond rfl (fun h7 => ?_) (fun h7 => ?_); contradiction; refine W_skip ?_; refine W_seq ?_; refine W_region rfl ?_; refine Wo rfl (opv_assign (v := .string _) rfl) ?_; refine Wo_nil ?_; refine W_seq ?_
              refine W_seq ?_; refine W_region rfl ?_; refine Wo rfl (opv_move (v := .string _) rfl) ?_; refine Wo rfl (opv_move (v := .int _ _) rfl) ?_; refine Wo rfl (opv_index_str Try.underlying9 rfl rfl (by omega)) ?_
              refine Wo rfl (opv_eql rfl rfl) ?_; refine Wo_nil ?_; refine W_cond_dec rfl (fun h8 => ?_) (fun h8 => ?_); refine W_region rfl ?_; refine Wo rfl (opv_assign (v := .string _) rfl) ?_; refine Wo_nil ?_; refine W_region rfl ?_
              refine Wo rfl (opv_move (v := .string _) rfl) ?_; refine Wo rfl (opv_add_str rfl rfl (by simp <;> omega)) ?_; refine Wo rfl (opv_move (v := .string _) rfl) ?_; refine Wo rfl (opv_add_str rfl rfl (by simp <;> omega)) ?_
              refine Wo rfl (opv_move (v := .string _) rfl) ?_; refine Wo rfl (opv_add_str rfl rfl (by simp <;> omega)) ?_; refine Wo rfl (opv_add_str rfl rfl (by simp <;> omega)) ?_; refine Wo rfl (opv_assign (v := .string _) rfl) ?_
              refine Wo_nil ?_; refine W_seq ?_; refine W_seq ?_; refine W_region rfl ?_; refine Wo rfl (opv_move (v := .string _) rfl) ?_; refine Wo_call rfl (opc1 (a := .string _) Try.call15 rfl) (hfo' _) ?_; rintro _ w5 ⟨rfl, E5⟩
              have hs5 := E5.size; refine Wo rfl (opv_not rfl) ?_; refine Wo_nil ?_; refine W_cond rfl (fun h9 => ?_) (fun h9 => ?_); contradiction; refine W_skip ?_; refine W_seq ?_; refine W_region rfl ?_
              refine Wo rfl (opv_move (v := .string _) rfl) ?_; refine Wo rfl (opv_assign (v := .string _) rfl) ?_; refine Wo rfl (opv_assign (v := .bool _) rfl) ?_; refine Wo_nil ?_; refine W_ret ?_
              exact ⟨rfl, ((((E1.trans E2).trans E3).trans E4).trans E5)⟩; (exfalso; omega)
        · have eh : oppP h = ([], false) := if_neg hh
          rw [eh]
          have hfo' := hfn (by rw [← ho]; omega) (by rw [← ho]; omega)
          clear hfn eg ef he ho hfo eh
          generalize f.enc.length = m1 at *
          rcases h1 with ⟨hc, rfl⟩ | ⟨hc, rfl⟩
          · refine fn_of_W2 Try.func21 rfl Try.results21 Try.ntmps21 rfl ?_
            focus
              refine W_seq ?_; refine W_region rfl ?_; refine Wo rfl (opv_assign (v := .string _) rfl) ?_; refine Wo rfl (opv_assign (v := .bool _) rfl) ?_; refine Wo_nil ?_; refine W_seq ?_; refine W_seq ?_; refine W_region rfl ?_
              refine Wo rfl (opv_move (v := .string _) rfl) ?_; refine Wo_call rfl (opc1 (a := .string _) Try.call15 rfl) (hs _) ?_; rintro _ w1 ⟨rfl, E1⟩; have hs1 := E1.size; refine Wo rfl (opv_not rfl) ?_; refine Wo_nil ?_
              refine W_cond rfl (fun h1 => ?_) (fun h1 => ?_); contradiction; refine W_skip ?_; refine W_seq ?_; refine W_region rfl ?_; refine Wo rfl (opv_assign (v := .string _) rfl) ?_; refine Wo_nil ?_; refine W_seq ?_; refine W_seq ?_
              refine W_region rfl ?_; refine Wo rfl (opv_move (v := .string _) rfl) ?_; refine Wo rfl (opv_index_str (k := 0) Try.underlying9 rfl rfl (by omega)) ?_; refine Wo_nil ?_; refine W_block ?_; refine W_seq ?_; refine W_region rfl ?_
              refine Wo rfl (opv_eql rfl rfl) ?_; refine Wo rfl (opv_assign (v := .bool _) rfl) ?_; refine Wo_nil ?_; refine W_cond_dec rfl (fun h2 => ?_) (fun h2 => ?_); (exfalso; omega); refine W_seq ?_; refine W_region rfl ?_
              refine Wo rfl (opv_eql rfl rfl) ?_; refine Wo rfl (opv_assign (v := .bool _) rfl) ?_; refine Wo_nil ?_; refine W_cond_dec rfl (fun h3 => ?_) (fun h3 => ?_); (exfalso; omega); refine W_seq ?_; refine W_seq ?_; refine W_region rfl ?_
              refine Wo rfl (opv_eql rfl rfl) ?_; refine Wo rfl (opv_assign (v := .bool _) rfl) ?_; refine Wo_nil ?_; refine W_cond_dec rfl (fun h4 => ?_) (fun h4 => ?_); (exfalso; omega); refine W_region rfl ?_
              refine Wo rfl (opv_eql rfl rfl) ?_; refine Wo rfl (opv_assign (v := .bool _) rfl) ?_; refine Wo_nil ?_; refine W_cond_dec rfl (fun h5 => ?_) (fun h5 => ?_); (exfalso; omega); refine W_seq ?_; refine W_region rfl ?_
              refine Wo rfl (opv_move (v := .string _) rfl) ?_; refine Wo_call rfl (opc2 (a := .string _) (b := .int _ _) Try.call49 rfl rfl) (hend _) ?_; rintro _ w2 ⟨rfl, E2⟩; have hs2 := E2.size
              refine Wo rfl (opv_assign (v := .int _ _) rfl) ?_; refine Wo_nil ?_; refine W_seq ?_; refine W_region rfl ?_; refine Wo rfl (opv_move (v := .string _) rfl) ?_; refine Wo rfl (opv_move (v := .int _ _) rfl) ?_
              refine Wo rfl (opv_slice_str (l := 1) Try.underlying9 rfl rfl rfl (by omega)) ?_; refine Wo_call rfl (opc1 (a := .string _) Try.call21 rfl) (i1 _) ?_; rintro _ w3 ⟨rfl, E3⟩; have hs3 := E3.size
              refine Wo rfl (opv_move (v := .tuple _) rfl) ?_; refine Wo rfl (opv_extract (v := .string _) rfl rfl) ?_; refine Wo rfl (opv_extract (v := .bool _) rfl rfl) ?_; refine Wo rfl (opv_assign (v := .string _) rfl) ?_
              refine Wo rfl (opv_assign (v := .bool _) rfl) ?_; refine Wo_nil ?_; refine W_seq ?_; refine W_region rfl ?_; refine Wo rfl (opv_move (v := .string _) rfl) ?_; refine Wo rfl (opv_move (v := .int _ _) rfl) ?_
              refine Wo rfl (opv_add rfl rfl (by omega)) ?_; refine Wo rfl (opv_move (v := .string _) rfl) ?_; refine Wo rfl (opv_len_str Try.underlying9 rfl) ?_; refine Wo rfl (opv_sub rfl rfl (by omega)) ?_
              refine Wo rfl (opv_slice_str_z Try.underlying9 rfl rfl rfl (by omega)) ?_; refine Wo_call rfl (opc1 (a := .string _) Try.call21 rfl) (i2 _) ?_; rintro _ w4 ⟨rfl, E4⟩; have hs4 := E4.size
              refine Wo rfl (opv_move (v := .tuple _) rfl) ?_; refine Wo rfl (opv_extract (v := .string _) rfl rfl) ?_; refine Wo rfl (opv_extract (v := .bool _) rfl rfl) ?_; refine Wo rfl (opv_assign (v := .string _) rfl) ?_
              refine Wo rfl (opv_assign (v := .bool _) rfl) ?_; refine Wo_nil ?_; refine W_seq ?_; refine W_seq ?_; refine W_region rfl ?_; refine Wo rfl (opv_move (v := .bool _) rfl) ?_; refine Wo rfl (opv_not rfl) ?_
              refine Wo_split rfl (opv_move (v := .bool _) rfl) (fun h6 => ?_) (fun h6 => ?_); contradiction; refine Wo rfl (opv_move (v := .bool _) rfl) ?_; refine Wo rfl (opv_not rfl) ?_; refine Wo rfl (opv_pick_f (v := .bool _) rfl rfl) ?_
              refine Wo_nil ?_; refine W_cond rfl (fun h7 => ?_) (fun h7 => ?_); contradiction; refine W_skip ?_; refine W_seq ?_; refine W_region rfl ?_; refine Wo rfl (opv_assign (v := .string _) rfl) ?_; refine Wo_nil ?_; refine W_seq ?_
              refine W_seq ?_; refine W_region rfl ?_; refine Wo rfl (opv_move (v := .string _) rfl) ?_; refine Wo rfl (opv_move (v := .int _ _) rfl) ?_; refine Wo rfl (opv_index_str Try.underlying9 rfl rfl (by omega)) ?_
              refine Wo rfl (opv_eql rfl rfl) ?_; refine Wo_nil ?_; refine W_cond_dec rfl (fun h8 => ?_) (fun h8 => ?_); (exfalso; omega); refine W_skip ?_; refine W_region rfl ?_; refine Wo rfl (opv_move (v := .string _) rfl) ?_
              refine Wo rfl (opv_add_str rfl rfl (by simp <;> omega)) ?_; refine Wo rfl (opv_move (v := .string _) rfl) ?_; refine Wo rfl (opv_add_str rfl rfl (by simp <;> omega)) ?_; refine Wo rfl (opv_move (v := .string _) rfl) ?_
              refine Wo rfl (opv_add_str rfl rfl (by simp <;> omega)) ?_; refine Wo rfl (opv_add_str rfl rfl (by simp <;> omega)) ?_; refine Wo rfl (opv_assign (v := .string _) rfl) ?_; refine Wo_nil ?_; refine W_seq ?_; refine W_seq ?_
              refine W_region rfl ?_; refine Wo rfl (opv_move (v := .string _) rfl) ?_; refine Wo_call rfl (opc1 (a := .string _) Try.call15 rfl) (hfo' _) ?_; rintro _ w5 ⟨rfl, E5⟩; have hs5 := E5.size; refine Wo rfl (opv_not rfl) ?_
              refine Wo_nil ?_; refine W_cond rfl (fun h9 => ?_) (fun h9 => ?_); refine W_seq ?_; refine W_region rfl ?_; refine Wo rfl (opv_assign (v := .string _) rfl) ?_; refine Wo rfl (opv_assign (v := .bool _) rfl) ?_; refine Wo_nil ?_
              refine W_ret ?_; exact ⟨rfl, ((((E1.trans E2).trans E3).trans E4).trans E5)⟩; contradiction
          · refine fn_of_W2 Try.func21 rfl Try.results21 Try.ntmps21 rfl ?_
            focus
              refine W_seq ?_; refine W_region rfl ?_; refine Wo rfl (opv_assign (v := .string _) rfl) ?_; refine Wo rfl (opv_assign (v := .bool _) rfl) ?_; refine Wo_nil ?_; refine W_seq ?_; refine W_seq ?_; refine W_region rfl ?_
              refine Wo rfl (opv_move (v := .string _) rfl) ?_; refine Wo_call rfl (opc1 (a := .string _) Try.call15 rfl) (hs _) ?_; rintro _ w1 ⟨rfl, E1⟩; have hs1 := E1.size; refine Wo rfl (opv_not rfl) ?_; refine Wo_nil ?_
              refine W_cond rfl (fun h1 => ?_) (fun h1 => ?_); contradiction; refine W_skip ?_; refine W_seq ?_; refine W_region rfl ?_; refine Wo rfl (opv_assign (v := .string _) rfl) ?_; refine Wo_nil ?_; refine W_seq ?_; refine W_seq ?_
              refine W_region rfl ?_; refine Wo rfl (opv_move (v := .string _) rfl) ?_; refine Wo rfl (opv_index_str (k := 0) Try.underlying9 rfl rfl (by omega)) ?_; refine Wo_nil ?_; refine W_block ?_; refine W_seq ?_; refine W_region rfl ?_
              refine Wo rfl (opv_eql rfl rfl) ?_; refine Wo rfl (opv_assign (v := .bool _) rfl) ?_; refine Wo_nil ?_; refine W_cond_dec rfl (fun h2 => ?_) (fun h2 => ?_); (exfalso; omega); refine W_seq ?_; refine W_region rfl ?_
              refine Wo rfl (opv_eql rfl rfl) ?_; refine Wo rfl (opv_assign (v := .bool _) rfl) ?_; refine Wo_nil ?_; refine W_cond_dec rfl (fun h3 => ?_) (fun h3 => ?_); (exfalso; omega); refine W_seq ?_; refine W_seq ?_; refine W_region rfl ?_
              refine Wo rfl (opv_eql rfl rfl) ?_; refine Wo rfl (opv_assign (v := .bool _) rfl) ?_; refine Wo_nil ?_; refine W_cond_dec rfl (fun h4 => ?_) (fun h4 => ?_); (exfalso; omega); refine W_region rfl ?_
              refine Wo rfl (opv_eql rfl rfl) ?_; refine Wo rfl (opv_assign (v := .bool _) rfl) ?_; refine Wo_nil ?_; refine W_cond_dec rfl (fun h5 => ?_) (fun h5 => ?_); (exfalso; omega); refine W_seq ?_; refine W_region rfl ?_
              refine Wo rfl (opv_move (v := .string _) rfl) ?_; refine Wo_call rfl (opc2 (a := .string _) (b := .int _ _) Try.call49 rfl rfl) (hend _) ?_; rintro _ w2 ⟨rfl, E2⟩; have hs2 := E2.size
              refine Wo rfl (opv_assign (v := .int _ _) rfl) ?_; refine Wo_nil ?_; refine W_seq ?_; refine W_region rfl ?_; refine Wo rfl (opv_move (v := .string _) rfl) ?_; refine Wo rfl (opv_move (v := .int _ _) rfl) ?_
              refine Wo rfl (opv_slice_str (l := 1) Try.underlying9 rfl rfl rfl (by omega)) ?_; refine Wo_call rfl (opc1 (a := .string _) Try.call21 rfl) (i1 _) ?_; rintro _ w3 ⟨rfl, E3⟩; have hs3 := E3.size
              refine Wo rfl (opv_move (v := .tuple _) rfl) ?_; refine Wo rfl (opv_extract (v := .string _) rfl rfl) ?_; refine Wo rfl (opv_extract (v := .bool _) rfl rfl) ?_; refine Wo rfl (opv_assign (v := .string _) rfl) ?_
              refine Wo rfl (opv_assign (v := .bool _) rfl) ?_; refine Wo_nil ?_; refine W_seq ?_; refine W_region rfl ?_; refine Wo rfl (opv_move (v := .string _) rfl) ?_; refine Wo rfl (opv_move (v := .int _ _) rfl) ?_
              refine Wo rfl (opv_add rfl rfl (by omega)) ?_; refine Wo rfl (opv_move (v := .string _) rfl) ?_; refine Wo rfl (opv_len_str Try.underlying9 rfl) ?_; refine Wo rfl (opv_sub rfl rfl (by omega)) ?_
              refine Wo rfl (opv_slice_str_z Try.underlying9 rfl rfl rfl (by omega)) ?_; refine Wo_call rfl (opc1 (a := .string _) Try.call21 rfl) (i2 _) ?_; rintro _ w4 ⟨rfl, E4⟩; have hs4 := E4.size
              refine Wo rfl (opv_move (v := .tuple _) rfl) ?_; refine Wo rfl (opv_extract (v := .string _) rfl rfl) ?_; refine Wo rfl (opv_extract (v := .bool _) rfl rfl) ?_; refine Wo rfl (opv_assign (v := .string _) rfl) ?_
              refine Wo rfl (opv_assign (v := .bool _) rfl) ?_; refine Wo_nil ?_; refine W_seq ?_; refine W_seq ?_; refine W_region rfl ?_; refine Wo rfl (opv_move (v := .bool _) rfl) ?_; refine Wo rfl (opv_not rfl) ?_
              refine Wo_split rfl (opv_move (v := .bool _) rfl) (fun h6 => ?_) (fun h6 => ?_); contradiction; refine Wo rfl (opv_move (v := .bool _) rfl) ?_; refine Wo rfl (opv_not rfl) ?_; refine Wo rfl (opv_pick_f (v := .bool _) rfl rfl) ?_
              refine Wo_nil ?_; refine W_cond rfl (fun h7 => ?_) (fun h7 => ?_); contradiction; refine W_skip ?_; refine W_seq ?_; refine W_region rfl ?_; refine Wo rfl (opv_assign (v := .string _) rfl) ?_; refine Wo_nil ?_; refine W_seq ?_
              refine W_seq ?_; refine W_region rfl ?_; refine Wo rfl (opv_move (v := .string _) rfl) ?_; refine Wo rfl (opv_move (v := .int _ _) rfl) ?_; refine Wo rfl (opv_index_str Try.underlying9 rfl rfl (by omega)) ?_
              refine Wo rfl (opv_eql rfl rfl) ?_; refine Wo_nil ?_; refine W_cond_dec rfl (fun h8 => ?_) (fun h8 => ?_); refine W_region rfl ?_; refine Wo rfl (opv_assign (v := .string _) rfl) ?_; refine Wo_nil ?_; refine W_region rfl ?_
              refine Wo rfl (opv_move (v := .string _) rfl) ?_; refine Wo rfl (opv_add_str rfl rfl (by simp <;> omega)) ?_; refine Wo rfl (opv_move (v := .string _) rfl) ?_; refine Wo rfl (opv_add_str rfl rfl (by simp <;> omega)) ?_
              refine Wo rfl (opv_move (v := .string _) rfl) ?_; refine Wo rfl (opv_add_str rfl rfl (by simp <;> omega)) ?_; refine Wo rfl (opv_add_str rfl rfl (by simp <;> omega)) ?_; refine Wo rfl (opv_assign (v := .string _) rfl) ?_
              refine Wo_nil ?_; refine W_seq ?_; refine W_seq ?_; refine W_region rfl ?_; refine Wo rfl (opv_move (v := .string _) rfl) ?_; refine Wo_call rfl (opc1 (a := .string _) Try.call15 rfl) (hfo' _) ?_; rintro _ w5 ⟨rfl, E5⟩
              have hs5 := E5.size; refine Wo rfl (opv_not rfl) ?_; refine Wo_nil ?_; refine W_cond rfl (fun h9 => ?_) (fun h9 => ?_); refine W_seq ?_; refine W_region rfl ?_; refine Wo rfl (opv_assign (v := .string _) rfl) ?_
              refine Wo rfl (opv_assign (v := .bool _) rfl) ?_; refine Wo_nil ?_; refine W_ret ?_; exact ⟨rfl, ((((E1.trans E2).trans E3).trans E4).trans E5)⟩; contradiction; (exfalso; omega)
      · have eg : oppP g = ([], false) := if_neg hg
        have eh : oppP h = ([], false) := if_neg (by omega)
        rw [eg] at i2
        rw [eh]
        clear hfn eg ef he ho hfo eh
        generalize f.enc.length = m1 at *
        refine fn_of_W2 Try.func21 rfl Try.results21 Try.ntmps21 rfl ?_
        focus
          refine W_seq ?_; refine W_region rfl ?_; refine Wo rfl (opv_assign (v := .string _) rfl) ?_; refine Wo rfl (opv_assign (v := .bool _) rfl) ?_; refine Wo_nil ?_; refine W_seq ?_; refine W_seq ?_; refine W_region rfl ?_
          refine Wo rfl (opv_move (v := .string _) rfl) ?_; refine Wo_call rfl (opc1 (a := .string _) Try.call15 rfl) (hs _) ?_; rintro _ w1 ⟨rfl, E1⟩; have hs1 := E1.size; refine Wo rfl (opv_not rfl) ?_; refine Wo_nil ?_
          refine W_cond rfl (fun h2 => ?_) (fun h2 => ?_); contradiction; refine W_skip ?_; refine W_seq ?_; refine W_region rfl ?_; refine Wo rfl (opv_assign (v := .string _) rfl) ?_; refine Wo_nil ?_; refine W_seq ?_; refine W_seq ?_
          refine W_region rfl ?_; refine Wo rfl (opv_move (v := .string _) rfl) ?_; refine Wo rfl (opv_index_str (k := 0) Try.underlying9 rfl rfl (by omega)) ?_; refine Wo_nil ?_; refine W_block ?_; refine W_seq ?_; refine W_region rfl ?_
          refine Wo rfl (opv_eql rfl rfl) ?_; refine Wo rfl (opv_assign (v := .bool _) rfl) ?_; refine Wo_nil ?_; refine W_cond_dec rfl (fun h3 => ?_) (fun h3 => ?_); (exfalso; omega); refine W_seq ?_; refine W_region rfl ?_
          refine Wo rfl (opv_eql rfl rfl) ?_; refine Wo rfl (opv_assign (v := .bool _) rfl) ?_; refine Wo_nil ?_; refine W_cond_dec rfl (fun h4 => ?_) (fun h4 => ?_); (exfalso; omega); refine W_seq ?_; refine W_seq ?_; refine W_region rfl ?_
          refine Wo rfl (opv_eql rfl rfl) ?_; refine Wo rfl (opv_assign (v := .bool _) rfl) ?_; refine Wo_nil ?_; refine W_cond_dec rfl (fun h5 => ?_) (fun h5 => ?_); (exfalso; omega); refine W_region rfl ?_
          refine Wo rfl (opv_eql rfl rfl) ?_; refine Wo rfl (opv_assign (v := .bool _) rfl) ?_; refine Wo_nil ?_; refine W_cond_dec rfl (fun h6 => ?_) (fun h6 => ?_); (exfalso; omega); refine W_seq ?_; refine W_region rfl ?_
          refine Wo rfl (opv_move (v := .string _) rfl) ?_; refine Wo_call rfl (opc2 (a := .string _) (b := .int _ _) Try.call49 rfl rfl) (hend _) ?_; rintro _ w2 ⟨rfl, E2⟩; have hs2 := E2.size
          refine Wo rfl (opv_assign (v := .int _ _) rfl) ?_; refine Wo_nil ?_; refine W_seq ?_; refine W_region rfl ?_; refine Wo rfl (opv_move (v := .string _) rfl) ?_; refine Wo rfl (opv_move (v := .int _ _) rfl) ?_
          refine Wo rfl (opv_slice_str (l := 1) Try.underlying9 rfl rfl rfl (by omega)) ?_; refine Wo_call rfl (opc1 (a := .string _) Try.call21 rfl) (i1 _) ?_; rintro _ w3 ⟨rfl, E3⟩; have hs3 := E3.size
          refine Wo rfl (opv_move (v := .tuple _) rfl) ?_; refine Wo rfl (opv_extract (v := .string _) rfl rfl) ?_; refine Wo rfl (opv_extract (v := .bool _) rfl rfl) ?_; refine Wo rfl (opv_assign (v := .string _) rfl) ?_
          refine Wo rfl (opv_assign (v := .bool _) rfl) ?_; refine Wo_nil ?_; refine W_seq ?_; refine W_region rfl ?_; refine Wo rfl (opv_move (v := .string _) rfl) ?_; refine Wo rfl (opv_move (v := .int _ _) rfl) ?_
          refine Wo rfl (opv_add rfl rfl (by omega)) ?_; refine Wo rfl (opv_move (v := .string _) rfl) ?_; refine Wo rfl (opv_len_str Try.underlying9 rfl) ?_; refine Wo rfl (opv_sub rfl rfl (by omega)) ?_
          refine Wo rfl (opv_slice_str_z Try.underlying9 rfl rfl rfl (by omega)) ?_; refine Wo_call rfl (opc1 (a := .string _) Try.call21 rfl) (i2 _) ?_; rintro _ w4 ⟨rfl, E4⟩; have hs4 := E4.size
          refine Wo rfl (opv_move (v := .tuple _) rfl) ?_; refine Wo rfl (opv_extract (v := .string _) rfl rfl) ?_; refine Wo rfl (opv_extract (v := .bool _) rfl rfl) ?_; refine Wo rfl (opv_assign (v := .string _) rfl) ?_
          refine Wo rfl (opv_assign (v := .bool _) rfl) ?_; refine Wo_nil ?_; refine W_seq ?_; refine W_seq ?_; refine W_region rfl ?_; refine Wo rfl (opv_move (v := .bool _) rfl) ?_; refine Wo rfl (opv_not rfl) ?_
          refine Wo_split rfl (opv_move (v := .bool _) rfl) (fun h7 => ?_) (fun h7 => ?_); contradiction; refine Wo rfl (opv_move (v := .bool _) rfl) ?_; refine Wo rfl (opv_not rfl) ?_; refine Wo rfl (opv_pick_f (v := .bool _) rfl rfl) ?_
          refine Wo_nil ?_; refine W_cond rfl (fun h8 => ?_) (fun h8 => ?_); refine W_seq ?_; refine W_region rfl ?_; refine Wo rfl (opv_assign (v := .string _) rfl) ?_; refine Wo rfl (opv_assign (v := .bool _) rfl) ?_; refine Wo_nil ?_
          refine W_ret ?_; exact ⟨rfl, (((E1.trans E2).trans E3).trans E4)⟩; contradiction
    · have ef : oppP f = ([], false) := if_neg hf
      have eh : oppP h = ([], false) := if_neg (by omega)
      rw [ef] at i1
      rw [eh]
      clear hfn ef he ho hfo eh
      generalize f.enc.length = m1 at *
      refine fn_of_W2 Try.func21 rfl Try.results21 Try.ntmps21 rfl ?_
      focus
        refine W_seq ?_; refine W_region rfl ?_; refine Wo rfl (opv_assign (v := .string _) rfl) ?_; refine Wo rfl (opv_assign (v := .bool _) rfl) ?_; refine Wo_nil ?_; refine W_seq ?_; refine W_seq ?_; refine W_region rfl ?_
        refine Wo rfl (opv_move (v := .string _) rfl) ?_; refine Wo_call rfl (opc1 (a := .string _) Try.call15 rfl) (hs _) ?_; rintro _ w1 ⟨rfl, E1⟩; have hs1 := E1.size; refine Wo rfl (opv_not rfl) ?_; refine Wo_nil ?_
        refine W_cond rfl (fun h2 => ?_) (fun h2 => ?_); contradiction; refine W_skip ?_; refine W_seq ?_; refine W_region rfl ?_; refine Wo rfl (opv_assign (v := .string _) rfl) ?_; refine Wo_nil ?_; refine W_seq ?_; refine W_seq ?_
        refine W_region rfl ?_; refine Wo rfl (opv_move (v := .string _) rfl) ?_; refine Wo rfl (opv_index_str (k := 0) Try.underlying9 rfl rfl (by omega)) ?_; refine Wo_nil ?_; refine W_block ?_; refine W_seq ?_; refine W_region rfl ?_
        refine Wo rfl (opv_eql rfl rfl) ?_; refine Wo rfl (opv_assign (v := .bool _) rfl) ?_; refine Wo_nil ?_; refine W_cond_dec rfl (fun h3 => ?_) (fun h3 => ?_); (exfalso; omega); refine W_seq ?_; refine W_region rfl ?_
        refine Wo rfl (opv_eql rfl rfl) ?_; refine Wo rfl (opv_assign (v := .bool _) rfl) ?_; refine Wo_nil ?_; refine W_cond_dec rfl (fun h4 => ?_) (fun h4 => ?_); (exfalso; omega); refine W_seq ?_; refine W_seq ?_; refine W_region rfl ?_
        refine Wo rfl (opv_eql rfl rfl) ?_; refine Wo rfl (opv_assign (v := .bool _) rfl) ?_; refine Wo_nil ?_; refine W_cond_dec rfl (fun h5 => ?_) (fun h5 => ?_); (exfalso; omega); refine W_region rfl ?_
        refine Wo rfl (opv_eql rfl rfl) ?_; refine Wo rfl (opv_assign (v := .bool _) rfl) ?_; refine Wo_nil ?_; refine W_cond_dec rfl (fun h6 => ?_) (fun h6 => ?_); (exfalso; omega); refine W_seq ?_; refine W_region rfl ?_
        refine Wo rfl (opv_move (v := .string _) rfl) ?_; refine Wo_call rfl (opc2 (a := .string _) (b := .int _ _) Try.call49 rfl rfl) (hend _) ?_; rintro _ w2 ⟨rfl, E2⟩; have hs2 := E2.size
        refine Wo rfl (opv_assign (v := .int _ _) rfl) ?_; refine Wo_nil ?_; refine W_seq ?_; refine W_region rfl ?_; refine Wo rfl (opv_move (v := .string _) rfl) ?_; refine Wo rfl (opv_move (v := .int _ _) rfl) ?_
        refine Wo rfl (opv_slice_str (l := 1) Try.underlying9 rfl rfl rfl (by omega)) ?_; refine Wo_call rfl (opc1 (a := .string _) Try.call21 rfl) (i1 _) ?_; rintro _ w3 ⟨rfl, E3⟩; have hs3 := E3.size
        refine Wo rfl (opv_move (v := .tuple _) rfl) ?_; refine Wo rfl (opv_extract (v := .string _) rfl rfl) ?_; refine Wo rfl (opv_extract (v := .bool _) rfl rfl) ?_; refine Wo rfl (opv_assign (v := .string _) rfl) ?_
        refine Wo rfl (opv_assign (v := .bool _) rfl) ?_; refine Wo_nil ?_; refine W_seq ?_; refine W_region rfl ?_; refine Wo rfl (opv_move (v := .string _) rfl) ?_; refine Wo rfl (opv_move (v := .int _ _) rfl) ?_
        refine Wo rfl (opv_add rfl rfl (by omega)) ?_; refine Wo rfl (opv_move (v := .string _) rfl) ?_; refine Wo rfl (opv_len_str Try.underlying9 rfl) ?_; refine Wo rfl (opv_sub rfl rfl (by omega)) ?_
        refine Wo rfl (opv_slice_str_z Try.underlying9 rfl rfl rfl (by omega)) ?_; refine Wo_call rfl (opc1 (a := .string _) Try.call21 rfl) (i2 _) ?_; rintro _ w4 ⟨rfl, E4⟩; have hs4 := E4.size
        refine Wo rfl (opv_move (v := .tuple _) rfl) ?_; refine Wo rfl (opv_extract (v := .string _) rfl rfl) ?_; refine Wo rfl (opv_extract (v := .bool _) rfl rfl) ?_; refine Wo rfl (opv_assign (v := .string _) rfl) ?_
        refine Wo rfl (opv_assign (v := .bool _) rfl) ?_; refine Wo_nil ?_; refine W_seq ?_; refine W_seq ?_; refine W_region rfl ?_; refine Wo rfl (opv_move (v := .bool _) rfl) ?_; refine Wo rfl (opv_not rfl) ?_
        refine Wo_split rfl (opv_move (v := .bool _) rfl) (fun h7 => ?_) (fun h7 => ?_); refine Wo_skip rfl ?_; refine Wo_skip rfl ?_; refine Wo rfl (opv_pick_t (v := .bool _) rfl rfl) ?_; refine Wo_nil ?_; refine W_cond_true rfl ?_
        refine W_seq ?_; refine W_region rfl ?_; refine Wo rfl (opv_assign (v := .string _) rfl) ?_; refine Wo rfl (opv_assign (v := .bool _) rfl) ?_; refine Wo_nil ?_; refine W_ret ?_; exact ⟨rfl, (((E1.trans E2).trans E3).trans E4)⟩
        contradiction
  intro f
  induction f with
  | t =>
    intro h60 w
    have hs := hok .t h60
    have hn : ((Fm.enc .t).getD 0 0).toNat = 116 := rfl
    have hl : (Fm.enc .t).length = 1 := rfl
    have hfo : ∀ w : World, Does Try.prog 15 [str [33, 116]] w (Ret w (.bool true)) := hok (.neg .t) (by decide)
    refine fn_of_W2 Try.func21 rfl Try.results21 Try.ntmps21 rfl ?_
    focus
      refine W_seq ?_; refine W_region rfl ?_; refine Wo rfl (opv_assign (v := .string _) rfl) ?_; refine Wo rfl (opv_assign (v := .bool _) rfl) ?_; refine Wo_nil ?_; refine W_seq ?_; refine W_seq ?_; refine W_region rfl ?_
      refine Wo rfl (opv_move (v := .string _) rfl) ?_; refine Wo_call rfl (opc1 (a := .string _) Try.call15 rfl) (hs _) ?_; rintro _ w1 ⟨rfl, E1⟩; have hs1 := E1.size; refine Wo rfl (opv_not rfl) ?_; refine Wo_nil ?_
      refine W_cond rfl (fun h1 => ?_) (fun h1 => ?_); contradiction; refine W_skip ?_; refine W_seq ?_; refine W_region rfl ?_; refine Wo rfl (opv_assign (v := .string _) rfl) ?_; refine Wo_nil ?_; refine W_seq ?_; refine W_seq ?_
      refine W_region rfl ?_; refine Wo rfl (opv_move (v := .string _) rfl) ?_; refine Wo rfl (opv_index_str (k := 0) Try.underlying9 rfl rfl (by omega)) ?_; refine Wo_nil ?_; refine W_block ?_; refine W_seq ?_; refine W_region rfl ?_
      refine Wo rfl (opv_eql rfl rfl) ?_; refine Wo rfl (opv_assign (v := .bool _) rfl) ?_; refine Wo_nil ?_; refine W_cond_dec rfl (fun h2 => ?_) (fun h2 => ?_); refine W_region rfl ?_; refine Wo rfl (opv_assign (v := .string _) rfl) ?_
      refine Wo_nil ?_; refine W_seq ?_; refine W_seq ?_; refine W_region rfl ?_; refine Wo rfl (opv_move (v := .string _) rfl) ?_; refine Wo_call rfl (opc1 (a := .string _) Try.call15 rfl) (hfo _) ?_; rintro _ w2 ⟨rfl, E2⟩
      have hs2 := E2.size; refine Wo rfl (opv_not rfl) ?_; refine Wo_nil ?_; refine W_cond rfl (fun h3 => ?_) (fun h3 => ?_); contradiction; refine W_skip ?_; refine W_seq ?_; refine W_region rfl ?_
      refine Wo rfl (opv_move (v := .string _) rfl) ?_; refine Wo rfl (opv_assign (v := .string _) rfl) ?_; refine Wo rfl (opv_assign (v := .bool _) rfl) ?_; refine Wo_nil ?_; refine W_ret ?_; exact ⟨rfl, (E1.trans E2)⟩; contradiction
  | neg f ih =>
    intro h60 w
    have hs := hok _ h60
    have hn : ((Fm.enc (.neg f)).getD 0 0).toNat = 33 := rfl
    have hl : (Fm.enc (.neg f)).length = f.enc.length + 1 := rfl
    have hfo : ∀ w : World, Does Try.prog 15 [str ((Fm.enc (.neg f)).drop 1)] w (Ret w (.bool true)) := hok f (by omega)
    have e : oppP (.neg f) = ((Fm.enc (.neg f)).drop 1, true) := if_pos (show f.enc.length ≤ 60 by omega)
    rw [e]
    refine fn_of_W2 Try.func21 rfl Try.results21 Try.ntmps21 rfl ?_
    focus
      refine W_seq ?_; refine W_region rfl ?_; refine Wo rfl (opv_assign (v := .string _) rfl) ?_; refine Wo rfl (opv_assign (v := .bool _) rfl) ?_; refine Wo_nil ?_; refine W_seq ?_; refine W_seq ?_; refine W_region rfl ?_
      refine Wo rfl (opv_move (v := .string _) rfl) ?_; refine Wo_call rfl (opc1 (a := .string _) Try.call15 rfl) (hs _) ?_; rintro _ w1 ⟨rfl, E1⟩; have hs1 := E1.size; refine Wo rfl (opv_not rfl) ?_; refine Wo_nil ?_
      refine W_cond rfl (fun h1 => ?_) (fun h1 => ?_); contradiction; refine W_skip ?_; refine W_seq ?_; refine W_region rfl ?_; refine Wo rfl (opv_assign (v := .string _) rfl) ?_; refine Wo_nil ?_; refine W_seq ?_; refine W_seq ?_
      refine W_region rfl ?_; refine Wo rfl (opv_move (v := .string _) rfl) ?_; refine Wo rfl (opv_index_str (k := 0) Try.underlying9 rfl rfl (by omega)) ?_; refine Wo_nil ?_; refine W_block ?_; refine W_seq ?_; refine W_region rfl ?_
      refine Wo rfl (opv_eql rfl rfl) ?_; refine Wo rfl (opv_assign (v := .bool _) rfl) ?_; refine Wo_nil ?_; refine W_cond_dec rfl (fun h2 => ?_) (fun h2 => ?_); (exfalso; omega); refine W_seq ?_; refine W_region rfl ?_
      refine Wo rfl (opv_eql rfl rfl) ?_; refine Wo rfl (opv_assign (v := .bool _) rfl) ?_; refine Wo_nil ?_; refine W_cond_dec rfl (fun h3 => ?_) (fun h3 => ?_); refine W_region rfl ?_; refine Wo rfl (opv_move (v := .string _) rfl) ?_
      refine Wo rfl (opv_slice_str_lo (l := 1) Try.underlying9 rfl rfl (by omega)) ?_; refine Wo rfl (opv_assign (v := .string _) rfl) ?_; refine Wo_nil ?_; refine W_seq ?_; refine W_seq ?_; refine W_region rfl ?_
      refine Wo rfl (opv_move (v := .string _) rfl) ?_; refine Wo_call rfl (opc1 (a := .string _) Try.call15 rfl) (hfo _) ?_; rintro _ w2 ⟨rfl, E2⟩; have hs2 := E2.size; refine Wo rfl (opv_not rfl) ?_; refine Wo_nil ?_
      refine W_cond rfl (fun h4 => ?_) (fun h4 => ?_); contradiction; refine W_skip ?_; refine W_seq ?_; refine W_region rfl ?_; refine Wo rfl (opv_move (v := .string _) rfl) ?_; refine Wo rfl (opv_assign (v := .string _) rfl) ?_
      refine Wo rfl (opv_assign (v := .bool _) rfl) ?_; refine Wo_nil ?_; refine W_ret ?_; exact ⟨rfl, (E1.trans E2)⟩; contradiction
  | S f ih => exact un (.S f) f 83 65 rfl rfl (.inl ⟨rfl, rfl⟩) ih
  | A f ih => exact un (.A f) f 65 83 rfl rfl (.inr ⟨rfl, rfl⟩) ih
  | and f g ih1 ih2 => exact bin (.and f g) f g 38 124 rfl (by simp [Fm.opp, Fm.enc]) (.inl ⟨rfl, rfl⟩) ih1 ih2
  | or f g ih1 ih2 => exact bin (.or f g) f g 124 38 rfl (by simp [Fm.opp, Fm.enc]) (.inr ⟨rfl, rfl⟩) ih1 ih2

theorem spec_OppositeOf_ok (s : List UInt8) (w : World) (hl : s.length ≤ lim) : Does Try.prog 21 [str s] w (Ret w (.tuple #[str (oppV s).1, .bool (oppV s).2])) := by
  cases h : theF s with
  | none =>
    have e : oppV s = ([], false) := by unfold oppV; rw [h]
    rw [e]
    have hs : ∀ w, Does Try.prog 15 [str s] w (Ret w (.bool false)) := fun w => by
      have := spec_FormulaOk_ok s w hl
      rw [okF, h] at this
      exact this
    refine fn_of_W2 Try.func21 rfl Try.results21 Try.ntmps21 rfl ?_
    focus
      refine W_seq ?_; refine W_region rfl ?_; refine Wo rfl (opv_assign (v := .string _) rfl) ?_; refine Wo rfl (opv_assign (v := .bool _) rfl) ?_; refine Wo_nil ?_; refine W_seq ?_; refine W_seq ?_; refine W_region rfl ?_
      refine Wo rfl (opv_move (v := .string _) rfl) ?_; refine Wo_call rfl (opc1 (a := .string _) Try.call15 rfl) (hs _) ?_; rintro _ w1 ⟨rfl, E1⟩; have hs1 := E1.size; refine Wo rfl (opv_not rfl) ?_; refine Wo_nil ?_
      refine W_cond rfl (fun h1 => ?_) (fun h1 => ?_); refine W_seq ?_; refine W_region rfl ?_; refine Wo rfl (opv_assign (v := .string _) rfl) ?_; refine Wo rfl (opv_assign (v := .bool _) rfl) ?_; refine Wo_nil ?_; refine W_ret ?_
      exact ⟨rfl, E1⟩; contradiction
  | some f =>
    have e : oppV s = oppP f := by unfold oppV; rw [h]
    rw [e]
    obtain ⟨rfl, h60⟩ := theF_some.1 h
    exact spec_OppositeOf_ok1 f h60 w


theorem FnExactFormulaDeep_walk (w : World) (s : List UInt8) (hs : s.length ≤ 9223372036854775807) : Does Try.prog 4 [str s] w (Ret w (.bool true)) := by
  by_cases hl : s.length ≤ 1048576
  · have hl' : s.length ≤ lim := by unfold lim; omega
    refine fn_of_W1 Try.func4 rfl Try.results4 Try.ntmps4 rfl ?_
    focus
      refine W_seq ?_; refine W_region rfl ?_; refine Wo rfl (opv_assign (v := .bool _) rfl) ?_; refine Wo_nil ?_; refine W_seq ?_; refine W_seq ?_; refine W_region rfl ?_; refine Wo rfl (opv_move (v := .string _) rfl) ?_
      refine Wo rfl (opv_len_str Try.underlying9 rfl) ?_; refine Wo rfl (opv_gtr rfl rfl) ?_; refine Wo_nil ?_; refine W_cond_dec rfl (fun h1 => ?_) (fun h1 => ?_); (exfalso; omega); refine W_skip ?_; refine W_seq ?_
      refine W_region rfl ?_; refine Wo rfl (opv_move (v := .string _) rfl) ?_; refine Wo_call rfl (opc1 (a := .string _) Try.call17 rfl) (spec_FormulaDeep_ok _ _ (by assumption)) ?_; rintro _ w1 ⟨rfl, E1⟩; have hs1 := E1.size
      refine Wo rfl (opv_assign (v := .int _ _) rfl) ?_; refine Wo_nil ?_; refine W_seq ?_; refine W_region rfl ?_; refine Wo rfl (opv_move (v := .string _) rfl) ?_
      refine Wo_call rfl (opc1 (a := .string _) Try.call18 rfl) (impl_FormulaDeep_ok _ _ (by assumption)) ?_; rintro _ w2 ⟨rfl, E2⟩; have hs2 := E2.size; refine Wo rfl (opv_assign (v := .int _ _) rfl) ?_; refine Wo_nil ?_; refine W_seq ?_
      refine W_seq ?_; refine W_region rfl ?_; refine Wo rfl (opv_move (v := .int _ _) rfl) ?_; refine Wo rfl (opv_move (v := .int _ _) rfl) ?_; refine Wo rfl (opv_neq rfl rfl) ?_; refine Wo_nil ?_
      refine W_cond_ndec rfl (fun h2 => ?_) (fun h2 => ?_); contradiction; refine W_skip ?_; refine W_seq ?_; refine W_region rfl ?_; refine Wo rfl (opv_assign (v := .bool _) rfl) ?_; refine Wo_nil ?_; refine W_ret ?_
      exact ⟨rfl, (E1.trans E2)⟩
  · refine fn_of_W1 Try.func4 rfl Try.results4 Try.ntmps4 rfl ?_
    focus
      refine W_seq ?_; refine W_region rfl ?_; refine Wo rfl (opv_assign (v := .bool _) rfl) ?_; refine Wo_nil ?_; refine W_seq ?_; refine W_seq ?_; refine W_region rfl ?_; refine Wo rfl (opv_move (v := .string _) rfl) ?_
      refine Wo rfl (opv_len_str Try.underlying9 rfl) ?_; refine Wo rfl (opv_gtr rfl rfl) ?_; refine Wo_nil ?_; refine W_cond_dec rfl (fun h1 => ?_) (fun h1 => ?_); refine W_seq ?_; refine W_region rfl ?_
      refine Wo rfl (opv_assign (v := .bool _) rfl) ?_; refine Wo_nil ?_; refine W_ret ?_; exact ⟨rfl, (Ext.refl _)⟩; (exfalso; omega)


theorem FnExactOppositeOf_walk (w : World) (s : List UInt8) (hs : s.length ≤ 9223372036854775807) : Does Try.prog 6 [str s] w (Ret w (.bool true)) := by
  by_cases hl : s.length ≤ 1048576
  · have hl' : s.length ≤ lim := by unfold lim; omega
    refine fn_of_W1 Try.func6 rfl Try.results6 Try.ntmps6 rfl ?_
    focus
      refine W_seq ?_; refine W_region rfl ?_; refine Wo rfl (opv_assign (v := .bool _) rfl) ?_; refine Wo_nil ?_; refine W_seq ?_; refine W_seq ?_; refine W_region rfl ?_; refine Wo rfl (opv_move (v := .string _) rfl) ?_
      refine Wo rfl (opv_len_str Try.underlying9 rfl) ?_; refine Wo rfl (opv_gtr rfl rfl) ?_; refine Wo_nil ?_; refine W_cond_dec rfl (fun h1 => ?_) (fun h1 => ?_); (exfalso; omega); refine W_skip ?_; refine W_seq ?_
      refine W_region rfl ?_; refine Wo rfl (opv_move (v := .string _) rfl) ?_; refine Wo_call rfl (opc1 (a := .string _) Try.call21 rfl) (spec_OppositeOf_ok _ _ (by assumption)) ?_; rintro _ w1 ⟨rfl, E1⟩; have hs1 := E1.size
      refine Wo rfl (opv_move (v := .tuple _) rfl) ?_; refine Wo rfl (opv_extract (v := .string _) rfl rfl) ?_; refine Wo rfl (opv_extract (v := .bool _) rfl rfl) ?_; refine Wo rfl (opv_assign (v := .string _) rfl) ?_
      refine Wo rfl (opv_assign (v := .bool _) rfl) ?_; refine Wo_nil ?_; refine W_seq ?_; refine W_region rfl ?_; refine Wo rfl (opv_move (v := .string _) rfl) ?_
      refine Wo_call rfl (opc1 (a := .string _) Try.call22 rfl) (impl_OppositeOf_ok _ _ (by assumption)) ?_; rintro _ w2 ⟨rfl, E2⟩; have hs2 := E2.size; refine Wo rfl (opv_move (v := .tuple _) rfl) ?_
      refine Wo rfl (opv_extract (v := .string _) rfl rfl) ?_; refine Wo rfl (opv_extract (v := .bool _) rfl rfl) ?_; refine Wo rfl (opv_assign (v := .string _) rfl) ?_; refine Wo rfl (opv_assign (v := .bool _) rfl) ?_; refine Wo_nil ?_
      refine W_seq ?_; refine W_seq ?_; refine W_region rfl ?_; refine Wo rfl (opv_move (v := .string _) rfl) ?_; refine Wo rfl (opv_move (v := .string _) rfl) ?_; refine Wo rfl (opv_neq_str rfl rfl) ?_
      refine Wo_split_ndec rfl (opv_move (v := .bool _) rfl) (fun h2 => ?_) (fun h2 => ?_); contradiction; refine Wo rfl (opv_move (v := .bool _) rfl) ?_; refine Wo rfl (opv_move (v := .bool _) rfl) ?_
      refine Wo rfl (opv_neq_bool Try.underlying4 rfl rfl) ?_; refine Wo rfl (opv_pick_f (v := .bool _) rfl rfl) ?_; refine Wo_nil ?_; refine W_cond_ndec rfl (fun h3 => ?_) (fun h3 => ?_); contradiction; refine W_skip ?_; refine W_seq ?_
      refine W_region rfl ?_; refine Wo rfl (opv_assign (v := .bool _) rfl) ?_; refine Wo_nil ?_; refine W_ret ?_; exact ⟨rfl, (E1.trans E2)⟩
  · refine fn_of_W1 Try.func6 rfl Try.results6 Try.ntmps6 rfl ?_
    focus
      refine W_seq ?_; refine W_region rfl ?_; refine Wo rfl (opv_assign (v := .bool _) rfl) ?_; refine Wo_nil ?_; refine W_seq ?_; refine W_seq ?_; refine W_region rfl ?_; refine Wo rfl (opv_move (v := .string _) rfl) ?_
      refine Wo rfl (opv_len_str Try.underlying9 rfl) ?_; refine Wo rfl (opv_gtr rfl rfl) ?_; refine Wo_nil ?_; refine W_cond_dec rfl (fun h1 => ?_) (fun h1 => ?_); refine W_seq ?_; refine W_region rfl ?_
      refine Wo rfl (opv_assign (v := .bool _) rfl) ?_; refine Wo_nil ?_; refine W_ret ?_; exact ⟨rfl, (Ext.refl _)⟩; (exfalso; omega)
end Go.Proofs.Ytjdfnngmbaojjaa
