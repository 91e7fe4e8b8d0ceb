/- Walks: where formulas hold, the reference. -/
import Derived.Test.YtjdfnngmbaojjaaHsWFmH
namespace Go.Proofs.Ytjdfnngmbaojjaa
open Go.Hs
set_option maxRecDepth 10000
set_option maxHeartbeats 4000000
set_option linter.unusedVariables false
set_option linter.unusedSimpArgs false

theorem any_range_succ (g : Nat → Bool) (k : Nat) : (List.range (k + 1)).any g = ((List.range k).any g || g k) := by rw [List.range_succ, List.any_append]; simp
theorem arr_any {p : List (List Int)} (hp : Pic p) {i : Nat} (hi : i < p.length) (g : Nat → Bool) : (arr p i).any g = (List.range p.length).any fun j => decide (p[i].getD j 0 = 1) && g j := by
  unfold arr arrR
  rw [getD_lt hi, hp.row hi, List.any_filter]
theorem mid_end {h f g : Fm} {c : UInt8} (he : h.enc = 40 :: (f.enc ++ c :: (g.enc ++ [41]))) : endV (h.enc.drop 1) h.enc.length = ((f.enc.length + 1 : Nat) : Int) := by
  rw [endV, pre_eq (l := h.enc.drop 1) (f := f) (r := c :: (g.enc ++ [41])) (by rw [he]; rfl)]
  have hlen : h.enc.length = f.enc.length + g.enc.length + 3 := by rw [he]; simp; omega
  simp only [List.length_cons, List.length_append, List.length_nil]
  omega
theorem mid_right {h f g : Fm} {c : UInt8} (he : h.enc = 40 :: (f.enc ++ c :: (g.enc ++ [41]))) : (h.enc.drop (((f.enc.length + 1 : Nat) : Int) + 1).toNat).take (((h.enc.length : Int) - 1).toNat - (((f.enc.length + 1 : Nat) : Int) + 1).toNat) = g.enc := by
  have hlen : h.enc.length = f.enc.length + g.enc.length + 3 := by rw [he]; simp; omega
  have a1 : (((f.enc.length + 1 : Nat) : Int) + 1).toNat = f.enc.length + 2 := by omega
  have a2 : ((h.enc.length : Int) - 1).toNat = f.enc.length + g.enc.length + 2 := by omega
  have a3 : f.enc.length + g.enc.length + 2 - (f.enc.length + 2) = g.enc.length := by omega
  rw [a1, a2, a3, he]
  have : f.enc.length + 2 = (f.enc.length + 1) + 1 := rfl
  rw [this, List.drop_succ_cons, List.drop_append, List.drop_eq_nil_of_le (by omega)]
  simp
theorem mid_sign {h f g : Fm} {c : UInt8} (he : h.enc = 40 :: (f.enc ++ c :: (g.enc ++ [41]))) : (h.enc.getD (f.enc.length + 1) 0).toNat = c.toNat := by
  rw [he, List.getD_cons_succ, List.getD_eq_getElem?_getD, List.getElem?_append_right (Nat.le_refl _)]; simp
theorem l10Holds_ok (p : List (List Int)) (hp : Pic p) : ∀ (f : Fm) (w : World) (pv : Value) (z : Int), ESl Ints w pv p → 0 ≤ z ∧ z < p.length → f.enc.length ≤ 60 →
    Does Try.prog 57 [str f.enc, pv, .int .i64 z] w (Ret w (.bool (f.holds p z.toNat))) := by
  have hp5 := hp.2.1
  have bin : ∀ (h f g : Fm) (c : UInt8), h.enc = 40 :: (f.enc ++ c :: (g.enc ++ [41])) → (c = 38 ∧ (∀ i, h.holds p i = (f.holds p i && g.holds p i)) ∨ c = 124 ∧ (∀ i, h.holds p i = (f.holds p i || g.holds p i))) →
      (∀ (w : World) (pv : Value) (z : Int), ESl Ints w pv p → 0 ≤ z ∧ z < p.length → f.enc.length ≤ 60 → Does Try.prog 57 [str f.enc, pv, .int .i64 z] w (Ret w (.bool (f.holds p z.toNat)))) →
      (∀ (w : World) (pv : Value) (z : Int), ESl Ints w pv p → 0 ≤ z ∧ z < p.length → g.enc.length ≤ 60 → Does Try.prog 57 [str g.enc, pv, .int .i64 z] w (Ret w (.bool (g.holds p z.toNat)))) →
      ∀ (w : World) (pv : Value) (z : Int), ESl Ints w pv p → 0 ≤ z ∧ z < p.length → h.enc.length ≤ 60 → Does Try.prog 57 [str h.enc, pv, .int .i64 z] w (Ret w (.bool (h.holds p z.toNat))) := by
    intro h f g c he hcd ih1 ih2 w pv z hpv hz h60
    have hlen : h.enc.length = f.enc.length + g.enc.length + 3 := by rw [he]; simp; omega
    have hn : (h.enc.getD 0 0).toNat = 40 := by rw [he]; rfl
    have hend : ∀ w, Does Try.prog 49 [str h.enc, .int .i64 1] w (Ret w (.int .i64 ((f.enc.length + 1 : Nat) : Int))) := fun w => by
      have := l10End_ok _ h.enc 1 w (by unfold lim; omega) (Nat.le_refl _)
      rw [mid_end he] at this
      exact this
    have e1 : (h.enc.drop 1).take (f.enc.length + 1 - 1) = f.enc := by rw [he]; simp
    have hmid := mid_sign he
    have i1 : ∀ (w : World) (pv : Value), ESl Ints w pv p → Does Try.prog 57 [str ((h.enc.drop 1).take (f.enc.length + 1 - 1)), pv, .int .i64 z] w (Ret w (.bool (f.holds p z.toNat))) := fun w pv h9 => by rw [e1]; exact ih1 w pv z h9 hz (by omega)
    have i2 : ∀ (w : World) (pv : Value), ESl Ints w pv p → Does Try.prog 57 [str ((h.enc.drop (((f.enc.length + 1 : Nat) : Int) + 1).toNat).take (((h.enc.length : Int) - 1).toNat - (((f.enc.length + 1 : Nat) : Int) + 1).toNat)), pv, .int .i64 z] w (Ret w (.bool (g.holds p z.toNat))) :=
      fun w pv h9 => by rw [mid_right he]; exact ih2 w pv z h9 hz (by omega)
    clear e1 ih1 ih2 he
    generalize f.enc.length = m1 at *
    rcases hcd with ⟨rfl, hc⟩ | ⟨rfl, hc⟩
    · rw [hc]
      have hm : (h.enc.getD (m1 + 1) 0).toNat = 38 := hmid
      refine fn_of_W1 Try.func57 rfl Try.results57 Try.ntmps57 rfl ?_
      focus
        refine W_seq ?_; refine W_region rfl ?_; refine Wo rfl (opv_assign (v := .bool _) rfl) ?_; refine Wo_nil ?_; refine W_seq ?_; refine W_seq ?_; refine W_region rfl ?_; refine Wo rfl (opv_move (v := .string _) rfl) ?_
        refine Wo rfl (opv_index_str (k := 0) Try.underlying9 rfl rfl (by omega)) ?_; refine Wo_nil ?_; refine W_block ?_; refine W_seq ?_; refine W_region rfl ?_; refine Wo rfl (opv_eql rfl rfl) ?_
        refine Wo rfl (opv_assign (v := .bool _) rfl) ?_; refine Wo_nil ?_; refine W_cond_dec rfl (fun h1 => ?_) (fun h1 => ?_); (exfalso; omega); refine W_seq ?_; refine W_region rfl ?_; refine Wo rfl (opv_eql rfl rfl) ?_
        refine Wo rfl (opv_assign (v := .bool _) rfl) ?_; refine Wo_nil ?_; refine W_cond_dec rfl (fun h2 => ?_) (fun h2 => ?_); (exfalso; omega); refine W_seq ?_; refine W_region rfl ?_; refine Wo rfl (opv_eql rfl rfl) ?_
        refine Wo rfl (opv_assign (v := .bool _) rfl) ?_; refine Wo_nil ?_; refine W_cond_dec rfl (fun h3 => ?_) (fun h3 => ?_); (exfalso; omega); refine W_seq ?_; refine W_region rfl ?_; refine Wo rfl (opv_eql rfl rfl) ?_
        refine Wo rfl (opv_assign (v := .bool _) rfl) ?_; refine Wo_nil ?_; refine W_cond_dec rfl (fun h4 => ?_) (fun h4 => ?_); (exfalso; omega); refine W_skip ?_; refine W_seq ?_; refine W_region rfl ?_
        refine Wo rfl (opv_move (v := .string _) rfl) ?_; refine Wo_call rfl (opc2 (a := .string _) (b := .int _ _) Try.call49 rfl rfl) (hend _) ?_; rintro _ w1 ⟨rfl, E1⟩; have hs1 := E1.size
        refine Wo rfl (opv_assign (v := .int _ _) rfl) ?_; refine Wo_nil ?_; refine W_seq ?_; refine W_region rfl ?_; refine Wo rfl (opv_move (v := .string _) rfl) ?_; refine Wo rfl (opv_move (v := .int _ _) rfl) ?_
        refine Wo rfl (opv_slice_str (l := 1) Try.underlying9 rfl rfl rfl (by omega)) ?_; refine Wo rfl (opv_move (v := pv) rfl) ?_; refine Wo rfl (opv_move (v := .int _ _) rfl) ?_
        refine Wo_call rfl (opc3 (a := .string _) (b := pv) (c := .int _ _) Try.call57 rfl rfl rfl) (i1 _ _ ((Mono.mono E1 hpv))) ?_; rintro _ w2 ⟨rfl, E2⟩; have hs2 := E2.size; refine Wo rfl (opv_assign (v := .bool _) rfl) ?_
        refine Wo_nil ?_; refine W_seq ?_; refine W_region rfl ?_; refine Wo rfl (opv_move (v := .string _) rfl) ?_; refine Wo rfl (opv_move (v := .int _ _) rfl) ?_; refine Wo rfl (opv_add rfl rfl (by omega)) ?_
        refine Wo rfl (opv_move (v := .string _) rfl) ?_; refine Wo rfl (opv_len_str Try.underlying9 rfl) ?_; refine Wo rfl (opv_sub rfl rfl (by omega)) ?_; refine Wo rfl (opv_slice_str_z Try.underlying9 rfl rfl rfl (by omega)) ?_
        refine Wo rfl (opv_move (v := pv) rfl) ?_; refine Wo rfl (opv_move (v := .int _ _) rfl) ?_; refine Wo_call rfl (opc3 (a := .string _) (b := pv) (c := .int _ _) Try.call57 rfl rfl rfl) (i2 _ _ ((Mono.mono (E1.trans E2) hpv))) ?_
        rintro _ w3 ⟨rfl, E3⟩; have hs3 := E3.size; refine Wo rfl (opv_assign (v := .bool _) rfl) ?_; refine Wo_nil ?_; refine W_seq ?_; refine W_seq ?_; refine W_region rfl ?_; refine Wo rfl (opv_move (v := .string _) rfl) ?_
        refine Wo rfl (opv_move (v := .int _ _) rfl) ?_; refine Wo rfl (opv_index_str Try.underlying9 rfl rfl (by omega)) ?_; refine Wo rfl (opv_eql rfl rfl) ?_; refine Wo_nil ?_; refine W_cond_dec rfl (fun h5 => ?_) (fun h5 => ?_)
        refine W_seq ?_; refine W_region rfl ?_; refine Wo rfl (opv_move (v := .bool _) rfl) ?_; refine Wo_split rfl (opv_move (v := .bool _) rfl) (fun h6 => ?_) (fun h6 => ?_); refine Wo rfl (opv_move (v := .bool _) rfl) ?_
        refine Wo rfl (opv_pick_t (v := .bool _) rfl rfl) ?_; refine Wo rfl (opv_assign (v := .bool _) rfl) ?_; refine Wo_nil ?_; refine W_ret ?_; refine at_ret (v := .bool _) rfl ?_
        refine ⟨congrArg Value.bool ?_, ((E1.trans E2).trans E3)⟩; rotate_left; refine Wo_skip rfl ?_; refine Wo rfl (opv_pick_f (v := .bool _) rfl rfl) ?_; refine Wo rfl (opv_assign (v := .bool _) rfl) ?_; refine Wo_nil ?_; refine W_ret ?_
        refine at_ret (v := .bool _) rfl ?_; refine ⟨congrArg Value.bool ?_, ((E1.trans E2).trans E3)⟩; rotate_left; (exfalso; omega)
      all_goals first
        | (rw [show f.holds p z.toNat = true from by assumption]; rfl)
        | (rw [show f.holds p z.toNat = false from by assumption]; rfl)
    · rw [hc]
      have hm : (h.enc.getD (m1 + 1) 0).toNat = 124 := hmid
      refine fn_of_W1 Try.func57 rfl Try.results57 Try.ntmps57 rfl ?_
      focus
        refine W_seq ?_; refine W_region rfl ?_; refine Wo rfl (opv_assign (v := .bool _) rfl) ?_; refine Wo_nil ?_; refine W_seq ?_; refine W_seq ?_; refine W_region rfl ?_; refine Wo rfl (opv_move (v := .string _) rfl) ?_
        refine Wo rfl (opv_index_str (k := 0) Try.underlying9 rfl rfl (by omega)) ?_; refine Wo_nil ?_; refine W_block ?_; refine W_seq ?_; refine W_region rfl ?_; refine Wo rfl (opv_eql rfl rfl) ?_
        refine Wo rfl (opv_assign (v := .bool _) rfl) ?_; refine Wo_nil ?_; refine W_cond_dec rfl (fun h1 => ?_) (fun h1 => ?_); (exfalso; omega); refine W_seq ?_; refine W_region rfl ?_; refine Wo rfl (opv_eql rfl rfl) ?_
        refine Wo rfl (opv_assign (v := .bool _) rfl) ?_; refine Wo_nil ?_; refine W_cond_dec rfl (fun h2 => ?_) (fun h2 => ?_); (exfalso; omega); refine W_seq ?_; refine W_region rfl ?_; refine Wo rfl (opv_eql rfl rfl) ?_
        refine Wo rfl (opv_assign (v := .bool _) rfl) ?_; refine Wo_nil ?_; refine W_cond_dec rfl (fun h3 => ?_) (fun h3 => ?_); (exfalso; omega); refine W_seq ?_; refine W_region rfl ?_; refine Wo rfl (opv_eql rfl rfl) ?_
        refine Wo rfl (opv_assign (v := .bool _) rfl) ?_; refine Wo_nil ?_; refine W_cond_dec rfl (fun h4 => ?_) (fun h4 => ?_); (exfalso; omega); refine W_skip ?_; refine W_seq ?_; refine W_region rfl ?_
        refine Wo rfl (opv_move (v := .string _) rfl) ?_; refine Wo_call rfl (opc2 (a := .string _) (b := .int _ _) Try.call49 rfl rfl) (hend _) ?_; rintro _ w1 ⟨rfl, E1⟩; have hs1 := E1.size
        refine Wo rfl (opv_assign (v := .int _ _) rfl) ?_; refine Wo_nil ?_; refine W_seq ?_; refine W_region rfl ?_; refine Wo rfl (opv_move (v := .string _) rfl) ?_; refine Wo rfl (opv_move (v := .int _ _) rfl) ?_
        refine Wo rfl (opv_slice_str (l := 1) Try.underlying9 rfl rfl rfl (by omega)) ?_; refine Wo rfl (opv_move (v := pv) rfl) ?_; refine Wo rfl (opv_move (v := .int _ _) rfl) ?_
        refine Wo_call rfl (opc3 (a := .string _) (b := pv) (c := .int _ _) Try.call57 rfl rfl rfl) (i1 _ _ ((Mono.mono E1 hpv))) ?_; rintro _ w2 ⟨rfl, E2⟩; have hs2 := E2.size; refine Wo rfl (opv_assign (v := .bool _) rfl) ?_
        refine Wo_nil ?_; refine W_seq ?_; refine W_region rfl ?_; refine Wo rfl (opv_move (v := .string _) rfl) ?_; refine Wo rfl (opv_move (v := .int _ _) rfl) ?_; refine Wo rfl (opv_add rfl rfl (by omega)) ?_
        refine Wo rfl (opv_move (v := .string _) rfl) ?_; refine Wo rfl (opv_len_str Try.underlying9 rfl) ?_; refine Wo rfl (opv_sub rfl rfl (by omega)) ?_; refine Wo rfl (opv_slice_str_z Try.underlying9 rfl rfl rfl (by omega)) ?_
        refine Wo rfl (opv_move (v := pv) rfl) ?_; refine Wo rfl (opv_move (v := .int _ _) rfl) ?_; refine Wo_call rfl (opc3 (a := .string _) (b := pv) (c := .int _ _) Try.call57 rfl rfl rfl) (i2 _ _ ((Mono.mono (E1.trans E2) hpv))) ?_
        rintro _ w3 ⟨rfl, E3⟩; have hs3 := E3.size; refine Wo rfl (opv_assign (v := .bool _) rfl) ?_; refine Wo_nil ?_; refine W_seq ?_; refine W_seq ?_; refine W_region rfl ?_; refine Wo rfl (opv_move (v := .string _) rfl) ?_
        refine Wo rfl (opv_move (v := .int _ _) rfl) ?_; refine Wo rfl (opv_index_str Try.underlying9 rfl rfl (by omega)) ?_; refine Wo rfl (opv_eql rfl rfl) ?_; refine Wo_nil ?_; refine W_cond_dec rfl (fun h5 => ?_) (fun h5 => ?_)
        (exfalso; omega); refine W_skip ?_; refine W_seq ?_; refine W_region rfl ?_; refine Wo rfl (opv_move (v := .bool _) rfl) ?_; refine Wo_split rfl (opv_move (v := .bool _) rfl) (fun h6 => ?_) (fun h6 => ?_); refine Wo_skip rfl ?_
        refine Wo rfl (opv_pick_t (v := .bool _) rfl rfl) ?_; refine Wo rfl (opv_assign (v := .bool _) rfl) ?_; refine Wo_nil ?_; refine W_ret ?_; refine at_ret (v := .bool _) rfl ?_
        refine ⟨congrArg Value.bool ?_, ((E1.trans E2).trans E3)⟩; rotate_left; refine Wo rfl (opv_move (v := .bool _) rfl) ?_; refine Wo rfl (opv_pick_f (v := .bool _) rfl rfl) ?_; refine Wo rfl (opv_assign (v := .bool _) rfl) ?_
        refine Wo_nil ?_; refine W_ret ?_; refine at_ret (v := .bool _) rfl ?_; refine ⟨congrArg Value.bool ?_, ((E1.trans E2).trans E3)⟩; rotate_left
      all_goals first
        | (rw [show f.holds p z.toNat = true from by assumption]; rfl)
        | (rw [show f.holds p z.toNat = false from by assumption]; rfl)
  intro f
  induction f with
  | t =>
    intro w pv z hpv hz h60
    have hn : ((Fm.enc .t).getD 0 0).toNat = 116 := rfl
    have hl : (Fm.enc .t).length = 1 := rfl
    refine fn_of_W1 Try.func57 rfl Try.results57 Try.ntmps57 rfl ?_
    focus
      refine W_seq ?_; refine W_region rfl ?_; refine Wo rfl (opv_assign (v := .bool _) rfl) ?_; refine Wo_nil ?_; refine W_seq ?_; refine W_seq ?_; refine W_region rfl ?_; refine Wo rfl (opv_move (v := .string _) rfl) ?_
      refine Wo rfl (opv_index_str (k := 0) Try.underlying9 rfl rfl (by omega)) ?_; refine Wo_nil ?_; refine W_block ?_; refine W_seq ?_; refine W_region rfl ?_; refine Wo rfl (opv_eql rfl rfl) ?_
      refine Wo rfl (opv_assign (v := .bool _) rfl) ?_; refine Wo_nil ?_; refine W_cond_dec rfl (fun h1 => ?_) (fun h1 => ?_); refine W_seq ?_; refine W_region rfl ?_; refine Wo rfl (opv_assign (v := .bool _) rfl) ?_; refine Wo_nil ?_
      refine W_ret ?_; exact ⟨rfl, (Ext.refl _)⟩; contradiction
  | neg f ih =>
    intro w pv z hpv hz h60
    have hn : ((Fm.enc (.neg f)).getD 0 0).toNat = 33 := rfl
    have hl : (Fm.enc (.neg f)).length = f.enc.length + 1 := rfl
    have i1 : ∀ (w : World) (pv : Value), ESl Ints w pv p → Does Try.prog 57 [str ((Fm.enc (.neg f)).drop 1), pv, .int .i64 z] w (Ret w (.bool (f.holds p z.toNat))) := fun w pv h9 => ih w pv z h9 hz (by omega)
    refine fn_of_W1 Try.func57 rfl Try.results57 Try.ntmps57 rfl ?_
    focus
      refine W_seq ?_; refine W_region rfl ?_; refine Wo rfl (opv_assign (v := .bool _) rfl) ?_; refine Wo_nil ?_; refine W_seq ?_; refine W_seq ?_; refine W_region rfl ?_; refine Wo rfl (opv_move (v := .string _) rfl) ?_
      refine Wo rfl (opv_index_str (k := 0) Try.underlying9 rfl rfl (by omega)) ?_; refine Wo_nil ?_; refine W_block ?_; refine W_seq ?_; refine W_region rfl ?_; refine Wo rfl (opv_eql rfl rfl) ?_
      refine Wo rfl (opv_assign (v := .bool _) rfl) ?_; refine Wo_nil ?_; refine W_cond_dec rfl (fun h1 => ?_) (fun h1 => ?_); (exfalso; omega); refine W_seq ?_; refine W_region rfl ?_; refine Wo rfl (opv_eql rfl rfl) ?_
      refine Wo rfl (opv_assign (v := .bool _) rfl) ?_; refine Wo_nil ?_; refine W_cond_dec rfl (fun h2 => ?_) (fun h2 => ?_); refine W_seq ?_; refine W_region rfl ?_; refine Wo rfl (opv_move (v := .string _) rfl) ?_
      refine Wo rfl (opv_slice_str_lo (l := 1) Try.underlying9 rfl rfl (by omega)) ?_; refine Wo rfl (opv_move (v := pv) rfl) ?_; refine Wo rfl (opv_move (v := .int _ _) rfl) ?_
      refine Wo_call rfl (opc3 (a := .string _) (b := pv) (c := .int _ _) Try.call57 rfl rfl rfl) (i1 _ _ (hpv)) ?_; rintro _ w1 ⟨rfl, E1⟩; have hs1 := E1.size; refine Wo rfl (opv_not rfl) ?_
      refine Wo rfl (opv_assign (v := .bool _) rfl) ?_; refine Wo_nil ?_; refine W_ret ?_; exact ⟨rfl, E1⟩; contradiction
  | S f ih =>
    intro w pv z hpv hz h60
    have hn : ((Fm.enc (.S f)).getD 0 0).toNat = 83 := rfl
    have hl : (Fm.enc (.S f)).length = f.enc.length + 1 := rfl
    have hzl : z.toNat < p.length := by omega
    have hrow := hp.row hzl
    have i1 : ∀ (w : World) (pv : Value) (y : Int), ESl Ints w pv p → 0 ≤ y ∧ y < p.length → Does Try.prog 57 [str ((Fm.enc (.S f)).drop 1), pv, .int .i64 y] w (Ret w (.bool (f.holds p y.toNat))) := fun w pv y h9 hy => ih w pv y h9 hy (by omega)
    have hval : Fm.holds p (.S f) z.toNat = (List.range p.length).any fun j => decide (p[z.toNat].getD j 0 = 1) && f.holds p j := arr_any hp hzl _
    rw [hval]
    refine fn_of_W1 Try.func57 rfl Try.results57 Try.ntmps57 rfl ?_
    focus
      refine W_seq ?_; refine W_region rfl ?_; refine Wo rfl (opv_assign (v := .bool _) rfl) ?_; refine Wo_nil ?_; refine W_seq ?_; refine W_seq ?_; refine W_region rfl ?_; refine Wo rfl (opv_move (v := .string _) rfl) ?_
      refine Wo rfl (opv_index_str (k := 0) Try.underlying9 rfl rfl (by omega)) ?_; refine Wo_nil ?_; refine W_block ?_; refine W_seq ?_; refine W_region rfl ?_; refine Wo rfl (opv_eql rfl rfl) ?_
      refine Wo rfl (opv_assign (v := .bool _) rfl) ?_; refine Wo_nil ?_; refine W_cond_dec rfl (fun h1 => ?_) (fun h1 => ?_); (exfalso; omega); refine W_seq ?_; refine W_region rfl ?_; refine Wo rfl (opv_eql rfl rfl) ?_
      refine Wo rfl (opv_assign (v := .bool _) rfl) ?_; refine Wo_nil ?_; refine W_cond_dec rfl (fun h2 => ?_) (fun h2 => ?_); (exfalso; omega); refine W_seq ?_; refine W_region rfl ?_; refine Wo rfl (opv_eql rfl rfl) ?_
      refine Wo rfl (opv_assign (v := .bool _) rfl) ?_; refine Wo_nil ?_; refine W_cond_dec rfl (fun h3 => ?_) (fun h3 => ?_); refine W_seq ?_; refine W_seq ?_; refine W_region rfl ?_; refine Wo rfl (opv_assign (v := .int _ _) rfl) ?_
      refine Wo_nil ?_; refine W_block ?_; rotate_left; contradiction
    refine W_loop [6, 7, 26, 27, 28, 29, 30, 31, 32, 33, 34, 35, 36, 37, 38, 39, 40, 41, 42, 43, 44, 45, 46] (fun (k : Nat) => [(7, .int .i64 (k : Nat))]) (fun k w' => Ext w w' ∧ k ≤ p.length ∧ ((List.range k).any fun j => decide (p[z.toNat].getD j 0 = 1) && f.holds p j) = false) (fun x => p.length - x) 0 (by repeat (first | exact trivial | refine And.intro rfl ?_)) ?_ ?_
    · exact ⟨Ext.refl _, Nat.zero_le _, by simp⟩
    rintro k ρj w1 ⟨E1, hk, hg⟩
    by_cases hlt : k < p.length
    · have hgd := getD_lt (l := p[z.toNat]) (i := k) (d := 0) (by omega)
      have hsu := any_range_succ (fun j => decide (p[z.toNat].getD j 0 = 1) && f.holds p j) k
      rw [hg, hgd] at hsu
      focus
        have szE1 := E1.size; refine W_seq ?_; refine W_seq ?_; refine W_region rfl ?_; refine Wo rfl (opv_move (v := .int _ _) rfl) ?_; refine Wo rfl (opv_move (v := pv) rfl) ?_; refine Wo rfl (opv_len Try.underlying30 rfl hpv) ?_
        refine Wo rfl (opv_lss rfl rfl) ?_; refine Wo_nil ?_; refine W_cond_dec rfl (fun h4 => ?_) (fun h4 => ?_); refine W_skip ?_; refine W_seq ?_; refine W_block ?_; refine W_seq ?_; refine W_region rfl ?_
        refine Wo rfl (opv_move (v := pv) rfl) ?_; refine Wo rfl (opv_move (v := .int _ _) rfl) ?_; refine Wo_get_z Try.underlying30 Try.sizeOf38 Try.isAgg38 rfl (fun _ => rfl) rfl hpv E1 rfl (by first | omega | (simp <;> omega)) ?_
        rintro _ u1 hu1; refine Wo rfl (opv_move (v := .int _ _) rfl) ?_; refine Wo_get Try.underlying38 Try.sizeOf3 Try.isAgg3 rfl (fun _ => rfl) rfl hu1 E1 rfl (by first | omega | (simp <;> omega)) ?_; rintro _ _ rfl
        refine Wo rfl (opv_eql rfl rfl) ?_; refine Wo_split_dec rfl (opv_move (v := .bool _) rfl) (fun h5 => ?_) (fun h5 => ?_); refine Wo rfl (opv_move (v := .string _) rfl) ?_
        refine Wo rfl (opv_slice_str_lo (l := 1) Try.underlying9 rfl rfl (by omega)) ?_; refine Wo rfl (opv_move (v := pv) rfl) ?_; refine Wo rfl (opv_move (v := .int _ _) rfl) ?_
        refine Wo_call rfl (opc3 (a := .string _) (b := pv) (c := .int _ _) Try.call57 rfl rfl rfl) (i1 _ _ _ ((Mono.mono E1 hpv)) (by omega)) ?_; rintro _ w2 ⟨rfl, E2⟩; have hs1 := E2.size
        refine Wo rfl (opv_pick_t (v := .bool _) rfl rfl) ?_; refine Wo_nil ?_; refine W_cond rfl (fun h6 => ?_) (fun h6 => ?_); refine W_seq ?_; refine W_region rfl ?_; refine Wo rfl (opv_assign (v := .bool _) rfl) ?_; refine Wo_nil ?_
        refine W_ret ?_; refine at_ret (v := .bool _) rfl ?_; refine ⟨congrArg Value.bool ?_, (E1.trans E2)⟩; rotate_left; refine W_skip ?_; refine W_region rfl ?_; refine Wo rfl (opv_move (v := .int _ _) rfl) ?_
        refine Wo rfl (opv_add rfl rfl (by omega)) ?_; refine Wo rfl (opv_assign (v := .int _ _) rfl) ?_; refine Wo_nil ?_; rotate_left; refine Wo_skip rfl ?_; refine Wo_skip rfl ?_; refine Wo_skip rfl ?_; refine Wo_skip rfl ?_
        refine Wo_skip rfl ?_; refine Wo rfl (opv_pick_f (v := .bool _) rfl rfl) ?_; refine Wo_nil ?_; refine W_cond_false rfl ?_; refine W_skip ?_; refine W_region rfl ?_; refine Wo rfl (opv_move (v := .int _ _) rfl) ?_
        refine Wo rfl (opv_add rfl rfl (by omega)) ?_; refine Wo rfl (opv_assign (v := .int _ _) rfl) ?_; refine Wo_nil ?_; rotate_left; (exfalso; omega)
      · refine (List.any_eq_true.2 ⟨k, List.mem_range.2 hlt, ?_⟩).symm
        rw [hgd, decide_eq_true (by assumption), Bool.true_and]
        have e : ((k : Int)).toNat = k := rfl
        rw [e] at *
        assumption
      · refine ⟨(k + 1), by repeat (first | exact trivial | refine And.intro rfl ?_), by repeat (first | with_reducible exact Same.refl | refine Same.upd rfl ?_ | refine Same.upds rfl ?_ | refine Same.mix rfl ?_), ?_, ?_⟩
        · refine ⟨E1.trans E2, by omega, ?_⟩
          rw [hsu, decide_eq_true (by assumption), Bool.true_and, Bool.false_or]
          assumption
        · omega
      · refine ⟨(k + 1), by repeat (first | exact trivial | refine And.intro rfl ?_), by repeat (first | with_reducible exact Same.refl | refine Same.upd rfl ?_ | refine Same.upds rfl ?_ | refine Same.mix rfl ?_), ?_, ?_⟩
        · refine ⟨E1, by omega, ?_⟩
          rw [hsu, decide_eq_false (by assumption)]; rfl
        · omega
    · obtain rfl : k = p.length := by omega
      focus
        have szE1 := E1.size; refine W_seq ?_; refine W_seq ?_; refine W_region rfl ?_; refine Wo rfl (opv_move (v := .int _ _) rfl) ?_; refine Wo rfl (opv_move (v := pv) rfl) ?_; refine Wo rfl (opv_len Try.underlying30 rfl hpv) ?_
        refine Wo rfl (opv_lss rfl rfl) ?_; refine Wo_nil ?_; refine W_cond_dec rfl (fun h4 => ?_) (fun h4 => ?_); (exfalso; omega); refine W_exit ?_; refine exitX_same ?_; refine W_seq ?_; refine W_region rfl ?_
        refine Wo rfl (opv_assign (v := .bool _) rfl) ?_; refine Wo_nil ?_; refine W_ret ?_; refine at_ret (v := .bool _) rfl ?_; refine ⟨congrArg Value.bool ?_, E1⟩
      exact hg.symm
  | A f ih =>
    intro w pv z hpv hz h60
    have hn : ((Fm.enc (.A f)).getD 0 0).toNat = 65 := rfl
    have hl : (Fm.enc (.A f)).length = f.enc.length + 1 := rfl
    have hzl : z.toNat < p.length := by omega
    have hrow := hp.row hzl
    have i1 : ∀ (w : World) (pv : Value) (y : Int), ESl Ints w pv p → 0 ≤ y ∧ y < p.length → Does Try.prog 57 [str ((Fm.enc (.A f)).drop 1), pv, .int .i64 y] w (Ret w (.bool (f.holds p y.toNat))) := fun w pv y h9 hy => ih w pv y h9 hy (by omega)
    have hval : Fm.holds p (.A f) z.toNat = !((List.range p.length).any fun j => decide (p[z.toNat].getD j 0 = 1) && !(f.holds p j)) := congrArg not (arr_any hp hzl _)
    rw [hval]
    refine fn_of_W1 Try.func57 rfl Try.results57 Try.ntmps57 rfl ?_
    focus
      refine W_seq ?_; refine W_region rfl ?_; refine Wo rfl (opv_assign (v := .bool _) rfl) ?_; refine Wo_nil ?_; refine W_seq ?_; refine W_seq ?_; refine W_region rfl ?_; refine Wo rfl (opv_move (v := .string _) rfl) ?_
      refine Wo rfl (opv_index_str (k := 0) Try.underlying9 rfl rfl (by omega)) ?_; refine Wo_nil ?_; refine W_block ?_; refine W_seq ?_; refine W_region rfl ?_; refine Wo rfl (opv_eql rfl rfl) ?_
      refine Wo rfl (opv_assign (v := .bool _) rfl) ?_; refine Wo_nil ?_; refine W_cond_dec rfl (fun h1 => ?_) (fun h1 => ?_); (exfalso; omega); refine W_seq ?_; refine W_region rfl ?_; refine Wo rfl (opv_eql rfl rfl) ?_
      refine Wo rfl (opv_assign (v := .bool _) rfl) ?_; refine Wo_nil ?_; refine W_cond_dec rfl (fun h2 => ?_) (fun h2 => ?_); (exfalso; omega); refine W_seq ?_; refine W_region rfl ?_; refine Wo rfl (opv_eql rfl rfl) ?_
      refine Wo rfl (opv_assign (v := .bool _) rfl) ?_; refine Wo_nil ?_; refine W_cond_dec rfl (fun h3 => ?_) (fun h3 => ?_); (exfalso; omega); refine W_seq ?_; refine W_region rfl ?_; refine Wo rfl (opv_eql rfl rfl) ?_
      refine Wo rfl (opv_assign (v := .bool _) rfl) ?_; refine Wo_nil ?_; refine W_cond_dec rfl (fun h4 => ?_) (fun h4 => ?_); refine W_seq ?_; refine W_seq ?_; refine W_region rfl ?_; refine Wo rfl (opv_assign (v := .int _ _) rfl) ?_
      refine Wo_nil ?_; refine W_block ?_; rotate_left; contradiction
    refine W_loop [6, 8, 49, 50, 51, 52, 53, 54, 55, 56, 57, 58, 59, 60, 61, 62, 63, 64, 65, 66, 67, 68, 69, 70] (fun (k : Nat) => [(8, .int .i64 (k : Nat))]) (fun k w' => Ext w w' ∧ k ≤ p.length ∧ ((List.range k).any fun j => decide (p[z.toNat].getD j 0 = 1) && !(f.holds p j)) = false) (fun x => p.length - x) 0 (by repeat (first | exact trivial | refine And.intro rfl ?_)) ?_ ?_
    · exact ⟨Ext.refl _, Nat.zero_le _, by simp⟩
    rintro k ρj w1 ⟨E1, hk, hg⟩
    by_cases hlt : k < p.length
    · have hgd := getD_lt (l := p[z.toNat]) (i := k) (d := 0) (by omega)
      have hsu := any_range_succ (fun j => decide (p[z.toNat].getD j 0 = 1) && !(f.holds p j)) k
      rw [hg, hgd] at hsu
      focus
        have szE1 := E1.size; refine W_seq ?_; refine W_seq ?_; refine W_region rfl ?_; refine Wo rfl (opv_move (v := .int _ _) rfl) ?_; refine Wo rfl (opv_move (v := pv) rfl) ?_; refine Wo rfl (opv_len Try.underlying30 rfl hpv) ?_
        refine Wo rfl (opv_lss rfl rfl) ?_; refine Wo_nil ?_; refine W_cond_dec rfl (fun h5 => ?_) (fun h5 => ?_); refine W_skip ?_; refine W_seq ?_; refine W_block ?_; refine W_seq ?_; refine W_region rfl ?_
        refine Wo rfl (opv_move (v := pv) rfl) ?_; refine Wo rfl (opv_move (v := .int _ _) rfl) ?_; refine Wo_get_z Try.underlying30 Try.sizeOf38 Try.isAgg38 rfl (fun _ => rfl) rfl hpv E1 rfl (by first | omega | (simp <;> omega)) ?_
        rintro _ u1 hu1; refine Wo rfl (opv_move (v := .int _ _) rfl) ?_; refine Wo_get Try.underlying38 Try.sizeOf3 Try.isAgg3 rfl (fun _ => rfl) rfl hu1 E1 rfl (by first | omega | (simp <;> omega)) ?_; rintro _ _ rfl
        refine Wo rfl (opv_eql rfl rfl) ?_; refine Wo_split_dec rfl (opv_move (v := .bool _) rfl) (fun h6 => ?_) (fun h6 => ?_); refine Wo rfl (opv_move (v := .string _) rfl) ?_
        refine Wo rfl (opv_slice_str_lo (l := 1) Try.underlying9 rfl rfl (by omega)) ?_; refine Wo rfl (opv_move (v := pv) rfl) ?_; refine Wo rfl (opv_move (v := .int _ _) rfl) ?_
        refine Wo_call rfl (opc3 (a := .string _) (b := pv) (c := .int _ _) Try.call57 rfl rfl rfl) (i1 _ _ _ ((Mono.mono E1 hpv)) (by omega)) ?_; rintro _ w2 ⟨rfl, E2⟩; have hs1 := E2.size; refine Wo rfl (opv_not rfl) ?_
        refine Wo rfl (opv_pick_t (v := .bool _) rfl rfl) ?_; refine Wo_nil ?_; refine W_cond rfl (fun h7 => ?_) (fun h7 => ?_); refine W_seq ?_; refine W_region rfl ?_; refine Wo rfl (opv_assign (v := .bool _) rfl) ?_; refine Wo_nil ?_
        refine W_ret ?_; refine at_ret (v := .bool _) rfl ?_; refine ⟨congrArg Value.bool ?_, (E1.trans E2)⟩; rotate_left; refine W_skip ?_; refine W_region rfl ?_; refine Wo rfl (opv_move (v := .int _ _) rfl) ?_
        refine Wo rfl (opv_add rfl rfl (by omega)) ?_; refine Wo rfl (opv_assign (v := .int _ _) rfl) ?_; refine Wo_nil ?_; rotate_left; refine Wo_skip rfl ?_; refine Wo_skip rfl ?_; refine Wo_skip rfl ?_; refine Wo_skip rfl ?_
        refine Wo_skip rfl ?_; refine Wo_skip rfl ?_; refine Wo rfl (opv_pick_f (v := .bool _) rfl rfl) ?_; refine Wo_nil ?_; refine W_cond_false rfl ?_; refine W_skip ?_; refine W_region rfl ?_
        refine Wo rfl (opv_move (v := .int _ _) rfl) ?_; refine Wo rfl (opv_add rfl rfl (by omega)) ?_; refine Wo rfl (opv_assign (v := .int _ _) rfl) ?_; refine Wo_nil ?_; rotate_left; (exfalso; omega)
      · have hany : ((List.range p.length).any fun j => decide (p[z.toNat].getD j 0 = 1) && !(f.holds p j)) = true := by
          refine List.any_eq_true.2 ⟨k, List.mem_range.2 hlt, ?_⟩
          have e : (!(f.holds p k)) = true := by assumption
          rw [hgd, decide_eq_true (by assumption), Bool.true_and, e]
        rw [hany]; rfl
      · refine ⟨(k + 1), by repeat (first | exact trivial | refine And.intro rfl ?_), by repeat (first | with_reducible exact Same.refl | refine Same.upd rfl ?_ | refine Same.upds rfl ?_ | refine Same.mix rfl ?_), ?_, ?_⟩
        · refine ⟨E1.trans E2, by omega, ?_⟩
          have e : (!(f.holds p k)) = false := by assumption
          rw [hsu, decide_eq_true (by assumption), Bool.true_and, e]; rfl
        · omega
      · refine ⟨(k + 1), by repeat (first | exact trivial | refine And.intro rfl ?_), by repeat (first | with_reducible exact Same.refl | refine Same.upd rfl ?_ | refine Same.upds rfl ?_ | refine Same.mix rfl ?_), ?_, ?_⟩
        · refine ⟨E1, by omega, ?_⟩
          rw [hsu, decide_eq_false (by assumption)]; rfl
        · omega
    · obtain rfl : k = p.length := by omega
      focus
        have szE1 := E1.size; refine W_seq ?_; refine W_seq ?_; refine W_region rfl ?_; refine Wo rfl (opv_move (v := .int _ _) rfl) ?_; refine Wo rfl (opv_move (v := pv) rfl) ?_; refine Wo rfl (opv_len Try.underlying30 rfl hpv) ?_
        refine Wo rfl (opv_lss rfl rfl) ?_; refine Wo_nil ?_; refine W_cond_dec rfl (fun h5 => ?_) (fun h5 => ?_); (exfalso; omega); refine W_exit ?_; refine exitX_same ?_; refine W_seq ?_; refine W_region rfl ?_
        refine Wo rfl (opv_assign (v := .bool _) rfl) ?_; refine Wo_nil ?_; refine W_ret ?_; refine at_ret (v := .bool _) rfl ?_; refine ⟨congrArg Value.bool ?_, E1⟩
      rw [hg]; rfl
  | and f g ih1 ih2 => exact bin (.and f g) f g 38 rfl (.inl ⟨rfl, fun _ => rfl⟩) ih1 ih2
  | or f g ih1 ih2 => exact bin (.or f g) f g 124 rfl (.inr ⟨rfl, fun _ => rfl⟩) ih1 ih2

theorem spec_HoldsAt_ok (s : List UInt8) (w : World) (pv : Value) (p : List (List Int)) (z : Int) (hl : s.length ≤ lim) (h : ESl Ints w pv p) : Does Try.prog 25 [str s, pv, .int .i64 z] w (Ret w (.bool (holdsV s p z))) := by
  cases hs : theF s with
  | none =>
    have e : holdsV s p z = false := by unfold holdsV; rw [hs]
    rw [e]
    have h1 : ∀ w, Does Try.prog 15 [str s] w (Ret w (.bool false)) := fun w => by
      have := spec_FormulaOk_ok s w hl
      rw [okF, hs] at this
      exact this
    refine fn_of_W1 Try.func25 rfl Try.results25 Try.ntmps25 rfl ?_
    focus
      refine W_seq ?_; refine W_region rfl ?_; refine Wo rfl (opv_assign (v := .bool _) rfl) ?_; refine Wo_nil ?_; refine W_seq ?_; refine W_region rfl ?_; refine Wo rfl (opv_move (v := .string _) rfl) ?_
      refine Wo_call rfl (opc1 (a := .string _) Try.call15 rfl) (h1 _) ?_; rintro _ w1 ⟨rfl, E1⟩; have hs1 := E1.size; refine Wo rfl (opv_move (v := .bool _) rfl) ?_; refine Wo_skip rfl ?_; refine Wo_skip rfl ?_; refine Wo_skip rfl ?_
      refine Wo rfl (opv_pick_f (v := .bool _) rfl rfl) ?_; refine Wo rfl (opv_move (v := .bool _) rfl) ?_; refine Wo_skip rfl ?_; refine Wo_skip rfl ?_; refine Wo_skip rfl ?_; refine Wo_skip rfl ?_
      refine Wo rfl (opv_pick_f (v := .bool _) rfl rfl) ?_; refine Wo rfl (opv_assign (v := .bool _) rfl) ?_; refine Wo_nil ?_; refine W_ret ?_; exact ⟨rfl, E1⟩
  | some f =>
    have e : holdsV s p z = (decide (Nod p z) && f.holds p z.toNat) := by unfold holdsV; rw [hs]
    rw [e]
    obtain ⟨rfl, h60⟩ := theF_some.1 hs
    have h1 : ∀ w, Does Try.prog 15 [str f.enc] w (Ret w (.bool true)) := fun w => by
      have := spec_FormulaOk_ok f.enc w hl
      rw [okF, hs] at this
      exact this
    by_cases hn : Nod p z
    · rw [decide_eq_true hn, Bool.true_and]
      have hh : ∀ (w : World) (pv : Value), ESl Ints w pv p → Does Try.prog 57 [str f.enc, pv, .int .i64 z] w (Ret w (.bool (f.holds p z.toNat))) := fun w pv h2 => l10Holds_ok p hn.1 f w pv z h2 hn.2 h60
      have hnd : ∀ (w : World) (pv : Value), ESl Ints w pv p → Does Try.prog 30 [pv, .int .i64 z] w (Ret w (.bool true)) := fun w pv h => by
        have := NodeOk_ok w pv p h z
        rw [decide_eq_true hn] at this; exact this
      refine fn_of_W1 Try.func25 rfl Try.results25 Try.ntmps25 rfl ?_
      focus
        refine W_seq ?_; refine W_region rfl ?_; refine Wo rfl (opv_assign (v := .bool _) rfl) ?_; refine Wo_nil ?_; refine W_seq ?_; refine W_region rfl ?_; refine Wo rfl (opv_move (v := .string _) rfl) ?_
        refine Wo_call rfl (opc1 (a := .string _) Try.call15 rfl) (h1 _) ?_; rintro _ w1 ⟨rfl, E1⟩; have hs1 := E1.size; refine Wo rfl (opv_move (v := .bool _) rfl) ?_; refine Wo rfl (opv_move (v := pv) rfl) ?_
        refine Wo rfl (opv_move (v := .int _ _) rfl) ?_; refine Wo_call rfl (opc2 (a := pv) (b := .int _ _) Try.call30 rfl rfl) (hnd _ _ ((Mono.mono E1 h))) ?_; rintro _ w2 ⟨rfl, E2⟩; have hs2 := E2.size
        refine Wo rfl (opv_pick_t (v := .bool _) rfl rfl) ?_; refine Wo rfl (opv_move (v := .bool _) rfl) ?_; refine Wo rfl (opv_move (v := .string _) rfl) ?_; refine Wo rfl (opv_move (v := pv) rfl) ?_
        refine Wo rfl (opv_move (v := .int _ _) rfl) ?_; refine Wo_call rfl (opc3 (a := .string _) (b := pv) (c := .int _ _) Try.call57 rfl rfl rfl) (hh _ _ ((Mono.mono (E1.trans E2) h))) ?_; rintro _ w3 ⟨rfl, E3⟩; have hs3 := E3.size
        refine Wo rfl (opv_pick_t (v := .bool _) rfl rfl) ?_; refine Wo rfl (opv_assign (v := .bool _) rfl) ?_; refine Wo_nil ?_; refine W_ret ?_; exact ⟨rfl, ((E1.trans E2).trans E3)⟩
    · rw [decide_eq_false hn, Bool.false_and]
      have hnd : ∀ (w : World) (pv : Value), ESl Ints w pv p → Does Try.prog 30 [pv, .int .i64 z] w (Ret w (.bool false)) := fun w pv h => by
        have := NodeOk_ok w pv p h z
        rw [decide_eq_false hn] at this; exact this
      refine fn_of_W1 Try.func25 rfl Try.results25 Try.ntmps25 rfl ?_
      focus
        refine W_seq ?_; refine W_region rfl ?_; refine Wo rfl (opv_assign (v := .bool _) rfl) ?_; refine Wo_nil ?_; refine W_seq ?_; refine W_region rfl ?_; refine Wo rfl (opv_move (v := .string _) rfl) ?_
        refine Wo_call rfl (opc1 (a := .string _) Try.call15 rfl) (h1 _) ?_; rintro _ w1 ⟨rfl, E1⟩; have hs1 := E1.size; refine Wo rfl (opv_move (v := .bool _) rfl) ?_; refine Wo rfl (opv_move (v := pv) rfl) ?_
        refine Wo rfl (opv_move (v := .int _ _) rfl) ?_; refine Wo_call rfl (opc2 (a := pv) (b := .int _ _) Try.call30 rfl rfl) (hnd _ _ ((Mono.mono E1 h))) ?_; rintro _ w2 ⟨rfl, E2⟩; have hs2 := E2.size
        refine Wo rfl (opv_pick_t (v := .bool _) rfl rfl) ?_; refine Wo rfl (opv_move (v := .bool _) rfl) ?_; refine Wo_skip rfl ?_; refine Wo_skip rfl ?_; refine Wo_skip rfl ?_; refine Wo_skip rfl ?_
        refine Wo rfl (opv_pick_f (v := .bool _) rfl rfl) ?_; refine Wo rfl (opv_assign (v := .bool _) rfl) ?_; refine Wo_nil ?_; refine W_ret ?_; exact ⟨rfl, (E1.trans E2)⟩

theorem FnExactHoldsAt_walk (w : World) (s : List UInt8) (hs : s.length ≤ 9223372036854775807) (v : Value) (p : List (List Int)) (h : ESl Ints w v p) (z : Int) (hz : -9223372036854775808 ≤ z ∧ z ≤ 9223372036854775807) :
    Does Try.prog 8 [str s, v, .int .i64 z] w (Ret w (.bool true)) := by
  by_cases hl : s.length ≤ 1048576
  · have hl' : s.length ≤ lim := by unfold lim; omega
    refine fn_of_W1 Try.func8 rfl Try.results8 Try.ntmps8 rfl ?_
    focus
      refine W_seq ?_; refine W_region rfl ?_; refine Wo rfl (opv_assign (v := .bool _) rfl) ?_; refine Wo_nil ?_; refine W_seq ?_; refine W_seq ?_; refine W_region rfl ?_; refine Wo rfl (opv_move (v := .string _) rfl) ?_
      refine Wo rfl (opv_len_str Try.underlying9 rfl) ?_; refine Wo rfl (opv_gtr rfl rfl) ?_; refine Wo_nil ?_; refine W_cond_dec rfl (fun h1 => ?_) (fun h1 => ?_); (exfalso; omega); refine W_skip ?_; refine W_seq ?_
      refine W_region rfl ?_; refine Wo rfl (opv_assign (v := .int _ _) rfl) ?_; refine Wo_nil ?_; refine W_seq ?_; refine W_region rfl ?_; refine Wo rfl (opv_move (v := v) rfl) ?_; refine Wo rfl (opv_move (v := .int _ _) rfl) ?_
      refine Wo_call rfl (opc2 (a := v) (b := .int _ _) Try.call24 rfl rfl) (szIntSS_ok _ _ _ (h) _ (by omega)) ?_; rintro _ w1 ⟨E1, y1, rfl, hy1⟩; have hs1 := E1.size; refine Wo rfl (opv_assign (v := .int _ _) rfl) ?_; refine Wo_nil ?_
      refine W_seq ?_; refine W_seq ?_; refine W_region rfl ?_; refine Wo rfl (opv_move (v := .int _ _) rfl) ?_; refine Wo rfl (opv_lss rfl rfl) ?_; refine Wo_nil ?_; refine W_cond_dec rfl (fun h2 => ?_) (fun h2 => ?_); refine W_seq ?_
      refine W_region rfl ?_; refine Wo rfl (opv_assign (v := .bool _) rfl) ?_; refine Wo_nil ?_; refine W_ret ?_; exact ⟨rfl, E1⟩; refine W_skip ?_; refine W_seq ?_; refine W_region rfl ?_
      refine Wo rfl (opv_move (v := .string _) rfl) ?_; refine Wo rfl (opv_move (v := v) rfl) ?_
    rcases hy1 with h9 | ⟨h5, h6, h7, h7', h8⟩
    · omega
    focus
      have szE1 := E1.size; refine Wo_call rfl (opc1 (a := v) Try.call26 rfl) (toIntSS_ok _ _ _ ((Mono.mono E1 h)) (by assumption) (by assumption)) ?_; rintro u1 w2 ⟨E2, hO1⟩; have hs2 := E2.size
      refine Wo rfl (opv_move (v := .int _ _) rfl) ?_; refine Wo_call rfl (opc3 (a := .string _) (b := u1) (c := .int _ _) Try.call25 rfl rfl rfl) (spec_HoldsAt_ok _ _ _ _ _ (by assumption) ((Owned.read hO1))) ?_; rintro _ w3 ⟨rfl, E3⟩
      have hs3 := E3.size; refine Wo rfl (opv_assign (v := .bool _) rfl) ?_; refine Wo_nil ?_; refine W_seq ?_; refine W_region rfl ?_; refine Wo rfl (opv_move (v := v) rfl) ?_
      refine Wo_call rfl (opc1 (a := v) Try.call26 rfl) (toIntSS_ok _ _ _ ((Mono.mono ((E1.trans E2).trans E3) h)) (by assumption) (by assumption)) ?_; rintro u2 w4 ⟨E4, hO2⟩; have hs4 := E4.size
      refine Wo rfl (opv_assign (v := u2) rfl) ?_; refine Wo_nil ?_; refine W_seq ?_; refine W_region rfl ?_; refine Wo rfl (opv_move (v := .string _) rfl) ?_; refine Wo rfl (opv_move (v := u2) rfl) ?_
      refine Wo rfl (opv_move (v := .int _ _) rfl) ?_; refine Wo_call rfl (opc3 (a := .string _) (b := u2) (c := .int _ _) Try.call27 rfl rfl rfl) (impl_HoldsAt_ok _ _ _ _ _ (by assumption) ((Owned.read hO2))) ?_; rintro _ w5 ⟨rfl, E5⟩
      have hs5 := E5.size; refine Wo rfl (opv_assign (v := .bool _) rfl) ?_; refine Wo_nil ?_; refine W_seq ?_; refine W_seq ?_; refine W_region rfl ?_; refine Wo rfl (opv_move (v := .bool _) rfl) ?_
      refine Wo rfl (opv_move (v := .bool _) rfl) ?_; refine Wo rfl (opv_neq_bool Try.underlying4 rfl rfl) ?_; refine Wo_nil ?_; refine W_cond_ndec rfl (fun h3 => ?_) (fun h3 => ?_); contradiction; refine W_skip ?_; refine W_seq ?_
      refine W_seq ?_; refine W_region rfl ?_; refine Wo rfl (opv_move (v := u2) rfl) ?_; refine Wo rfl (opv_move (v := v) rfl) ?_
      refine Wo_call rfl (opc1 (a := v) Try.call26 rfl) (toIntSS_ok _ _ _ ((Mono.mono ((((E1.trans E2).trans E3).trans E4).trans E5) h)) (by assumption) (by assumption)) ?_; rintro u3 w6 ⟨E6, hO3⟩; have hs6 := E6.size
      refine Wo_call rfl (opc2 (a := u2) (b := u3) Try.call28 rfl rfl) (eqIntSS_ok _ _ _ _ _ ((Mono.mono (E5.trans E6) (Owned.read hO2))) ((Owned.read hO3))) ?_; rintro _ w7 ⟨rfl, E7⟩; have hs7 := E7.size; refine Wo rfl (opv_not rfl) ?_
      refine Wo_nil ?_; refine W_cond_ndec rfl (fun h4 => ?_) (fun h4 => ?_); contradiction; refine W_skip ?_; refine W_seq ?_; refine W_region rfl ?_; refine Wo rfl (opv_assign (v := .bool _) rfl) ?_; refine Wo_nil ?_; refine W_ret ?_
      exact ⟨rfl, ((((((E1.trans E2).trans E3).trans E4).trans E5).trans E6).trans E7)⟩
  · refine fn_of_W1 Try.func8 rfl Try.results8 Try.ntmps8 rfl ?_
    focus
      refine W_seq ?_; refine W_region rfl ?_; refine Wo rfl (opv_assign (v := .bool _) rfl) ?_; refine Wo_nil ?_; refine W_seq ?_; refine W_seq ?_; refine W_region rfl ?_; refine Wo rfl (opv_move (v := .string _) rfl) ?_
      refine Wo rfl (opv_len_str Try.underlying9 rfl) ?_; refine Wo rfl (opv_gtr rfl rfl) ?_; refine Wo_nil ?_; refine W_cond_dec rfl (fun h1 => ?_) (fun h1 => ?_); refine W_seq ?_; refine W_region rfl ?_
      refine Wo rfl (opv_assign (v := .bool _) rfl) ?_; refine Wo_nil ?_; refine W_ret ?_; exact ⟨rfl, (Ext.refl _)⟩; (exfalso; omega)

end Go.Proofs.Ytjdfnngmbaojjaa
