/- Walk of the law on OppositeOf. -/
import Derived.Test.YtjdfnngmbaojjaaHsWFmS
import Derived.Test.YtjdfnngmbaojjaaHsWFm5
import Derived.Test.YtjdfnngmbaojjaaHsWRdT
namespace Go.Proofs.Ytjdfnngmbaojjaa
open Go.Hs
set_option maxRecDepth 10000
set_option maxHeartbeats 4000000
set_option linter.unusedVariables false
set_option linter.unusedSimpArgs false
theorem holds_opp (p : List (List Int)) : ∀ (f : Fm) (i : Nat), f.opp.holds p i = !(f.holds p i) := by
  intro f
  induction f with
  | A f ih => intro i; simp only [Fm.opp, Fm.holds, Bool.not_not]; congr 1; funext j; exact ih j
  | _ => intro i; simp_all [Fm.opp, Fm.holds]

theorem DrawOppositeOf_ok (w : World) (v : Value) (xs : List UInt8) (h : Bytes w v xs) (hc : CapOk v) :
    Does Try.prog 37 [v] w (RetX w str (fun s _ => s.length ≤ 200)) := by
  refine fn_of_W1 Try.func37 rfl Try.results37 Try.ntmps37 rfl ?_
  focus
    refine W_seq ?_; refine W_region rfl ?_; refine Wo rfl (opv_assign (v := .string _) rfl) ?_; refine Wo_nil ?_; refine W_seq ?_; refine W_region rfl ?_; refine Wo rfl (opv_move (v := v) rfl) ?_
    refine Wo_call rfl (opc1 (a := v) Try.call53 rfl) (open_ok _ _ _ (h) (by assumption)) ?_; rintro _ w1 ⟨E1, y1, rfl, hy1⟩; have hs1 := E1.size
    refine Wo_call rfl (opc2 (a := .pointer _) (b := .int _ _) Try.call52 rfl rfl) (formed_ok _ _ (by assumption) (by omega) (by omega)) ?_; rintro _ w2 ⟨y2, rfl, E2, hr1, hy2⟩; (try dsimp only at hy2); have hlhr1 := hr1.lt
    have Ehr1 := hr1.old; have hs2 := E2.size; refine Wo rfl (opv_assign (v := .string _) rfl) ?_; refine Wo_nil ?_; refine W_ret ?_; refine at_ret (v := .string _) rfl ?_; refine ⟨Ehr1, _, rfl, ?_⟩; (try dsimp only)
  omega

theorem DrawPlacesOf_ok (w : World) (v : Value) (xs : List UInt8) (h : Bytes w v xs) (hc : CapOk v) :
    Does Try.prog 38 [v] w (RetT2 w XR (fun s p => s.length ≤ 200 ∧ p.length ≤ 5 ∧ ∀ r ∈ p, r.length ≤ 6)) := by
  refine fn_of_W2 Try.func38 rfl Try.results38 Try.ntmps38 rfl ?_
  have hle := h.le
  focus
    refine W_seq ?_; refine W_region rfl ?_; refine Wo rfl (opv_assign (v := .string _) rfl) ?_; refine Wo rfl (opv_assign (v := .slice _ _ _) rfl) ?_; refine Wo_nil ?_; refine W_seq ?_; refine W_region rfl ?_
    refine Wo rfl (opv_move (v := v) rfl) ?_; refine Wo_call rfl (opc1 (a := v) Try.call53 rfl) (open_ok _ _ _ (h) (by assumption)) ?_; rintro _ w1 ⟨E1, y1, rfl, hy1⟩; have hs1 := E1.size
    refine Wo rfl (opv_assign (v := .pointer _) rfl) ?_; refine Wo_nil ?_; refine W_seq ?_; refine W_region rfl ?_; refine Wo rfl (opv_move (v := .pointer _) rfl) ?_
    refine Wo_call rfl (opc2 (a := .pointer _) (b := .int _ _) Try.call52 rfl rfl) (formed_ok _ _ (by assumption) (by omega) (by omega)) ?_; rintro _ w2 ⟨y2, rfl, E2, hr1, hy2⟩; (try dsimp only at hy2); have hlhr1 := hr1.lt
    have Ehr1 := hr1.old; have hs2 := E2.size; refine Wo rfl (opv_move (v := .pointer _) rfl) ?_; refine Wo_call rfl (opc2 (a := .pointer _) (b := .int _ _) Try.call64 rfl rfl) (Twin_ok _ _ (by assumption) (by omega) (by omega)) ?_
    rintro u1 w3 ⟨E3, hr2, x1, hO1, hy3⟩; (try dsimp only at hy3); have hlhr2 := hr2.lt; have Ehr2 := hr2.old; have hs3 := E3.size; refine Wo rfl (opv_assign (v := .string _) rfl) ?_; refine Wo rfl (opv_assign (v := u1) rfl) ?_
    refine Wo_nil ?_; refine W_ret ?_; refine at_ret (v := .tuple #[.string _, u1]) rfl ?_
  exact ⟨_, _, _, rfl, Ehr2, hO1.mono (by omega), hy2, hy3⟩

theorem FnOppositeOf_walk (w : World) (v : Value) (xs : List UInt8) (h : Bytes w v xs) (hc : CapOk v) (v' : Value) (ys : List UInt8) (h' : Bytes w v' ys) (hc' : CapOk v') : Does Try.prog 11 [v, v'] w (Ret w (.bool true)) := by
  have hle := h.le
  have hle' := h'.le
  refine fn_of_W1 Try.func11 rfl Try.results11 Try.ntmps11 rfl ?_
  focus
    refine W_seq ?_; refine W_region rfl ?_; refine Wo rfl (opv_assign (v := .bool _) rfl) ?_; refine Wo_nil ?_; refine W_seq ?_; refine W_seq ?_; refine W_region rfl ?_; refine Wo rfl (opv_move (v := v) rfl) ?_
    refine Wo rfl (opv_len Try.underlying24 rfl h) ?_; refine Wo rfl (opv_gtr rfl rfl) ?_; refine Wo_split_dec rfl (opv_move (v := .bool _) rfl) (fun h1 => ?_) (fun h1 => ?_); refine Wo_skip rfl ?_; refine Wo_skip rfl ?_
    refine Wo_skip rfl ?_; refine Wo rfl (opv_pick_t (v := .bool _) rfl rfl) ?_; refine Wo_nil ?_; refine W_cond_true rfl ?_; refine W_seq ?_; refine W_region rfl ?_; refine Wo rfl (opv_assign (v := .bool _) rfl) ?_; refine Wo_nil ?_
    refine W_ret ?_; exact ⟨rfl, (Ext.refl _)⟩; refine Wo rfl (opv_move (v := v') rfl) ?_; refine Wo rfl (opv_len Try.underlying24 rfl h') ?_; refine Wo rfl (opv_gtr rfl rfl) ?_; refine Wo rfl (opv_pick_f (v := .bool _) rfl rfl) ?_
    refine Wo_nil ?_; refine W_cond_dec rfl (fun h2 => ?_) (fun h2 => ?_); refine W_seq ?_; refine W_region rfl ?_; refine Wo rfl (opv_assign (v := .bool _) rfl) ?_; refine Wo_nil ?_; refine W_ret ?_; exact ⟨rfl, (Ext.refl _)⟩
    refine W_skip ?_; refine W_seq ?_; refine W_region rfl ?_; refine Wo rfl (opv_move (v := v) rfl) ?_; refine Wo_call rfl (opc1 (a := v) Try.call37 rfl) (DrawOppositeOf_ok _ _ _ (h) (by assumption)) ?_; rintro _ w1 ⟨E1, y1, rfl, hy1⟩
    have hs1 := E1.size; refine Wo rfl (opv_assign (v := .string _) rfl) ?_; refine Wo_nil ?_; refine W_seq ?_; refine W_region rfl ?_; refine Wo rfl (opv_move (v := .string _) rfl) ?_
  have hv : ∀ r, oppV y1 = r → (∀ w, Does Try.prog 21 [str y1] w (Ret w (.tuple #[str r.1, .bool r.2]))) ∧ (∀ w, Does Try.prog 22 [str y1] w (Ret w (.tuple #[str r.1, .bool r.2]))) := fun r e => by
    subst e
    exact ⟨fun w => spec_OppositeOf_ok y1 w (by unfold lim; omega), fun w => impl_OppositeOf_ok y1 w (by unfold lim; omega)⟩
  have hbad : oppV y1 = ([], false) → ∀ w, Does Try.prog 21 [str y1] w (Ret w (.tuple #[str [], .bool false])) ∧ Does Try.prog 22 [str y1] w (Ret w (.tuple #[str [], .bool false])) := fun e w => ⟨(hv _ e).1 w, (hv _ e).2 w⟩
  cases hf : theF y1 with
  | none =>
    have hb := hbad (by unfold oppV; rw [hf])
    have k1 := fun w => (hb w).1
    have k2 := fun w => (hb w).2
    clear hb hbad hv
    focus
      have szE1 := E1.size; refine Wo_call rfl (opc1 (a := .string _) Try.call22 rfl) (k2 _) ?_; rintro _ w2 ⟨rfl, E2⟩; have hs2 := E2.size; refine Wo rfl (opv_move (v := .tuple _) rfl) ?_
      refine Wo rfl (opv_extract (v := .string _) rfl rfl) ?_; refine Wo rfl (opv_extract (v := .bool _) rfl rfl) ?_; refine Wo rfl (opv_assign (v := .string _) rfl) ?_; refine Wo rfl (opv_assign (v := .bool _) rfl) ?_; refine Wo_nil ?_
      refine W_seq ?_; refine W_region rfl ?_; refine Wo rfl (opv_move (v := .string _) rfl) ?_; refine Wo_call rfl (opc1 (a := .string _) Try.call21 rfl) (k1 _) ?_; rintro _ w3 ⟨rfl, E3⟩; have hs3 := E3.size
      refine Wo rfl (opv_move (v := .tuple _) rfl) ?_; refine Wo rfl (opv_extract (v := .string _) rfl rfl) ?_; refine Wo rfl (opv_extract (v := .bool _) rfl rfl) ?_; refine Wo rfl (opv_assign (v := .string _) rfl) ?_
      refine Wo rfl (opv_assign (v := .bool _) rfl) ?_; refine Wo_nil ?_; refine W_seq ?_; refine W_seq ?_; refine W_region rfl ?_; refine Wo rfl (opv_move (v := .string _) rfl) ?_; refine Wo rfl (opv_move (v := .string _) rfl) ?_
      refine Wo rfl (opv_neq_str rfl rfl) ?_; refine Wo_split_ndec rfl (opv_move (v := .bool _) rfl) (fun h3 => ?_) (fun h3 => ?_); contradiction; refine Wo rfl (opv_move (v := .bool _) rfl) ?_
      refine Wo rfl (opv_move (v := .bool _) rfl) ?_; refine Wo rfl (opv_neq_bool Try.underlying4 rfl rfl) ?_; refine Wo rfl (opv_pick_f (v := .bool _) rfl rfl) ?_; refine Wo_nil ?_; refine W_cond_ndec rfl (fun h4 => ?_) (fun h4 => ?_)
      contradiction; refine W_skip ?_; refine W_seq ?_; refine W_seq ?_; refine W_region rfl ?_; refine Wo rfl (opv_move (v := .bool _) rfl) ?_; refine Wo rfl (opv_not rfl) ?_; refine Wo_nil ?_
      refine W_cond rfl (fun h5 => ?_) (fun h5 => ?_); refine W_seq ?_; refine W_region rfl ?_; refine Wo rfl (opv_move (v := .string _) rfl) ?_; refine Wo rfl (opv_eql_str rfl rfl) ?_
      refine Wo_split_dec rfl (opv_move (v := .bool _) rfl) (fun h6 => ?_) (fun h6 => ?_); refine Wo_call rfl (opc0 Try.call20) (alive_ok _) ?_; rintro _ w4 ⟨rfl, E4⟩; have hs4 := E4.size
      refine Wo rfl (opv_pick_t (v := .bool _) rfl rfl) ?_; refine Wo rfl (opv_assign (v := .bool _) rfl) ?_; refine Wo_nil ?_; refine W_ret ?_; exact ⟨rfl, (((E1.trans E2).trans E3).trans E4)⟩; contradiction; contradiction
  | some f =>
    have e1 : oppV y1 = oppP f := by unfold oppV; rw [hf]
    obtain ⟨e2, e3⟩ := theF_some.1 hf
    by_cases h60 : f.opp.enc.length ≤ 60
    · obtain ⟨k1, k2⟩ := hv (f.opp.enc, true) (e1.trans (if_pos h60))
      have k1' : ∀ w, Does Try.prog 21 [str y1] w (Ret w (.tuple #[str f.opp.enc, .bool true])) := k1
      have k2' : ∀ w, Does Try.prog 22 [str y1] w (Ret w (.tuple #[str f.opp.enc, .bool true])) := k2
      have k3 : ∀ (w : World) (pv : Value) (p : List (List Int)) (z : Int), ESl Ints w pv p → Pic p → 0 ≤ z ∧ z < p.length → Does Try.prog 27 [str y1, pv, .int .i64 z] w (Ret w (.bool (f.holds p z.toNat))) := fun w pv p z h hp hz => by
        have := impl_HoldsAt_ok y1 w pv p z (by unfold lim; omega) h
        have e : holdsV y1 p z = f.holds p z.toNat := by unfold holdsV; rw [hf, decide_eq_true ⟨hp, hz⟩]; rfl
        rw [e] at this; exact this
      have k4 : ∀ (w : World) (pv : Value) (p : List (List Int)) (z : Int), ESl Ints w pv p → Pic p → 0 ≤ z ∧ z < p.length → Does Try.prog 27 [str f.opp.enc, pv, .int .i64 z] w (Ret w (.bool (!(f.holds p z.toNat)))) := fun w pv p z h hp hz => by
        have := impl_HoldsAt_ok f.opp.enc w pv p z (by unfold lim; omega) h
        have e : holdsV f.opp.enc p z = !(f.holds p z.toNat) := by unfold holdsV; rw [theF_enc h60, decide_eq_true ⟨hp, hz⟩, ← holds_opp]; rfl
        rw [e] at this; exact this
      have k5 : ∀ w, Does Try.prog 16 [str f.opp.enc] w (Ret w (.bool true)) := fun w => by
        have := impl_FormulaOk_ok f.opp.enc w (by unfold lim; omega)
        rw [okF, theF_enc h60] at this; exact this
      have k6 : ∀ w, Does Try.prog 18 [str f.opp.enc] w (Ret w (.int .i64 f.deep)) := fun w => by
        have := impl_FormulaDeep_ok f.opp.enc w (by unfold lim; omega)
        rw [deepV_some (theF_enc h60), Fm.deep_opp] at this; exact this
      have k7 : ∀ w, Does Try.prog 18 [str y1] w (Ret w (.int .i64 f.deep)) := fun w => by
        have := impl_FormulaDeep_ok y1 w (by unfold lim; omega)
        rw [deepV_some hf] at this; exact this
      clear k1 k2 hv hbad e1 e2 e3
      generalize hg : f.opp.enc = g at *
      focus
        have szE1 := E1.size; refine Wo_call rfl (opc1 (a := .string _) Try.call22 rfl) (k2' _) ?_; rintro _ w2 ⟨rfl, E2⟩; have hs2 := E2.size; refine Wo rfl (opv_move (v := .tuple _) rfl) ?_
        refine Wo rfl (opv_extract (v := .string _) rfl rfl) ?_; refine Wo rfl (opv_extract (v := .bool _) rfl rfl) ?_; refine Wo rfl (opv_assign (v := .string _) rfl) ?_; refine Wo rfl (opv_assign (v := .bool _) rfl) ?_; refine Wo_nil ?_
        refine W_seq ?_; refine W_region rfl ?_; refine Wo rfl (opv_move (v := .string _) rfl) ?_; refine Wo_call rfl (opc1 (a := .string _) Try.call21 rfl) (k1' _) ?_; rintro _ w3 ⟨rfl, E3⟩; have hs3 := E3.size
        refine Wo rfl (opv_move (v := .tuple _) rfl) ?_; refine Wo rfl (opv_extract (v := .string _) rfl rfl) ?_; refine Wo rfl (opv_extract (v := .bool _) rfl rfl) ?_; refine Wo rfl (opv_assign (v := .string _) rfl) ?_
        refine Wo rfl (opv_assign (v := .bool _) rfl) ?_; refine Wo_nil ?_; refine W_seq ?_; refine W_seq ?_; refine W_region rfl ?_; refine Wo rfl (opv_move (v := .string _) rfl) ?_; refine Wo rfl (opv_move (v := .string _) rfl) ?_
        refine Wo rfl (opv_neq_str rfl rfl) ?_; refine Wo_split_ndec rfl (opv_move (v := .bool _) rfl) (fun h3 => ?_) (fun h3 => ?_); contradiction; refine Wo rfl (opv_move (v := .bool _) rfl) ?_
        refine Wo rfl (opv_move (v := .bool _) rfl) ?_; refine Wo rfl (opv_neq_bool Try.underlying4 rfl rfl) ?_; refine Wo rfl (opv_pick_f (v := .bool _) rfl rfl) ?_; refine Wo_nil ?_; refine W_cond_ndec rfl (fun h4 => ?_) (fun h4 => ?_)
        contradiction; refine W_skip ?_; refine W_seq ?_; refine W_seq ?_; refine W_region rfl ?_; refine Wo rfl (opv_move (v := .bool _) rfl) ?_; refine Wo rfl (opv_not rfl) ?_; refine Wo_nil ?_
        refine W_cond rfl (fun h5 => ?_) (fun h5 => ?_); contradiction; refine W_skip ?_; refine W_seq ?_; refine W_region rfl ?_; refine Wo rfl (opv_move (v := v') rfl) ?_
        refine Wo_call rfl (opc1 (a := v') Try.call38 rfl) (DrawPlacesOf_ok _ _ _ ((Mono.mono ((E1.trans E2).trans E3) h')) (by assumption)) ?_; rintro _ w4 ⟨s1, u1, x1, rfl, E4, hO1, hy2⟩; have hs4 := E4.size
        refine Wo rfl (opv_move (v := .tuple _) rfl) ?_; refine Wo rfl (opv_extract (v := .string _) rfl rfl) ?_; refine Wo rfl (opv_extract (v := u1) rfl rfl) ?_; refine Wo rfl (opv_assign (v := .string _) rfl) ?_
        refine Wo rfl (opv_assign (v := u1) rfl) ?_; refine Wo_nil ?_; refine W_seq ?_; refine W_seq ?_; refine W_region rfl ?_; refine Wo rfl (opv_assign (v := .int _ _) rfl) ?_; refine Wo_nil ?_; refine W_block ?_
      refine W_loop [4, 12, 53, 54, 55, 56, 57, 58, 59, 60, 61, 62, 63, 64, 65, 66, 67, 68, 69, 70, 71] (fun (k : Nat) => [(12, .int .i64 (k : Nat))]) (fun k w' => Ext w4 w' ∧ k ≤ x1.length) (fun x => x1.length - x) 0 (by repeat (first | exact trivial | refine And.intro rfl ?_)) ?_ ?_
      · exact ⟨Ext.refl _, Nat.zero_le _⟩
      rintro k ρj w5 ⟨E5, hk⟩
      by_cases hlt : k < x1.length
      · by_cases hp : Pic x1
        · have k8 : ∀ (w : World) (pv : Value), ESl Ints w pv x1 → Does Try.prog 39 [pv] w (Ret w (.bool true)) := fun w pv h => by
            have := PictureOk_ok w pv x1 h
            rw [decide_eq_true hp] at this; exact this
          have k9 : ∀ (w : World) (pv : Value) (z : Int), ESl Ints w pv x1 → 0 ≤ z ∧ z < x1.length → Does Try.prog 27 [str y1, pv, .int .i64 z] w (Ret w (.bool (f.holds x1 z.toNat))) := fun w pv z h hz => k3 w pv x1 z h hp hz
          have k10 : ∀ (w : World) (pv : Value) (z : Int), ESl Ints w pv x1 → 0 ≤ z ∧ z < x1.length → Does Try.prog 27 [str g, pv, .int .i64 z] w (Ret w (.bool (!(f.holds x1 z.toNat)))) := fun w pv z h hz => k4 w pv x1 z h hp hz
          clear k3 k4
          focus
            have szE5 := E5.size; have szE4 := E4.size; have szE3 := E3.size; have szE2 := E2.size; have szE1 := E1.size; refine W_seq ?_; refine W_seq ?_; refine W_region rfl ?_; refine Wo rfl (opv_move (v := .int _ _) rfl) ?_
            refine Wo rfl (opv_move (v := u1) rfl) ?_; refine Wo rfl (opv_len Try.underlying30 rfl (Owned.read hO1)) ?_; refine Wo rfl (opv_lss rfl rfl) ?_; refine Wo_split_dec rfl (opv_move (v := .bool _) rfl) (fun h6 => ?_) (fun h6 => ?_)
            refine Wo rfl (opv_move (v := u1) rfl) ?_; refine Wo_call rfl (opc1 (a := u1) Try.call39 rfl) (k8 _ _ ((Mono.mono E5 (Owned.read hO1)))) ?_; rintro _ w6 ⟨rfl, E6⟩; have hs5 := E6.size
            refine Wo rfl (opv_pick_t (v := .bool _) rfl rfl) ?_; refine Wo_nil ?_; refine W_cond_true rfl ?_; refine W_skip ?_; refine W_seq ?_; refine W_block ?_; refine W_seq ?_; refine W_region rfl ?_
            refine Wo rfl (opv_move (v := .string _) rfl) ?_; refine Wo rfl (opv_move (v := u1) rfl) ?_; refine Wo rfl (opv_move (v := .int _ _) rfl) ?_
            refine Wo_call rfl (opc3 (a := .string _) (b := u1) (c := .int _ _) Try.call27 rfl rfl rfl) (k9 _ _ _ ((Mono.mono (E5.trans E6) (Owned.read hO1))) (by omega)) ?_; rintro _ w7 ⟨rfl, E7⟩; have hs6 := E7.size
            refine Wo rfl (opv_move (v := .string _) rfl) ?_; refine Wo rfl (opv_move (v := u1) rfl) ?_; refine Wo rfl (opv_move (v := .int _ _) rfl) ?_
            refine Wo_call rfl (opc3 (a := .string _) (b := u1) (c := .int _ _) Try.call27 rfl rfl rfl) (k10 _ _ _ ((Mono.mono ((E5.trans E6).trans E7) (Owned.read hO1))) (by omega)) ?_; rintro _ w8 ⟨rfl, E8⟩; have hs7 := E8.size
            refine Wo rfl (opv_eql_bool Try.underlying4 rfl rfl) ?_; refine Wo_nil ?_; refine W_cond_dec rfl (fun h7 => ?_) (fun h7 => ?_); refine W_seq ?_; refine W_region rfl ?_; refine Wo rfl (opv_assign (v := .bool _) rfl) ?_
            refine Wo_nil ?_; refine W_ret ?_; refine at_ret (v := .bool _) rfl ?_; refine ⟨congrArg Value.bool ?_, (((((((E1.trans E2).trans E3).trans E4).trans E5).trans E6).trans E7).trans E8)⟩; rotate_left; refine W_skip ?_
            refine W_region rfl ?_; refine Wo rfl (opv_move (v := .int _ _) rfl) ?_; refine Wo rfl (opv_add rfl rfl (by omega)) ?_; refine Wo rfl (opv_assign (v := .int _ _) rfl) ?_; refine Wo_nil ?_; rotate_left; (exfalso; omega)
          · cases hq : f.holds x1 ((k : Int)).toNat <;> rw [hq] at h7 <;> cases h7
          · refine ⟨(k + 1), by repeat (first | exact trivial | refine And.intro rfl ?_), by repeat (first | with_reducible exact Same.refl | refine Same.upd rfl ?_ | refine Same.upds rfl ?_ | refine Same.mix rfl ?_), ?_, ?_⟩
            · exact ⟨E5.trans (E6.trans (E7.trans E8)), by omega⟩
            · omega
        · have k8 : ∀ (w : World) (pv : Value), ESl Ints w pv x1 → Does Try.prog 39 [pv] w (Ret w (.bool false)) := fun w pv h => by
            have := PictureOk_ok w pv x1 h
            rw [decide_eq_false hp] at this; exact this
          focus
            have szE5 := E5.size; have szE4 := E4.size; have szE3 := E3.size; have szE2 := E2.size; have szE1 := E1.size; refine W_seq ?_; refine W_seq ?_; refine W_region rfl ?_; refine Wo rfl (opv_move (v := .int _ _) rfl) ?_
            refine Wo rfl (opv_move (v := u1) rfl) ?_; refine Wo rfl (opv_len Try.underlying30 rfl (Owned.read hO1)) ?_; refine Wo rfl (opv_lss rfl rfl) ?_; refine Wo_split_dec rfl (opv_move (v := .bool _) rfl) (fun h6 => ?_) (fun h6 => ?_)
            refine Wo rfl (opv_move (v := u1) rfl) ?_; refine Wo_call rfl (opc1 (a := u1) Try.call39 rfl) (k8 _ _ ((Mono.mono E5 (Owned.read hO1)))) ?_; rintro _ w6 ⟨rfl, E6⟩; have hs5 := E6.size
            refine Wo rfl (opv_pick_t (v := .bool _) rfl rfl) ?_; refine Wo_nil ?_; refine W_cond_false rfl ?_; refine W_exit ?_; refine exitX_same ?_; refine W_seq ?_; refine W_region rfl ?_; refine Wo rfl (opv_move (v := .string _) rfl) ?_
            refine Wo_call rfl (opc1 (a := .string _) Try.call16 rfl) (k5 _) ?_; rintro _ w7 ⟨rfl, E7⟩; have hs6 := E7.size; refine Wo rfl (opv_move (v := .bool _) rfl) ?_; refine Wo rfl (opv_move (v := .string _) rfl) ?_
            refine Wo_call rfl (opc1 (a := .string _) Try.call18 rfl) (k6 _) ?_; rintro _ w8 ⟨rfl, E8⟩; have hs7 := E8.size; refine Wo rfl (opv_move (v := .string _) rfl) ?_; refine Wo_call rfl (opc1 (a := .string _) Try.call18 rfl) (k7 _) ?_
            rintro _ w9 ⟨rfl, E9⟩; have hs8 := E9.size; refine Wo rfl (opv_eql rfl rfl) ?_; refine Wo rfl (opv_pick_t (v := .bool _) rfl rfl) ?_; refine Wo_split_dec rfl (opv_move (v := .bool _) rfl) (fun h7 => ?_) (fun h7 => ?_)
            refine Wo_call rfl (opc0 Try.call20) (alive_ok _) ?_; rintro _ w10 ⟨rfl, E10⟩; have hs9 := E10.size; refine Wo rfl (opv_pick_t (v := .bool _) rfl rfl) ?_; refine Wo rfl (opv_assign (v := .bool _) rfl) ?_; refine Wo_nil ?_
            refine W_ret ?_; exact ⟨rfl, (((((((((E1.trans E2).trans E3).trans E4).trans E5).trans E6).trans E7).trans E8).trans E9).trans E10)⟩; contradiction; (exfalso; omega)
      · obtain rfl : k = x1.length := by omega
        focus
          have szE5 := E5.size; have szE4 := E4.size; have szE3 := E3.size; have szE2 := E2.size; have szE1 := E1.size; refine W_seq ?_; refine W_seq ?_; refine W_region rfl ?_; refine Wo rfl (opv_move (v := .int _ _) rfl) ?_
          refine Wo rfl (opv_move (v := u1) rfl) ?_; refine Wo rfl (opv_len Try.underlying30 rfl (Owned.read hO1)) ?_; refine Wo rfl (opv_lss rfl rfl) ?_; refine Wo_split_dec rfl (opv_move (v := .bool _) rfl) (fun h6 => ?_) (fun h6 => ?_)
          (exfalso; omega); refine Wo_skip rfl ?_; refine Wo_skip rfl ?_; refine Wo rfl (opv_pick_f (v := .bool _) rfl rfl) ?_; refine Wo_nil ?_; refine W_cond_false rfl ?_; refine W_exit ?_; refine exitX_same ?_; refine W_seq ?_
          refine W_region rfl ?_; refine Wo rfl (opv_move (v := .string _) rfl) ?_; refine Wo_call rfl (opc1 (a := .string _) Try.call16 rfl) (k5 _) ?_; rintro _ w6 ⟨rfl, E6⟩; have hs5 := E6.size
          refine Wo rfl (opv_move (v := .bool _) rfl) ?_; refine Wo rfl (opv_move (v := .string _) rfl) ?_; refine Wo_call rfl (opc1 (a := .string _) Try.call18 rfl) (k6 _) ?_; rintro _ w7 ⟨rfl, E7⟩; have hs6 := E7.size
          refine Wo rfl (opv_move (v := .string _) rfl) ?_; refine Wo_call rfl (opc1 (a := .string _) Try.call18 rfl) (k7 _) ?_; rintro _ w8 ⟨rfl, E8⟩; have hs7 := E8.size; refine Wo rfl (opv_eql rfl rfl) ?_
          refine Wo rfl (opv_pick_t (v := .bool _) rfl rfl) ?_; refine Wo_split_dec rfl (opv_move (v := .bool _) rfl) (fun h7 => ?_) (fun h7 => ?_); refine Wo_call rfl (opc0 Try.call20) (alive_ok _) ?_; rintro _ w9 ⟨rfl, E9⟩
          have hs8 := E9.size; refine Wo rfl (opv_pick_t (v := .bool _) rfl rfl) ?_; refine Wo rfl (opv_assign (v := .bool _) rfl) ?_; refine Wo_nil ?_; refine W_ret ?_
          exact ⟨rfl, ((((((((E1.trans E2).trans E3).trans E4).trans E5).trans E6).trans E7).trans E8).trans E9)⟩; contradiction
    · have hb := hbad (e1.trans (if_neg h60))
      have k1 := fun w => (hb w).1
      have k2 := fun w => (hb w).2
      clear hb hbad hv e1 e2
      focus
        have szE1 := E1.size; refine Wo_call rfl (opc1 (a := .string _) Try.call22 rfl) (k2 _) ?_; rintro _ w2 ⟨rfl, E2⟩; have hs2 := E2.size; refine Wo rfl (opv_move (v := .tuple _) rfl) ?_
        refine Wo rfl (opv_extract (v := .string _) rfl rfl) ?_; refine Wo rfl (opv_extract (v := .bool _) rfl rfl) ?_; refine Wo rfl (opv_assign (v := .string _) rfl) ?_; refine Wo rfl (opv_assign (v := .bool _) rfl) ?_; refine Wo_nil ?_
        refine W_seq ?_; refine W_region rfl ?_; refine Wo rfl (opv_move (v := .string _) rfl) ?_; refine Wo_call rfl (opc1 (a := .string _) Try.call21 rfl) (k1 _) ?_; rintro _ w3 ⟨rfl, E3⟩; have hs3 := E3.size
        refine Wo rfl (opv_move (v := .tuple _) rfl) ?_; refine Wo rfl (opv_extract (v := .string _) rfl rfl) ?_; refine Wo rfl (opv_extract (v := .bool _) rfl rfl) ?_; refine Wo rfl (opv_assign (v := .string _) rfl) ?_
        refine Wo rfl (opv_assign (v := .bool _) rfl) ?_; refine Wo_nil ?_; refine W_seq ?_; refine W_seq ?_; refine W_region rfl ?_; refine Wo rfl (opv_move (v := .string _) rfl) ?_; refine Wo rfl (opv_move (v := .string _) rfl) ?_
        refine Wo rfl (opv_neq_str rfl rfl) ?_; refine Wo_split_ndec rfl (opv_move (v := .bool _) rfl) (fun h3 => ?_) (fun h3 => ?_); contradiction; refine Wo rfl (opv_move (v := .bool _) rfl) ?_
        refine Wo rfl (opv_move (v := .bool _) rfl) ?_; refine Wo rfl (opv_neq_bool Try.underlying4 rfl rfl) ?_; refine Wo rfl (opv_pick_f (v := .bool _) rfl rfl) ?_; refine Wo_nil ?_; refine W_cond_ndec rfl (fun h4 => ?_) (fun h4 => ?_)
        contradiction; refine W_skip ?_; refine W_seq ?_; refine W_seq ?_; refine W_region rfl ?_; refine Wo rfl (opv_move (v := .bool _) rfl) ?_; refine Wo rfl (opv_not rfl) ?_; refine Wo_nil ?_
        refine W_cond rfl (fun h5 => ?_) (fun h5 => ?_); refine W_seq ?_; refine W_region rfl ?_; refine Wo rfl (opv_move (v := .string _) rfl) ?_; refine Wo rfl (opv_eql_str rfl rfl) ?_
        refine Wo_split_dec rfl (opv_move (v := .bool _) rfl) (fun h6 => ?_) (fun h6 => ?_); refine Wo_call rfl (opc0 Try.call20) (alive_ok _) ?_; rintro _ w4 ⟨rfl, E4⟩; have hs4 := E4.size
        refine Wo rfl (opv_pick_t (v := .bool _) rfl rfl) ?_; refine Wo rfl (opv_assign (v := .bool _) rfl) ?_; refine Wo_nil ?_; refine W_ret ?_; exact ⟨rfl, (((E1.trans E2).trans E3).trans E4)⟩; contradiction; contradiction

end Go.Proofs.Ytjdfnngmbaojjaa
