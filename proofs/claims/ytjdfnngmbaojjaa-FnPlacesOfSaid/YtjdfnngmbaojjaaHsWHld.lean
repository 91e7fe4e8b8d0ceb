/- Walks: for how many rounds two nodes are left, both sides. -/
import Derived.Test.YtjdfnngmbaojjaaHsWBisL
import Derived.Test.YtjdfnngmbaojjaaHsBisN
namespace Go.Proofs.Ytjdfnngmbaojjaa
open Go.Hs
set_option maxRecDepth 10000
set_option maxHeartbeats 4000000
set_option linter.unusedVariables false
set_option linter.unusedSimpArgs false
theorem nod_iff {p : List (List Int)} (hp : Pic p) (x : Int) : Nod p x ↔ 0 ≤ x ∧ x < p.length := ⟨fun h => h.2, fun h => ⟨hp, h⟩⟩
theorem matV_one {p : List (List Int)} {S : Nat → Nat → Bool} {a b : Nat} {x : Bool} (ha : a < p.length) (hb : b < p.length) (h : S a b = x) : ((matV p S)[a]'(by rw [matV_len]; exact ha))[b]'(by rw [matV_rlen ha]; exact hb) = b01 x := by rw [matV_at ha hb, h]

theorem impl_SameAt_ok (w : World) (v : Value) (p : List (List Int)) (h : ESl Ints w v p) (a b : Int) : Does Try.prog 45 [v, .int .i64 a, .int .i64 b] w (Ret w (.bool (smV p a b))) := by
  have hle := h.le
  have hnn : ∀ (z : Int) (x : Bool), decide (Nod p z) = x → ∀ (w : World) (pv : Value), ESl Ints w pv p → Does Try.prog 59 [pv, .int .i64 z] w (Ret w (.bool x)) := fun z x e w pv h => by
    subst e; exact hasNode_ok w pv p h z
  by_cases ha : Nod p a
  · have k1 := hnn a true (decide_eq_true ha)
    by_cases hb : Nod p b
    · have k2 := hnn b true (decide_eq_true hb)
      have hp := ha.1
      have hp5 := hp.2.1
      have ha' := ha.2
      have hb' := hb.2
      have hla : ∀ (w : World) (pv : Value), ESl Ints w pv p → Does Try.prog 71 [pv, .int .i64 (p.length : Int)] w (RetO w XR (matV p (bsm p p.length))) := fun w pv h => leftAfter_ok w pv p h hp p.length (by omega)
      have hml := matV_len (p := p) (bsm p p.length)
      have hmr := matV_rlen (p := p) (S := bsm p p.length) (a := a.toNat) (by omega)
      have hme := matV_at (p := p) (S := bsm p p.length) (a := a.toNat) (b := b.toNat) (by omega) (by omega)
      have e : smV p a b = bsm p p.length a.toNat b.toNat := by unfold smV; rw [decide_eq_true ha, decide_eq_true hb]; rfl
      rw [e]
      clear hnn
      refine fn_of_W1 Try.func45 rfl Try.results45 Try.ntmps45 rfl ?_
      focus
        refine W_seq ?_; refine W_region rfl ?_; refine Wo rfl (opv_assign (v := .bool _) rfl) ?_; refine Wo_nil ?_; refine W_seq ?_; refine W_region rfl ?_; refine Wo rfl (opv_move (v := v) rfl) ?_
        refine Wo rfl (opv_move (v := .int _ _) rfl) ?_; refine Wo_call rfl (opc2 (a := v) (b := .int _ _) Try.call59 rfl rfl) (k1 _ _ (h)) ?_; rintro _ w1 ⟨rfl, E1⟩; have hs1 := E1.size; refine Wo rfl (opv_move (v := .bool _) rfl) ?_
        refine Wo rfl (opv_move (v := v) rfl) ?_; refine Wo rfl (opv_move (v := .int _ _) rfl) ?_; refine Wo_call rfl (opc2 (a := v) (b := .int _ _) Try.call59 rfl rfl) (k2 _ _ ((Mono.mono E1 h))) ?_; rintro _ w2 ⟨rfl, E2⟩
        have hs2 := E2.size; refine Wo rfl (opv_pick_t (v := .bool _) rfl rfl) ?_; refine Wo rfl (opv_move (v := .bool _) rfl) ?_; refine Wo rfl (opv_move (v := v) rfl) ?_; refine Wo rfl (opv_move (v := v) rfl) ?_
        refine Wo rfl (opv_len Try.underlying30 rfl h) ?_; refine Wo_call rfl (opc2 (a := v) (b := .int _ _) Try.call71 rfl rfl) (hla _ _ ((Mono.mono (E1.trans E2) h))) ?_; rintro u1 w3 ⟨E3, hO1⟩; have hs3 := E3.size
        refine Wo rfl (opv_move (v := .int _ _) rfl) ?_; refine Wo_get_z Try.underlying30 Try.sizeOf38 Try.isAgg38 rfl (fun _ => rfl) rfl (Owned.read hO1) (Ext.refl _) rfl (by first | omega | (simp <;> omega)) ?_; rintro _ u2 hu1
        refine Wo rfl (opv_move (v := .int _ _) rfl) ?_; refine Wo_get_z Try.underlying38 Try.sizeOf3 Try.isAgg3 rfl (fun _ => rfl) rfl hu1 (Ext.refl _) rfl (by first | omega | (simp <;> omega)) ?_; rintro _ _ rfl
        refine Wo rfl (opv_eql rfl rfl) ?_; refine Wo rfl (opv_pick_t (v := .bool _) rfl rfl) ?_; refine Wo rfl (opv_assign (v := .bool _) rfl) ?_; refine Wo_nil ?_; refine W_ret ?_; refine at_ret (v := .bool _) rfl ?_
        refine ⟨congrArg Value.bool ?_, ((E1.trans E2).trans E3)⟩
      rw [hme]
      cases bsm p p.length a.toNat b.toNat <;> rfl
    · have k2 := hnn b false (decide_eq_false hb)
      have e : smV p a b = false := by unfold smV; rw [decide_eq_false hb, Bool.and_false]; rfl
      rw [e]
      clear hnn
      refine fn_of_W1 Try.func45 rfl Try.results45 Try.ntmps45 rfl ?_
      focus
        refine W_seq ?_; refine W_region rfl ?_; refine Wo rfl (opv_assign (v := .bool _) rfl) ?_; refine Wo_nil ?_; refine W_seq ?_; refine W_region rfl ?_; refine Wo rfl (opv_move (v := v) rfl) ?_
        refine Wo rfl (opv_move (v := .int _ _) rfl) ?_; refine Wo_call rfl (opc2 (a := v) (b := .int _ _) Try.call59 rfl rfl) (k1 _ _ (h)) ?_; rintro _ w1 ⟨rfl, E1⟩; have hs1 := E1.size; refine Wo rfl (opv_move (v := .bool _) rfl) ?_
        refine Wo rfl (opv_move (v := v) rfl) ?_; refine Wo rfl (opv_move (v := .int _ _) rfl) ?_; refine Wo_call rfl (opc2 (a := v) (b := .int _ _) Try.call59 rfl rfl) (k2 _ _ ((Mono.mono E1 h))) ?_; rintro _ w2 ⟨rfl, E2⟩
        have hs2 := E2.size; refine Wo rfl (opv_pick_t (v := .bool _) rfl rfl) ?_; refine Wo rfl (opv_move (v := .bool _) rfl) ?_; refine Wo_skip rfl ?_; refine Wo_skip rfl ?_; refine Wo_skip rfl ?_; refine Wo_skip rfl ?_
        refine Wo_skip rfl ?_; refine Wo_skip rfl ?_; refine Wo_skip rfl ?_; refine Wo_skip rfl ?_; refine Wo_skip rfl ?_; refine Wo_skip rfl ?_; refine Wo_skip rfl ?_; refine Wo rfl (opv_pick_f (v := .bool _) rfl rfl) ?_
        refine Wo rfl (opv_assign (v := .bool _) rfl) ?_; refine Wo_nil ?_; refine W_ret ?_; exact ⟨rfl, (E1.trans E2)⟩
  · have k1 := hnn a false (decide_eq_false ha)
    have e : smV p a b = false := by unfold smV; rw [decide_eq_false ha]; rfl
    rw [e]
    clear hnn
    refine fn_of_W1 Try.func45 rfl Try.results45 Try.ntmps45 rfl ?_
    focus
      refine W_seq ?_; refine W_region rfl ?_; refine Wo rfl (opv_assign (v := .bool _) rfl) ?_; refine Wo_nil ?_; refine W_seq ?_; refine W_region rfl ?_; refine Wo rfl (opv_move (v := v) rfl) ?_
      refine Wo rfl (opv_move (v := .int _ _) rfl) ?_; refine Wo_call rfl (opc2 (a := v) (b := .int _ _) Try.call59 rfl rfl) (k1 _ _ (h)) ?_; rintro _ w1 ⟨rfl, E1⟩; have hs1 := E1.size; refine Wo rfl (opv_move (v := .bool _) rfl) ?_
      refine Wo_skip rfl ?_; refine Wo_skip rfl ?_; refine Wo_skip rfl ?_; refine Wo rfl (opv_pick_f (v := .bool _) rfl rfl) ?_; refine Wo rfl (opv_move (v := .bool _) rfl) ?_; refine Wo_skip rfl ?_; refine Wo_skip rfl ?_
      refine Wo_skip rfl ?_; refine Wo_skip rfl ?_; refine Wo_skip rfl ?_; refine Wo_skip rfl ?_; refine Wo_skip rfl ?_; refine Wo_skip rfl ?_; refine Wo_skip rfl ?_; refine Wo_skip rfl ?_; refine Wo_skip rfl ?_
      refine Wo rfl (opv_pick_f (v := .bool _) rfl rfl) ?_; refine Wo rfl (opv_assign (v := .bool _) rfl) ?_; refine Wo_nil ?_; refine W_ret ?_; exact ⟨rfl, E1⟩

theorem heldFor_ok (w : World) (v : Value) (p : List (List Int)) (h : ESl Ints w v p) (hp : Pic p) (a b : Nat) (ha : a < p.length) (hb : b < p.length) : Does Try.prog 67 [v, .int .i64 (a : Int), .int .i64 (b : Int)] w (Ret w (.int .i64 (hld p a b : Int))) := by
  have hp5 := hp.2.1
  have hle := h.le
  refine fn_of_W1 Try.func67 rfl Try.results67 Try.ntmps67 rfl ?_
  focus
    refine W_seq ?_; refine W_region rfl ?_; refine Wo rfl (opv_assign (v := .int _ _) rfl) ?_; refine Wo_nil ?_; refine W_seq ?_; refine W_seq ?_; refine W_region rfl ?_; refine Wo rfl (opv_move (v := v) rfl) ?_
    refine Wo rfl (opv_len Try.underlying30 rfl h) ?_; refine Wo rfl (opv_add rfl rfl (by omega)) ?_; refine Wo rfl (opv_move (v := .int _ _) rfl) ?_; refine Wo_nil ?_; refine W_block ?_
  refine W_loop [6, 7, 11, 12, 13, 14, 15, 16, 17, 18, 19, 20, 21, 22, 23, 24, 25, 26] (fun (k : Nat) => [(11, .int .i64 (k : Nat))]) (fun k w' => Ext w w' ∧ k ≤ p.length + 1 ∧ bsm p k a b = true) (fun x => p.length + 1 - x) 0 (by repeat (first | exact trivial | refine And.intro rfl ?_)) ?_ ?_
  · exact ⟨Ext.refl _, Nat.zero_le _, rfl⟩
  rintro k ρj w2 ⟨E2, hk, hbk⟩
  by_cases hkl : k < p.length + 1
  · have hml := matV_len (p := p) (bsm p (k + 1))
    have hmr := matV_rlen (p := p) (S := bsm p (k + 1)) ha
    have hla : ∀ (w : World) (pv : Value), ESl Ints w pv p → Does Try.prog 71 [pv, .int .i64 ((k : Int) + 1)] w (RetO w XR (matV p (bsm p (k + 1)))) := fun w pv h => leftAfter_ok w pv p h hp (k + 1) (by omega)
    cases hn : bsm p (k + 1) a b with
    | true =>
      have hme := matV_one ha hb hn
      have hme' : ((matV p (bsm p (k + 1)))[a]'(by omega))[b]'(by omega) = 1 := hme
      clear hme
      focus
        have szE2 := E2.size; refine W_seq ?_; refine W_region rfl ?_; refine Wo rfl (opv_lss rfl rfl) ?_; refine Wo_nil ?_; refine W_seq ?_; refine W_cond_dec rfl (fun h1 => ?_) (fun h1 => ?_); refine W_skip ?_; refine W_seq ?_
        refine W_block ?_; refine W_seq ?_; refine W_region rfl ?_; refine Wo rfl (opv_move (v := .int _ _) rfl) ?_; refine Wo rfl (opv_assign (v := .int _ _) rfl) ?_; refine Wo_nil ?_; refine W_seq ?_; refine W_region rfl ?_
        refine Wo rfl (opv_move (v := v) rfl) ?_; refine Wo rfl (opv_move (v := .int _ _) rfl) ?_; refine Wo rfl (opv_add rfl rfl (by omega)) ?_
        refine Wo_call rfl (opc2 (a := v) (b := .int _ _) Try.call71 rfl rfl) (hla _ _ ((Mono.mono E2 h))) ?_; rintro u1 w1 ⟨E1, hO1⟩; have hs1 := E1.size; refine Wo rfl (opv_move (v := .int _ _) rfl) ?_
        refine Wo_get Try.underlying30 Try.sizeOf38 Try.isAgg38 rfl (fun _ => rfl) rfl (Owned.read hO1) (Ext.refl _) rfl (by first | omega | (simp <;> omega)) ?_; rintro _ u2 hu1; refine Wo rfl (opv_move (v := .int _ _) rfl) ?_
        refine Wo_get Try.underlying38 Try.sizeOf3 Try.isAgg3 rfl (fun _ => rfl) rfl hu1 (Ext.refl _) rfl (by first | omega | (simp <;> omega)) ?_; rintro _ _ rfl; refine Wo rfl (opv_eql rfl rfl) ?_; refine Wo_nil ?_
        refine W_cond_dec rfl (fun h2 => ?_) (fun h2 => ?_); (exfalso; omega); refine W_skip ?_; refine W_region rfl ?_; refine Wo rfl (opv_add rfl rfl (by omega)) ?_; refine Wo rfl (opv_move (v := .int _ _) rfl) ?_; refine Wo_nil ?_
        rotate_left; (exfalso; omega)
      refine ⟨(k + 1), by repeat (first | exact trivial | refine And.intro rfl ?_), by repeat (first | with_reducible exact Same.refl | refine Same.upd rfl ?_ | refine Same.upds rfl ?_ | refine Same.mix rfl ?_), ?_, ?_⟩
      · exact ⟨by first | assumption | exact E2.trans E1, by omega, hn⟩
      · omega
    | false =>
      have hme := matV_one ha hb hn
      have hme' : ((matV p (bsm p (k + 1)))[a]'(by omega))[b]'(by omega) = 0 := hme
      clear hme
      have hh := hld_eq hbk hn
      focus
        have szE2 := E2.size; refine W_seq ?_; refine W_region rfl ?_; refine Wo rfl (opv_lss rfl rfl) ?_; refine Wo_nil ?_; refine W_seq ?_; refine W_cond_dec rfl (fun h1 => ?_) (fun h1 => ?_); refine W_skip ?_; refine W_seq ?_
        refine W_block ?_; refine W_seq ?_; refine W_region rfl ?_; refine Wo rfl (opv_move (v := .int _ _) rfl) ?_; refine Wo rfl (opv_assign (v := .int _ _) rfl) ?_; refine Wo_nil ?_; refine W_seq ?_; refine W_region rfl ?_
        refine Wo rfl (opv_move (v := v) rfl) ?_; refine Wo rfl (opv_move (v := .int _ _) rfl) ?_; refine Wo rfl (opv_add rfl rfl (by omega)) ?_
        refine Wo_call rfl (opc2 (a := v) (b := .int _ _) Try.call71 rfl rfl) (hla _ _ ((Mono.mono E2 h))) ?_; rintro u1 w1 ⟨E1, hO1⟩; have hs1 := E1.size; refine Wo rfl (opv_move (v := .int _ _) rfl) ?_
        refine Wo_get Try.underlying30 Try.sizeOf38 Try.isAgg38 rfl (fun _ => rfl) rfl (Owned.read hO1) (Ext.refl _) rfl (by first | omega | (simp <;> omega)) ?_; rintro _ u2 hu1; refine Wo rfl (opv_move (v := .int _ _) rfl) ?_
        refine Wo_get Try.underlying38 Try.sizeOf3 Try.isAgg3 rfl (fun _ => rfl) rfl hu1 (Ext.refl _) rfl (by first | omega | (simp <;> omega)) ?_; rintro _ _ rfl; refine Wo rfl (opv_eql rfl rfl) ?_; refine Wo_nil ?_
        refine W_cond_dec rfl (fun h2 => ?_) (fun h2 => ?_); refine W_seq ?_; refine W_region rfl ?_; refine Wo rfl (opv_move (v := .int _ _) rfl) ?_; refine Wo rfl (opv_assign (v := .int _ _) rfl) ?_; refine Wo_nil ?_; refine W_ret ?_
        refine at_ret (v := .int _ _) rfl ?_; refine ⟨congrArg (Value.int .i64) ?_, (E2.trans E1)⟩; rotate_left; contradiction; (exfalso; omega)
      rw [hh]
  · obtain rfl : k = p.length + 1 := by omega
    have hh := hld_top hp ha hb (bsm_le hbk)
    focus
      have szE2 := E2.size; refine W_seq ?_; refine W_region rfl ?_; refine Wo rfl (opv_lss rfl rfl) ?_; refine Wo_nil ?_; refine W_seq ?_; refine W_cond_dec rfl (fun h1 => ?_) (fun h1 => ?_); (exfalso; omega); refine W_exit ?_
      refine exitX_same ?_; refine W_seq ?_; refine W_region rfl ?_; refine Wo rfl (opv_assign (v := .int _ _) rfl) ?_; refine Wo_nil ?_; refine W_ret ?_; refine at_ret (v := .int _ _) rfl ?_; refine ⟨congrArg (Value.int .i64) ?_, E2⟩
    rw [hh]; rfl

noncomputable def heldV (p : List (List Int)) (a b : Int) : Int × Bool := if Nod p a ∧ Nod p b ∧ bsm p p.length a.toNat b.toNat = false then ((hld p a.toNat b.toNat : Int), true) else (-1, false)
theorem impl_HeldFor_ok (w : World) (v : Value) (p : List (List Int)) (h : ESl Ints w v p) (a b : Int) : Does Try.prog 48 [v, .int .i64 a, .int .i64 b] w (Ret w (.tuple #[.int .i64 (heldV p a b).1, .bool (heldV p a b).2])) := by
  have hle := h.le
  have hnn : ∀ (z : Int) (x : Bool), decide (Nod p z) = x → ∀ (w : World) (pv : Value), ESl Ints w pv p → Does Try.prog 59 [pv, .int .i64 z] w (Ret w (.bool x)) := fun z x e w pv h => by
    subst e; exact hasNode_ok w pv p h z
  by_cases ha : Nod p a
  · have k1 := hnn a true (decide_eq_true ha)
    by_cases hb : Nod p b
    · have k2 := hnn b true (decide_eq_true hb)
      have hp := ha.1
      have hp5 := hp.2.1
      have ha' := ha.2
      have hb' := hb.2
      have hhf : ∀ (n : Nat), hld p a.toNat b.toNat = n → ∀ (w : World) (pv : Value), ESl Ints w pv p → Does Try.prog 67 [pv, .int .i64 a, .int .i64 b] w (Ret w (.int .i64 (n : Int))) := fun n e w pv h => by
        subst e
        have := heldFor_ok w pv p h hp a.toNat b.toNat (by omega) (by omega)
        rw [Int.toNat_of_nonneg ha'.1, Int.toNat_of_nonneg hb'.1] at this
        exact this
      clear hnn
      cases hs : bsm p p.length a.toNat b.toNat with
      | true =>
        have k3 := hhf 1000 (hld_top hp (by omega) (by omega) hs)
        have e : heldV p a b = (-1, false) := if_neg (by rintro ⟨_, _, h⟩; rw [hs] at h; cases h)
        rw [e]
        refine fn_of_W2 Try.func48 rfl Try.results48 Try.ntmps48 rfl ?_
        focus
          refine W_seq ?_; refine W_region rfl ?_; refine Wo rfl (opv_assign (v := .int _ _) rfl) ?_; refine Wo rfl (opv_assign (v := .bool _) rfl) ?_; refine Wo_nil ?_; refine W_seq ?_; refine W_seq ?_; refine W_region rfl ?_
          refine Wo rfl (opv_move (v := v) rfl) ?_; refine Wo rfl (opv_move (v := .int _ _) rfl) ?_; refine Wo_call rfl (opc2 (a := v) (b := .int _ _) Try.call59 rfl rfl) (k1 _ _ (h)) ?_; rintro _ w1 ⟨rfl, E1⟩; have hs1 := E1.size
          refine Wo rfl (opv_not rfl) ?_; refine Wo_split rfl (opv_move (v := .bool _) rfl) (fun h1 => ?_) (fun h1 => ?_); contradiction; refine Wo rfl (opv_move (v := v) rfl) ?_; refine Wo rfl (opv_move (v := .int _ _) rfl) ?_
          refine Wo_call rfl (opc2 (a := v) (b := .int _ _) Try.call59 rfl rfl) (k2 _ _ ((Mono.mono E1 h))) ?_; rintro _ w2 ⟨rfl, E2⟩; have hs2 := E2.size; refine Wo rfl (opv_not rfl) ?_; refine Wo rfl (opv_pick_f (v := .bool _) rfl rfl) ?_
          refine Wo_nil ?_; refine W_cond rfl (fun h2 => ?_) (fun h2 => ?_); contradiction; refine W_skip ?_; refine W_seq ?_; refine W_region rfl ?_; refine Wo rfl (opv_move (v := v) rfl) ?_; refine Wo rfl (opv_move (v := .int _ _) rfl) ?_
          refine Wo rfl (opv_move (v := .int _ _) rfl) ?_; refine Wo_call rfl (opc3 (a := v) (b := .int _ _) (c := .int _ _) Try.call67 rfl rfl rfl) (k3 _ _ ((Mono.mono (E1.trans E2) h))) ?_; rintro _ w3 ⟨rfl, E3⟩; have hs3 := E3.size
          refine Wo rfl (opv_assign (v := .int _ _) rfl) ?_; refine Wo_nil ?_; refine W_seq ?_; refine W_seq ?_; refine W_region rfl ?_; refine Wo rfl (opv_move (v := .int _ _) rfl) ?_; refine Wo rfl (opv_eql rfl rfl) ?_; refine Wo_nil ?_
          refine W_cond_dec rfl (fun h3 => ?_) (fun h3 => ?_); refine W_seq ?_; refine W_region rfl ?_; refine Wo rfl (opv_assign (v := .int _ _) rfl) ?_; refine Wo rfl (opv_assign (v := .bool _) rfl) ?_; refine Wo_nil ?_; refine W_ret ?_
          exact ⟨rfl, ((E1.trans E2).trans E3)⟩; contradiction
      | false =>
        have k3 := hhf _ rfl
        have hlt := (hld_spec hs).2.2
        have e : heldV p a b = ((hld p a.toNat b.toNat : Int), true) := if_pos ⟨ha, hb, hs⟩
        rw [e]
        refine fn_of_W2 Try.func48 rfl Try.results48 Try.ntmps48 rfl ?_
        focus
          refine W_seq ?_; refine W_region rfl ?_; refine Wo rfl (opv_assign (v := .int _ _) rfl) ?_; refine Wo rfl (opv_assign (v := .bool _) rfl) ?_; refine Wo_nil ?_; refine W_seq ?_; refine W_seq ?_; refine W_region rfl ?_
          refine Wo rfl (opv_move (v := v) rfl) ?_; refine Wo rfl (opv_move (v := .int _ _) rfl) ?_; refine Wo_call rfl (opc2 (a := v) (b := .int _ _) Try.call59 rfl rfl) (k1 _ _ (h)) ?_; rintro _ w1 ⟨rfl, E1⟩; have hs1 := E1.size
          refine Wo rfl (opv_not rfl) ?_; refine Wo_split rfl (opv_move (v := .bool _) rfl) (fun h1 => ?_) (fun h1 => ?_); contradiction; refine Wo rfl (opv_move (v := v) rfl) ?_; refine Wo rfl (opv_move (v := .int _ _) rfl) ?_
          refine Wo_call rfl (opc2 (a := v) (b := .int _ _) Try.call59 rfl rfl) (k2 _ _ ((Mono.mono E1 h))) ?_; rintro _ w2 ⟨rfl, E2⟩; have hs2 := E2.size; refine Wo rfl (opv_not rfl) ?_; refine Wo rfl (opv_pick_f (v := .bool _) rfl rfl) ?_
          refine Wo_nil ?_; refine W_cond rfl (fun h2 => ?_) (fun h2 => ?_); contradiction; refine W_skip ?_; refine W_seq ?_; refine W_region rfl ?_; refine Wo rfl (opv_move (v := v) rfl) ?_; refine Wo rfl (opv_move (v := .int _ _) rfl) ?_
          refine Wo rfl (opv_move (v := .int _ _) rfl) ?_; refine Wo_call rfl (opc3 (a := v) (b := .int _ _) (c := .int _ _) Try.call67 rfl rfl rfl) (k3 _ _ ((Mono.mono (E1.trans E2) h))) ?_; rintro _ w3 ⟨rfl, E3⟩; have hs3 := E3.size
          refine Wo rfl (opv_assign (v := .int _ _) rfl) ?_; refine Wo_nil ?_; refine W_seq ?_; refine W_seq ?_; refine W_region rfl ?_; refine Wo rfl (opv_move (v := .int _ _) rfl) ?_; refine Wo rfl (opv_eql rfl rfl) ?_; refine Wo_nil ?_
          refine W_cond_dec rfl (fun h3 => ?_) (fun h3 => ?_); (exfalso; omega); refine W_skip ?_; refine W_seq ?_; refine W_region rfl ?_; refine Wo rfl (opv_move (v := .int _ _) rfl) ?_; refine Wo rfl (opv_assign (v := .int _ _) rfl) ?_
          refine Wo rfl (opv_assign (v := .bool _) rfl) ?_; refine Wo_nil ?_; refine W_ret ?_; exact ⟨rfl, ((E1.trans E2).trans E3)⟩
    · have k2 := hnn b false (decide_eq_false hb)
      have e : heldV p a b = (-1, false) := if_neg (fun h => hb h.2.1)
      rw [e]
      clear hnn
      refine fn_of_W2 Try.func48 rfl Try.results48 Try.ntmps48 rfl ?_
      focus
        refine W_seq ?_; refine W_region rfl ?_; refine Wo rfl (opv_assign (v := .int _ _) rfl) ?_; refine Wo rfl (opv_assign (v := .bool _) rfl) ?_; refine Wo_nil ?_; refine W_seq ?_; refine W_seq ?_; refine W_region rfl ?_
        refine Wo rfl (opv_move (v := v) rfl) ?_; refine Wo rfl (opv_move (v := .int _ _) rfl) ?_; refine Wo_call rfl (opc2 (a := v) (b := .int _ _) Try.call59 rfl rfl) (k1 _ _ (h)) ?_; rintro _ w1 ⟨rfl, E1⟩; have hs1 := E1.size
        refine Wo rfl (opv_not rfl) ?_; refine Wo_split rfl (opv_move (v := .bool _) rfl) (fun h1 => ?_) (fun h1 => ?_); contradiction; refine Wo rfl (opv_move (v := v) rfl) ?_; refine Wo rfl (opv_move (v := .int _ _) rfl) ?_
        refine Wo_call rfl (opc2 (a := v) (b := .int _ _) Try.call59 rfl rfl) (k2 _ _ ((Mono.mono E1 h))) ?_; rintro _ w2 ⟨rfl, E2⟩; have hs2 := E2.size; refine Wo rfl (opv_not rfl) ?_; refine Wo rfl (opv_pick_f (v := .bool _) rfl rfl) ?_
        refine Wo_nil ?_; refine W_cond rfl (fun h2 => ?_) (fun h2 => ?_); refine W_seq ?_; refine W_region rfl ?_; refine Wo rfl (opv_assign (v := .int _ _) rfl) ?_; refine Wo rfl (opv_assign (v := .bool _) rfl) ?_; refine Wo_nil ?_
        refine W_ret ?_; exact ⟨rfl, (E1.trans E2)⟩; contradiction
  · have k1 := hnn a false (decide_eq_false ha)
    have e : heldV p a b = (-1, false) := if_neg (fun h => ha h.1)
    rw [e]
    clear hnn
    refine fn_of_W2 Try.func48 rfl Try.results48 Try.ntmps48 rfl ?_
    focus
      refine W_seq ?_; refine W_region rfl ?_; refine Wo rfl (opv_assign (v := .int _ _) rfl) ?_; refine Wo rfl (opv_assign (v := .bool _) rfl) ?_; refine Wo_nil ?_; refine W_seq ?_; refine W_seq ?_; refine W_region rfl ?_
      refine Wo rfl (opv_move (v := v) rfl) ?_; refine Wo rfl (opv_move (v := .int _ _) rfl) ?_; refine Wo_call rfl (opc2 (a := v) (b := .int _ _) Try.call59 rfl rfl) (k1 _ _ (h)) ?_; rintro _ w1 ⟨rfl, E1⟩; have hs1 := E1.size
      refine Wo rfl (opv_not rfl) ?_; refine Wo_split rfl (opv_move (v := .bool _) rfl) (fun h1 => ?_) (fun h1 => ?_); refine Wo_skip rfl ?_; refine Wo_skip rfl ?_; refine Wo_skip rfl ?_; refine Wo_skip rfl ?_
      refine Wo rfl (opv_pick_t (v := .bool _) rfl rfl) ?_; refine Wo_nil ?_; refine W_cond_true rfl ?_; refine W_seq ?_; refine W_region rfl ?_; refine Wo rfl (opv_assign (v := .int _ _) rfl) ?_
      refine Wo rfl (opv_assign (v := .bool _) rfl) ?_; refine Wo_nil ?_; refine W_ret ?_; exact ⟨rfl, E1⟩; contradiction

theorem spec_HeldFor_ok (w : World) (v : Value) (p : List (List Int)) (h : ESl Ints w v p) (a b : Int) : Does Try.prog 65 [v, .int .i64 a, .int .i64 b] w (Ret w (.tuple #[.int .i64 (heldV p a b).1, .bool (heldV p a b).2])) := by
  have hle := h.le
  have hnn : ∀ (z : Int) (x : Bool), decide (Nod p z) = x → ∀ (w : World) (pv : Value), ESl Ints w pv p → Does Try.prog 30 [pv, .int .i64 z] w (Ret w (.bool x)) := fun z x e w pv h => by
    subst e; exact NodeOk_ok w pv p h z
  by_cases ha : Nod p a
  · have k1 := hnn a true (decide_eq_true ha)
    by_cases hb : Nod p b
    · have k2 := hnn b true (decide_eq_true hb)
      have hp := ha.1
      have hp5 := hp.2.1
      have ha' := ha.2
      have hb' := hb.2
      have hsm : ∀ (x : Bool), bsm p p.length a.toNat b.toNat = x → ∀ (w : World) (pv : Value), ESl Ints w pv p → Does Try.prog 84 [pv, .int .i64 a, .int .i64 b] w (Ret w (.bool x)) := fun x e w pv h => by
        subst e
        have := spec_SameAt_ok w pv p h a b
        rw [show smV p a b = bsm p p.length a.toNat b.toNat by unfold smV; rw [decide_eq_true ha, decide_eq_true hb]; rfl] at this
        exact this
      clear hnn
      cases hs : bsm p p.length a.toNat b.toNat with
      | true =>
        have k3 := hsm _ hs
        have e : heldV p a b = (-1, false) := if_neg (by rintro ⟨_, _, h⟩; rw [hs] at h; cases h)
        rw [e]
        refine fn_of_W2 Try.func65 rfl Try.results65 Try.ntmps65 rfl ?_
        focus
          refine W_seq ?_; refine W_region rfl ?_; refine Wo rfl (opv_assign (v := .int _ _) rfl) ?_; refine Wo rfl (opv_assign (v := .bool _) rfl) ?_; refine Wo_nil ?_; refine W_seq ?_; refine W_seq ?_; refine W_region rfl ?_
          refine Wo rfl (opv_move (v := v) rfl) ?_; refine Wo rfl (opv_move (v := .int _ _) rfl) ?_; refine Wo_call rfl (opc2 (a := v) (b := .int _ _) Try.call30 rfl rfl) (k1 _ _ (h)) ?_; rintro _ w1 ⟨rfl, E1⟩; have hs1 := E1.size
          refine Wo rfl (opv_not rfl) ?_; refine Wo_split rfl (opv_move (v := .bool _) rfl) (fun h1 => ?_) (fun h1 => ?_); contradiction; refine Wo rfl (opv_move (v := v) rfl) ?_; refine Wo rfl (opv_move (v := .int _ _) rfl) ?_
          refine Wo_call rfl (opc2 (a := v) (b := .int _ _) Try.call30 rfl rfl) (k2 _ _ ((Mono.mono E1 h))) ?_; rintro _ w2 ⟨rfl, E2⟩; have hs2 := E2.size; refine Wo rfl (opv_not rfl) ?_; refine Wo rfl (opv_pick_f (v := .bool _) rfl rfl) ?_
          refine Wo_split rfl (opv_move (v := .bool _) rfl) (fun h2 => ?_) (fun h2 => ?_); contradiction; refine Wo rfl (opv_move (v := v) rfl) ?_; refine Wo rfl (opv_move (v := .int _ _) rfl) ?_
          refine Wo rfl (opv_move (v := .int _ _) rfl) ?_; refine Wo_call rfl (opc3 (a := v) (b := .int _ _) (c := .int _ _) Try.call84 rfl rfl rfl) (k3 _ _ ((Mono.mono (E1.trans E2) h))) ?_; rintro _ w3 ⟨rfl, E3⟩; have hs3 := E3.size
          refine Wo rfl (opv_pick_f (v := .bool _) rfl rfl) ?_; refine Wo_nil ?_; refine W_cond_true rfl ?_; refine W_seq ?_; refine W_region rfl ?_; refine Wo rfl (opv_assign (v := .int _ _) rfl) ?_
          refine Wo rfl (opv_assign (v := .bool _) rfl) ?_; refine Wo_nil ?_; refine W_ret ?_; exact ⟨rfl, ((E1.trans E2).trans E3)⟩
      | false =>
        have k3 := hsm _ hs
        have e : heldV p a b = ((hld p a.toNat b.toNat : Int), true) := if_pos ⟨ha, hb, hs⟩
        rw [e]
        refine fn_of_W2 Try.func65 rfl Try.results65 Try.ntmps65 rfl ?_
        focus
          refine W_seq ?_; refine W_region rfl ?_; refine Wo rfl (opv_assign (v := .int _ _) rfl) ?_; refine Wo rfl (opv_assign (v := .bool _) rfl) ?_; refine Wo_nil ?_; refine W_seq ?_; refine W_seq ?_; refine W_region rfl ?_
          refine Wo rfl (opv_move (v := v) rfl) ?_; refine Wo rfl (opv_move (v := .int _ _) rfl) ?_; refine Wo_call rfl (opc2 (a := v) (b := .int _ _) Try.call30 rfl rfl) (k1 _ _ (h)) ?_; rintro _ w1 ⟨rfl, E1⟩; have hs1 := E1.size
          refine Wo rfl (opv_not rfl) ?_; refine Wo_split rfl (opv_move (v := .bool _) rfl) (fun h1 => ?_) (fun h1 => ?_); contradiction; refine Wo rfl (opv_move (v := v) rfl) ?_; refine Wo rfl (opv_move (v := .int _ _) rfl) ?_
          refine Wo_call rfl (opc2 (a := v) (b := .int _ _) Try.call30 rfl rfl) (k2 _ _ ((Mono.mono E1 h))) ?_; rintro _ w2 ⟨rfl, E2⟩; have hs2 := E2.size; refine Wo rfl (opv_not rfl) ?_; refine Wo rfl (opv_pick_f (v := .bool _) rfl rfl) ?_
          refine Wo_split rfl (opv_move (v := .bool _) rfl) (fun h2 => ?_) (fun h2 => ?_); contradiction; refine Wo rfl (opv_move (v := v) rfl) ?_; refine Wo rfl (opv_move (v := .int _ _) rfl) ?_
          refine Wo rfl (opv_move (v := .int _ _) rfl) ?_; refine Wo_call rfl (opc3 (a := v) (b := .int _ _) (c := .int _ _) Try.call84 rfl rfl rfl) (k3 _ _ ((Mono.mono (E1.trans E2) h))) ?_; rintro _ w3 ⟨rfl, E3⟩; have hs3 := E3.size
          refine Wo rfl (opv_pick_f (v := .bool _) rfl rfl) ?_; refine Wo_nil ?_; refine W_cond_false rfl ?_; refine W_skip ?_; refine W_seq ?_; refine W_region rfl ?_; refine Wo rfl (opv_assign (v := .int _ _) rfl) ?_; refine Wo_nil ?_
          refine W_seq ?_; refine W_block ?_
        clear hsm
        refine W_loop [8, 25, 26, 27, 28, 29, 30, 31, 32, 33, 34, 35, 36, 37] (fun (k : Nat) => [(8, .int .i64 (k : Nat))]) (fun k w' => Ext w w' ∧ k < p.length ∧ bsm p k a.toNat b.toNat = true) (fun x => p.length - x) 0 (by repeat (first | exact trivial | refine And.intro rfl ?_)) ?_ ?_
        · exact ⟨by first | assumption | exact (E1.trans (E2.trans E3)), by omega, rfl⟩
        rintro k ρj w9 ⟨E9, hk, hbk⟩
        have hml := matV_len (p := p) (bsm p (k + 1))
        have hmr := matV_rlen (p := p) (S := bsm p (k + 1)) (a := a.toNat) (by omega)
        have hla : ∀ (w : World) (pv : Value), ESl Ints w pv p → Does Try.prog 43 [pv, .int .i64 ((k : Int) + 1)] w (RetO w XR (matV p (bsm p (k + 1)))) := fun w pv h => by
          have := LeftAfter_ok w pv p h ((k : Int) + 1)
          rw [show leftV p ((k : Int) + 1) = matV p (bsm p (k + 1)) from if_pos ⟨hp, by omega, by omega⟩] at this
          exact this
        cases hn : bsm p (k + 1) a.toNat b.toNat with
        | true =>
          have hme := matV_one (p := p) (S := bsm p (k + 1)) (a := a.toNat) (b := b.toNat) (by omega) (by omega) hn
          have hme' : ((matV p (bsm p (k + 1)))[a.toNat]'(by omega))[b.toNat]'(by omega) = 1 := hme
          clear hme
          have hkk : k + 1 < p.length := by
            rcases Nat.lt_or_ge (k + 1) p.length with h | h
            · exact h
            · rw [bsm_mono h hn] at hs; cases hs
          focus
            have szE9 := E9.size; have szE3 := E3.size; have szE2 := E2.size; have szE1 := E1.size; refine W_seq ?_; refine W_seq ?_; refine W_region rfl ?_; refine Wo rfl (opv_move (v := v) rfl) ?_
            refine Wo rfl (opv_move (v := .int _ _) rfl) ?_; refine Wo rfl (opv_add rfl rfl (by omega)) ?_; refine Wo_call rfl (opc2 (a := v) (b := .int _ _) Try.call43 rfl rfl) (hla _ _ ((Mono.mono E9 h))) ?_; rintro u1 w4 ⟨E4, hO1⟩
            have hs4 := E4.size; refine Wo rfl (opv_move (v := .int _ _) rfl) ?_; refine Wo_get_z Try.underlying30 Try.sizeOf38 Try.isAgg38 rfl (fun _ => rfl) rfl (Owned.read hO1) (Ext.refl _) rfl (by first | omega | (simp <;> omega)) ?_
            rintro _ u2 hu1; refine Wo rfl (opv_move (v := .int _ _) rfl) ?_; refine Wo_get_z Try.underlying38 Try.sizeOf3 Try.isAgg3 rfl (fun _ => rfl) rfl hu1 (Ext.refl _) rfl (by first | omega | (simp <;> omega)) ?_; rintro _ _ rfl
            refine Wo rfl (opv_eql rfl rfl) ?_; refine Wo_nil ?_; refine W_cond_dec rfl (fun h3 => ?_) (fun h3 => ?_); refine W_skip ?_; refine W_block ?_; refine W_region rfl ?_; refine Wo rfl (opv_move (v := .int _ _) rfl) ?_
            refine Wo rfl (opv_add rfl rfl (by omega)) ?_; refine Wo rfl (opv_assign (v := .int _ _) rfl) ?_; refine Wo_nil ?_; rotate_left; contradiction
          refine ⟨(k + 1), by repeat (first | exact trivial | refine And.intro rfl ?_), by repeat (first | with_reducible exact Same.refl | refine Same.upd rfl ?_ | refine Same.upds rfl ?_ | refine Same.mix rfl ?_), ?_, ?_⟩
          · exact ⟨by first | assumption | exact E9.trans E4, hkk, hn⟩
          · omega
        | false =>
          have hme := matV_one (p := p) (S := bsm p (k + 1)) (a := a.toNat) (b := b.toNat) (by omega) (by omega) hn
          have hme' : ((matV p (bsm p (k + 1)))[a.toNat]'(by omega))[b.toNat]'(by omega) = 0 := hme
          clear hme
          have hh := hld_eq hbk hn
          simp only [hh]
          focus
            have szE9 := E9.size; have szE3 := E3.size; have szE2 := E2.size; have szE1 := E1.size; refine W_seq ?_; refine W_seq ?_; refine W_region rfl ?_; refine Wo rfl (opv_move (v := v) rfl) ?_
            refine Wo rfl (opv_move (v := .int _ _) rfl) ?_; refine Wo rfl (opv_add rfl rfl (by omega)) ?_; refine Wo_call rfl (opc2 (a := v) (b := .int _ _) Try.call43 rfl rfl) (hla _ _ ((Mono.mono E9 h))) ?_; rintro u1 w4 ⟨E4, hO1⟩
            have hs4 := E4.size; refine Wo rfl (opv_move (v := .int _ _) rfl) ?_; refine Wo_get_z Try.underlying30 Try.sizeOf38 Try.isAgg38 rfl (fun _ => rfl) rfl (Owned.read hO1) (Ext.refl _) rfl (by first | omega | (simp <;> omega)) ?_
            rintro _ u2 hu1; refine Wo rfl (opv_move (v := .int _ _) rfl) ?_; refine Wo_get_z Try.underlying38 Try.sizeOf3 Try.isAgg3 rfl (fun _ => rfl) rfl hu1 (Ext.refl _) rfl (by first | omega | (simp <;> omega)) ?_; rintro _ _ rfl
            refine Wo rfl (opv_eql rfl rfl) ?_; refine Wo_nil ?_; refine W_cond_dec rfl (fun h3 => ?_) (fun h3 => ?_); (exfalso; omega); refine W_exit ?_; refine exitX_same ?_; refine W_seq ?_; refine W_region rfl ?_
            refine Wo rfl (opv_move (v := .int _ _) rfl) ?_; refine Wo rfl (opv_assign (v := .int _ _) rfl) ?_; refine Wo rfl (opv_assign (v := .bool _) rfl) ?_; refine Wo_nil ?_; refine W_ret ?_; exact ⟨rfl, (E9.trans E4)⟩
    · have k2 := hnn b false (decide_eq_false hb)
      have e : heldV p a b = (-1, false) := if_neg (fun h => hb h.2.1)
      rw [e]
      clear hnn
      refine fn_of_W2 Try.func65 rfl Try.results65 Try.ntmps65 rfl ?_
      focus
        refine W_seq ?_; refine W_region rfl ?_; refine Wo rfl (opv_assign (v := .int _ _) rfl) ?_; refine Wo rfl (opv_assign (v := .bool _) rfl) ?_; refine Wo_nil ?_; refine W_seq ?_; refine W_seq ?_; refine W_region rfl ?_
        refine Wo rfl (opv_move (v := v) rfl) ?_; refine Wo rfl (opv_move (v := .int _ _) rfl) ?_; refine Wo_call rfl (opc2 (a := v) (b := .int _ _) Try.call30 rfl rfl) (k1 _ _ (h)) ?_; rintro _ w1 ⟨rfl, E1⟩; have hs1 := E1.size
        refine Wo rfl (opv_not rfl) ?_; refine Wo_split rfl (opv_move (v := .bool _) rfl) (fun h1 => ?_) (fun h1 => ?_); contradiction; refine Wo rfl (opv_move (v := v) rfl) ?_; refine Wo rfl (opv_move (v := .int _ _) rfl) ?_
        refine Wo_call rfl (opc2 (a := v) (b := .int _ _) Try.call30 rfl rfl) (k2 _ _ ((Mono.mono E1 h))) ?_; rintro _ w2 ⟨rfl, E2⟩; have hs2 := E2.size; refine Wo rfl (opv_not rfl) ?_; refine Wo rfl (opv_pick_f (v := .bool _) rfl rfl) ?_
        refine Wo_split rfl (opv_move (v := .bool _) rfl) (fun h2 => ?_) (fun h2 => ?_); refine Wo_skip rfl ?_; refine Wo_skip rfl ?_; refine Wo_skip rfl ?_; refine Wo_skip rfl ?_; refine Wo rfl (opv_pick_t (v := .bool _) rfl rfl) ?_
        refine Wo_nil ?_; refine W_cond_true rfl ?_; refine W_seq ?_; refine W_region rfl ?_; refine Wo rfl (opv_assign (v := .int _ _) rfl) ?_; refine Wo rfl (opv_assign (v := .bool _) rfl) ?_; refine Wo_nil ?_; refine W_ret ?_
        exact ⟨rfl, (E1.trans E2)⟩; contradiction
  · have k1 := hnn a false (decide_eq_false ha)
    have e : heldV p a b = (-1, false) := if_neg (fun h => ha h.1)
    rw [e]
    clear hnn
    refine fn_of_W2 Try.func65 rfl Try.results65 Try.ntmps65 rfl ?_
    focus
      refine W_seq ?_; refine W_region rfl ?_; refine Wo rfl (opv_assign (v := .int _ _) rfl) ?_; refine Wo rfl (opv_assign (v := .bool _) rfl) ?_; refine Wo_nil ?_; refine W_seq ?_; refine W_seq ?_; refine W_region rfl ?_
      refine Wo rfl (opv_move (v := v) rfl) ?_; refine Wo rfl (opv_move (v := .int _ _) rfl) ?_; refine Wo_call rfl (opc2 (a := v) (b := .int _ _) Try.call30 rfl rfl) (k1 _ _ (h)) ?_; rintro _ w1 ⟨rfl, E1⟩; have hs1 := E1.size
      refine Wo rfl (opv_not rfl) ?_; refine Wo_split rfl (opv_move (v := .bool _) rfl) (fun h1 => ?_) (fun h1 => ?_); refine Wo_skip rfl ?_; refine Wo_skip rfl ?_; refine Wo_skip rfl ?_; refine Wo_skip rfl ?_
      refine Wo rfl (opv_pick_t (v := .bool _) rfl rfl) ?_; refine Wo rfl (opv_move (v := .bool _) rfl) ?_; refine Wo_skip rfl ?_; refine Wo_skip rfl ?_; refine Wo_skip rfl ?_; refine Wo_skip rfl ?_
      refine Wo rfl (opv_pick_t (v := .bool _) rfl rfl) ?_; refine Wo_nil ?_; refine W_cond_true rfl ?_; refine W_seq ?_; refine W_region rfl ?_; refine Wo rfl (opv_assign (v := .int _ _) rfl) ?_
      refine Wo rfl (opv_assign (v := .bool _) rfl) ?_; refine Wo_nil ?_; refine W_ret ?_; exact ⟨rfl, E1⟩; contradiction

end Go.Proofs.Ytjdfnngmbaojjaa
