/- Walks: what is left after some rounds, and who is the same: the reference. -/
import Derived.Test.YtjdfnngmbaojjaaHsWBis
namespace Go.Proofs.Ytjdfnngmbaojjaa
open Go.Hs
set_option maxRecDepth 10000
set_option maxHeartbeats 4000000
set_option linter.unusedVariables false
set_option linter.unusedSimpArgs false

theorem LeftAfter_ok (w : World) (v : Value) (p : List (List Int)) (h : ESl Ints w v p) (z : Int) : Does Try.prog 43 [v, .int .i64 z] w (RetO w XR (leftV p z)) := by
  have hle := h.le
  by_cases hp : Pic p
  · have hpic : ∀ (w : World) (pv : Value), ESl Ints w pv p → Does Try.prog 39 [pv] w (Ret w (.bool true)) := fun w pv h => by
      have := PictureOk_ok w pv p h
      rw [decide_eq_true hp] at this; exact this
    have hp5 := hp.2.1
    by_cases hz : 0 ≤ z ∧ z ≤ 30
    · have hV : leftV p z = matV p (bsm p z.toNat) := if_pos ⟨hp, hz⟩
      rw [hV]
      have hst : ∀ w, Does Try.prog 69 [.int .i64 (p.length : Int)] w (RetO w XR (matV p (bsm p 0))) := fun w => by
        have := l3Start_ok w p.length hp5
        rw [matV_zero] at this; exact this
      refine fn_of_W1 Try.func43 rfl Try.results43 Try.ntmps43 rfl ?_
      focus
        refine W_seq ?_; refine W_region rfl ?_; refine Wo rfl (opv_assign (v := .slice _ _ _) rfl) ?_; refine Wo_nil ?_; refine W_seq ?_; refine W_seq ?_; refine W_region rfl ?_; refine Wo rfl (opv_move (v := v) rfl) ?_
        refine Wo_call rfl (opc1 (a := v) Try.call39 rfl) (hpic _ _ (h)) ?_; rintro _ w1 ⟨rfl, E1⟩; have hs1 := E1.size; refine Wo rfl (opv_not rfl) ?_; refine Wo_split rfl (opv_move (v := .bool _) rfl) (fun h1 => ?_) (fun h1 => ?_)
        contradiction; refine Wo rfl (opv_move (v := .int _ _) rfl) ?_; refine Wo_call rfl (opc3 (a := .int _ _) (b := .int _ _) (c := .int _ _) Try.call62 rfl rfl rfl) (l1In_ok _ _ _ _) ?_; rintro _ w2 ⟨rfl, E2⟩; have hs2 := E2.size
        refine Wo rfl (opv_not rfl) ?_; refine Wo rfl (opv_pick_f (v := .bool _) rfl rfl) ?_; refine Wo_nil ?_; refine W_cond_ndec rfl (fun h2 => ?_) (fun h2 => ?_); contradiction; refine W_skip ?_; refine W_seq ?_; refine W_region rfl ?_
        refine Wo rfl (opv_move (v := v) rfl) ?_; refine Wo rfl (opv_len Try.underlying30 rfl h) ?_; refine Wo_call rfl (opc1 (a := .int _ _) Try.call69 rfl) (hst _) ?_; rintro u1 w3 ⟨E3, hO1⟩; have hs3 := E3.size
        refine Wo rfl (opv_assign (v := u1) rfl) ?_; refine Wo_nil ?_; refine W_seq ?_; refine W_seq ?_; refine W_region rfl ?_; refine Wo rfl (opv_assign (v := .int _ _) rfl) ?_; refine Wo_nil ?_; refine W_block ?_
      refine W_loop [5, 6, 19, 20, 21, 22, 23, 24, 25, 26] (fun (m, u) => [(6, .int .i64 (m : Nat)), (5, u)]) (fun (m, u) w' => Ext w w' ∧ m ≤ z.toNat ∧ Owned w.heap.size XR w' u (matV p (bsm p m))) (fun x => z.toNat - x.1) (0, u1) (by repeat (first | exact trivial | refine And.intro rfl ?_)) ?_ ?_
      · exact ⟨(E1.trans E2).trans E3, Nat.zero_le _, hO1.mono (by omega)⟩
      rintro ⟨m, u⟩ ρj w9 ⟨E9, hm, hO9⟩
      by_cases hmz : m < z.toNat
      · have hrn : ∀ (w : World) (v v' : Value), ESl Ints w v p → ESl Ints w v' (matV p (bsm p m)) → Does Try.prog 70 [v, v'] w (RetO w XR (matV p (bsm p (m + 1)))) := fun w v v' h1 h2 => l3Round_ok w v v' p h1 hp (bsm p m) h2
        focus
          have szE9 := E9.size; have szE3 := E3.size; have szE2 := E2.size; have szE1 := E1.size; refine W_seq ?_; refine W_seq ?_; refine W_region rfl ?_; refine Wo rfl (opv_move (v := .int _ _) rfl) ?_
          refine Wo rfl (opv_move (v := .int _ _) rfl) ?_; refine Wo rfl (opv_lss rfl rfl) ?_; refine Wo_nil ?_; refine W_cond_dec rfl (fun h3 => ?_) (fun h3 => ?_); refine W_skip ?_; refine W_seq ?_; refine W_block ?_; refine W_region rfl ?_
          refine Wo rfl (opv_move (v := v) rfl) ?_; refine Wo rfl (opv_move (v := u) rfl) ?_; refine Wo_call rfl (opc2 (a := v) (b := u) Try.call70 rfl rfl) (hrn _ _ _ ((Mono.mono E9 h)) ((Owned.read hO9))) ?_; rintro u2 w4 ⟨E4, hO2⟩
          have hs4 := E4.size; refine Wo rfl (opv_assign (v := u2) rfl) ?_; refine Wo_nil ?_; refine W_region rfl ?_; refine Wo rfl (opv_move (v := .int _ _) rfl) ?_; refine Wo rfl (opv_add rfl rfl (by omega)) ?_
          refine Wo rfl (opv_assign (v := .int _ _) rfl) ?_; refine Wo_nil ?_; rotate_left; (exfalso; omega)
        refine ⟨((m + 1, u2)), by repeat (first | exact trivial | refine And.intro rfl ?_), by repeat (first | with_reducible exact Same.refl | refine Same.upd rfl ?_ | refine Same.upds rfl ?_ | refine Same.mix rfl ?_), ?_, ?_⟩
        · exact ⟨E9.trans E4, by omega, hO2.mono (by omega)⟩
        · simp only; omega
      · obtain rfl : m = z.toNat := by omega
        focus
          have szE9 := E9.size; have szE3 := E3.size; have szE2 := E2.size; have szE1 := E1.size; refine W_seq ?_; refine W_seq ?_; refine W_region rfl ?_; refine Wo rfl (opv_move (v := .int _ _) rfl) ?_
          refine Wo rfl (opv_move (v := .int _ _) rfl) ?_; refine Wo rfl (opv_lss rfl rfl) ?_; refine Wo_nil ?_; refine W_cond_dec rfl (fun h3 => ?_) (fun h3 => ?_); (exfalso; omega); refine W_exit ?_; refine exitX_same ?_; refine W_seq ?_
          refine W_region rfl ?_; refine Wo rfl (opv_move (v := u) rfl) ?_; refine Wo rfl (opv_assign (v := u) rfl) ?_; refine Wo_nil ?_; refine W_ret ?_; exact ⟨E9, hO9.toB.o.mono (by omega)⟩
    · have hV : leftV p z = [] := if_neg (fun h => hz h.2)
      rw [hV]
      refine fn_of_W1 Try.func43 rfl Try.results43 Try.ntmps43 rfl ?_
      focus
        refine W_seq ?_; refine W_region rfl ?_; refine Wo rfl (opv_assign (v := .slice _ _ _) rfl) ?_; refine Wo_nil ?_; refine W_seq ?_; refine W_seq ?_; refine W_region rfl ?_; refine Wo rfl (opv_move (v := v) rfl) ?_
        refine Wo_call rfl (opc1 (a := v) Try.call39 rfl) (hpic _ _ (h)) ?_; rintro _ w1 ⟨rfl, E1⟩; have hs1 := E1.size; refine Wo rfl (opv_not rfl) ?_; refine Wo_split rfl (opv_move (v := .bool _) rfl) (fun h1 => ?_) (fun h1 => ?_)
        contradiction; refine Wo rfl (opv_move (v := .int _ _) rfl) ?_; refine Wo_call rfl (opc3 (a := .int _ _) (b := .int _ _) (c := .int _ _) Try.call62 rfl rfl rfl) (l1In_ok _ _ _ _) ?_; rintro _ w2 ⟨rfl, E2⟩; have hs2 := E2.size
        refine Wo rfl (opv_not rfl) ?_; refine Wo rfl (opv_pick_f (v := .bool _) rfl rfl) ?_; refine Wo_nil ?_; refine W_cond_ndec rfl (fun h2 => ?_) (fun h2 => ?_); refine W_seq ?_; refine W_region rfl ?_
        refine Wo_lit0 (XSl 3 XInt) rfl el30 Try.sizeOf38 ?_; rintro b1 w3 hb1 b1lt E3 hO1; have hs3 := E3.size; refine Wo rfl (opv_assign (v := .slice _ _ _) rfl) ?_; refine Wo_nil ?_; refine W_ret ?_
        exact ⟨((E1.trans E2).trans E3), hO1.toB.o.mono (by omega)⟩; contradiction
  · have hpic : ∀ (w : World) (pv : Value), ESl Ints w pv p → Does Try.prog 39 [pv] w (Ret w (.bool false)) := fun w pv h => by
      have := PictureOk_ok w pv p h
      rw [decide_eq_false hp] at this; exact this
    have hV : leftV p z = [] := if_neg (fun h => hp h.1)
    rw [hV]
    refine fn_of_W1 Try.func43 rfl Try.results43 Try.ntmps43 rfl ?_
    focus
      refine W_seq ?_; refine W_region rfl ?_; refine Wo rfl (opv_assign (v := .slice _ _ _) rfl) ?_; refine Wo_nil ?_; refine W_seq ?_; refine W_seq ?_; refine W_region rfl ?_; refine Wo rfl (opv_move (v := v) rfl) ?_
      refine Wo_call rfl (opc1 (a := v) Try.call39 rfl) (hpic _ _ (h)) ?_; rintro _ w1 ⟨rfl, E1⟩; have hs1 := E1.size; refine Wo rfl (opv_not rfl) ?_; refine Wo_split rfl (opv_move (v := .bool _) rfl) (fun h1 => ?_) (fun h1 => ?_)
      refine Wo_skip rfl ?_; refine Wo_skip rfl ?_; refine Wo_skip rfl ?_; refine Wo rfl (opv_pick_t (v := .bool _) rfl rfl) ?_; refine Wo_nil ?_; refine W_cond_true rfl ?_; refine W_seq ?_; refine W_region rfl ?_
      refine Wo_lit0 (XSl 3 XInt) rfl el30 Try.sizeOf38 ?_; rintro b1 w2 hb1 b1lt E2 hO1; have hs2 := E2.size; refine Wo rfl (opv_assign (v := .slice _ _ _) rfl) ?_; refine Wo_nil ?_; refine W_ret ?_
      exact ⟨(E1.trans E2), hO1.toB.o.mono (by omega)⟩; contradiction

theorem SameRows_ok (w : World) (v : Value) (p : List (List Int)) (h : ESl Ints w v p) : Does Try.prog 90 [v] w (RetO w XR (leftV p p.length)) := by
  have hle := h.le
  refine fn_of_W1 Try.func90 rfl Try.results90 Try.ntmps90 rfl ?_
  focus
    refine W_seq ?_; refine W_region rfl ?_; refine Wo rfl (opv_assign (v := .slice _ _ _) rfl) ?_; refine Wo_nil ?_; refine W_seq ?_; refine W_region rfl ?_; refine Wo rfl (opv_move (v := v) rfl) ?_
    refine Wo rfl (opv_move (v := v) rfl) ?_; refine Wo rfl (opv_len Try.underlying30 rfl h) ?_; refine Wo_call rfl (opc2 (a := v) (b := .int _ _) Try.call43 rfl rfl) (LeftAfter_ok _ _ _ (h) _) ?_; rintro u1 w1 ⟨E1, hO1⟩
    have hs1 := E1.size; refine Wo rfl (opv_assign (v := u1) rfl) ?_; refine Wo_nil ?_; refine W_ret ?_; exact ⟨E1, hO1.toB.o.mono (by omega)⟩

def smV (p : List (List Int)) (a b : Int) : Bool := decide (Nod p a) && decide (Nod p b) && bsm p p.length a.toNat b.toNat
theorem spec_SameAt_ok (w : World) (v : Value) (p : List (List Int)) (h : ESl Ints w v p) (a b : Int) : Does Try.prog 84 [v, .int .i64 a, .int .i64 b] w (Ret w (.bool (smV p a b))) := by
  have hle := h.le
  by_cases hp : Pic p
  · have hp5 := hp.2.1
    have hV : leftV p p.length = matV p (bsm p p.length) := if_pos ⟨hp, by omega, by omega⟩
    have hsr : ∀ (w : World) (pv : Value), ESl Ints w pv p → Does Try.prog 90 [pv] w (RetO w XR (matV p (bsm p p.length))) := fun w pv h => by
      have := SameRows_ok w pv p h
      rw [hV] at this; exact this
    have hml := matV_len (p := p) (bsm p p.length)
    have hN : ∀ x, Nod p x ↔ 0 ≤ x ∧ x < p.length := fun x => ⟨fun h => h.2, fun h => ⟨hp, h⟩⟩
    by_cases ha : 0 ≤ a ∧ a < p.length
    · have hmr := matV_rlen (p := p) (S := bsm p p.length) (a := a.toNat) (by omega)
      by_cases hb : 0 ≤ b ∧ b < p.length
      · have hme := matV_at (p := p) (S := bsm p p.length) (a := a.toNat) (b := b.toNat) (by omega) (by omega)
        have e : smV p a b = bsm p p.length a.toNat b.toNat := by unfold smV; rw [decide_eq_true ((hN a).2 ha), decide_eq_true ((hN b).2 hb)]; rfl
        rw [e]
        refine fn_of_W1 Try.func84 rfl Try.results84 Try.ntmps84 rfl ?_
        focus
          refine W_seq ?_; refine W_region rfl ?_; refine Wo rfl (opv_assign (v := .bool _) rfl) ?_; refine Wo_nil ?_; refine W_seq ?_; refine W_region rfl ?_; refine Wo rfl (opv_move (v := v) rfl) ?_
          refine Wo_call rfl (opc1 (a := v) Try.call90 rfl) (hsr _ _ (h)) ?_; rintro u1 w1 ⟨E1, hO1⟩; have hs1 := E1.size; refine Wo rfl (opv_assign (v := u1) rfl) ?_; refine Wo_nil ?_; refine W_seq ?_; refine W_region rfl ?_
          refine Wo rfl (opv_move (v := u1) rfl) ?_; refine Wo rfl (opv_len Try.underlying30 rfl (Owned.read hO1)) ?_; refine Wo rfl (opv_sub rfl rfl (by omega)) ?_; refine Wo rfl (opv_assign (v := .int _ _) rfl) ?_; refine Wo_nil ?_
          refine W_seq ?_; refine W_region rfl ?_; refine Wo rfl (opv_move (v := .int _ _) rfl) ?_; refine Wo rfl (opv_move (v := .int _ _) rfl) ?_
          refine Wo_call rfl (opc3 (a := .int _ _) (b := .int _ _) (c := .int _ _) Try.call62 rfl rfl rfl) (l1In_ok _ _ _ _) ?_; rintro _ w2 ⟨rfl, E2⟩; have hs2 := E2.size
          refine Wo_split_dec rfl (opv_move (v := .bool _) rfl) (fun h1 => ?_) (fun h1 => ?_); refine Wo rfl (opv_move (v := .int _ _) rfl) ?_; refine Wo rfl (opv_move (v := .int _ _) rfl) ?_
          refine Wo_call rfl (opc3 (a := .int _ _) (b := .int _ _) (c := .int _ _) Try.call62 rfl rfl rfl) (l1In_ok _ _ _ _) ?_; rintro _ w3 ⟨rfl, E3⟩; have hs3 := E3.size; refine Wo rfl (opv_pick_t (v := .bool _) rfl rfl) ?_
          refine Wo_split_dec rfl (opv_move (v := .bool _) rfl) (fun h2 => ?_) (fun h2 => ?_); refine Wo rfl (opv_move (v := u1) rfl) ?_; refine Wo rfl (opv_move (v := .int _ _) rfl) ?_
          refine Wo_get_z Try.underlying30 Try.sizeOf38 Try.isAgg38 rfl (fun _ => rfl) rfl (Owned.read hO1) (E2.trans E3) rfl (by first | omega | (simp <;> omega)) ?_; rintro _ u2 hu1; refine Wo rfl (opv_move (v := .int _ _) rfl) ?_
          refine Wo_get_z Try.underlying38 Try.sizeOf3 Try.isAgg3 rfl (fun _ => rfl) rfl hu1 (E2.trans E3) rfl (by first | omega | (simp <;> omega)) ?_; rintro _ _ rfl; refine Wo rfl (opv_eql rfl rfl) ?_
          refine Wo rfl (opv_pick_t (v := .bool _) rfl rfl) ?_; refine Wo rfl (opv_assign (v := .bool _) rfl) ?_; refine Wo_nil ?_; refine W_ret ?_; refine at_ret (v := .bool _) rfl ?_
          refine ⟨congrArg Value.bool ?_, ((E1.trans E2).trans E3)⟩; rotate_left; (exfalso; omega); (exfalso; omega)
        rw [hme]
        cases bsm p p.length a.toNat b.toNat <;> rfl
      · have e : smV p a b = false := by unfold smV; rw [decide_eq_false (fun h => hb ((hN b).1 h)), Bool.and_false]; rfl
        rw [e]
        refine fn_of_W1 Try.func84 rfl Try.results84 Try.ntmps84 rfl ?_
        focus
          refine W_seq ?_; refine W_region rfl ?_; refine Wo rfl (opv_assign (v := .bool _) rfl) ?_; refine Wo_nil ?_; refine W_seq ?_; refine W_region rfl ?_; refine Wo rfl (opv_move (v := v) rfl) ?_
          refine Wo_call rfl (opc1 (a := v) Try.call90 rfl) (hsr _ _ (h)) ?_; rintro u1 w1 ⟨E1, hO1⟩; have hs1 := E1.size; refine Wo rfl (opv_assign (v := u1) rfl) ?_; refine Wo_nil ?_; refine W_seq ?_; refine W_region rfl ?_
          refine Wo rfl (opv_move (v := u1) rfl) ?_; refine Wo rfl (opv_len Try.underlying30 rfl (Owned.read hO1)) ?_; refine Wo rfl (opv_sub rfl rfl (by omega)) ?_; refine Wo rfl (opv_assign (v := .int _ _) rfl) ?_; refine Wo_nil ?_
          refine W_seq ?_; refine W_region rfl ?_; refine Wo rfl (opv_move (v := .int _ _) rfl) ?_; refine Wo rfl (opv_move (v := .int _ _) rfl) ?_
          refine Wo_call rfl (opc3 (a := .int _ _) (b := .int _ _) (c := .int _ _) Try.call62 rfl rfl rfl) (l1In_ok _ _ _ _) ?_; rintro _ w2 ⟨rfl, E2⟩; have hs2 := E2.size
          refine Wo_split_dec rfl (opv_move (v := .bool _) rfl) (fun h1 => ?_) (fun h1 => ?_); refine Wo rfl (opv_move (v := .int _ _) rfl) ?_; refine Wo rfl (opv_move (v := .int _ _) rfl) ?_
          refine Wo_call rfl (opc3 (a := .int _ _) (b := .int _ _) (c := .int _ _) Try.call62 rfl rfl rfl) (l1In_ok _ _ _ _) ?_; rintro _ w3 ⟨rfl, E3⟩; have hs3 := E3.size; refine Wo rfl (opv_pick_t (v := .bool _) rfl rfl) ?_
          refine Wo_split_dec rfl (opv_move (v := .bool _) rfl) (fun h2 => ?_) (fun h2 => ?_); (exfalso; omega); refine Wo_skip rfl ?_; refine Wo_skip rfl ?_; refine Wo_skip rfl ?_; refine Wo_skip rfl ?_; refine Wo_skip rfl ?_
          refine Wo_skip rfl ?_; refine Wo_skip rfl ?_; refine Wo_skip rfl ?_; refine Wo rfl (opv_pick_f (v := .bool _) rfl rfl) ?_; refine Wo rfl (opv_assign (v := .bool _) rfl) ?_; refine Wo_nil ?_; refine W_ret ?_
          exact ⟨rfl, ((E1.trans E2).trans E3)⟩; (exfalso; omega)
    · have e : smV p a b = false := by unfold smV; rw [decide_eq_false (fun h => ha ((hN a).1 h))]; rfl
      rw [e]
      refine fn_of_W1 Try.func84 rfl Try.results84 Try.ntmps84 rfl ?_
      focus
        refine W_seq ?_; refine W_region rfl ?_; refine Wo rfl (opv_assign (v := .bool _) rfl) ?_; refine Wo_nil ?_; refine W_seq ?_; refine W_region rfl ?_; refine Wo rfl (opv_move (v := v) rfl) ?_
        refine Wo_call rfl (opc1 (a := v) Try.call90 rfl) (hsr _ _ (h)) ?_; rintro u1 w1 ⟨E1, hO1⟩; have hs1 := E1.size; refine Wo rfl (opv_assign (v := u1) rfl) ?_; refine Wo_nil ?_; refine W_seq ?_; refine W_region rfl ?_
        refine Wo rfl (opv_move (v := u1) rfl) ?_; refine Wo rfl (opv_len Try.underlying30 rfl (Owned.read hO1)) ?_; refine Wo rfl (opv_sub rfl rfl (by omega)) ?_; refine Wo rfl (opv_assign (v := .int _ _) rfl) ?_; refine Wo_nil ?_
        refine W_seq ?_; refine W_region rfl ?_; refine Wo rfl (opv_move (v := .int _ _) rfl) ?_; refine Wo rfl (opv_move (v := .int _ _) rfl) ?_
        refine Wo_call rfl (opc3 (a := .int _ _) (b := .int _ _) (c := .int _ _) Try.call62 rfl rfl rfl) (l1In_ok _ _ _ _) ?_; rintro _ w2 ⟨rfl, E2⟩; have hs2 := E2.size
        refine Wo_split_dec rfl (opv_move (v := .bool _) rfl) (fun h1 => ?_) (fun h1 => ?_); (exfalso; omega); refine Wo_skip rfl ?_; refine Wo_skip rfl ?_; refine Wo_skip rfl ?_; refine Wo rfl (opv_pick_f (v := .bool _) rfl rfl) ?_
        refine Wo rfl (opv_move (v := .bool _) rfl) ?_; refine Wo_skip rfl ?_; refine Wo_skip rfl ?_; refine Wo_skip rfl ?_; refine Wo_skip rfl ?_; refine Wo_skip rfl ?_; refine Wo_skip rfl ?_; refine Wo_skip rfl ?_; refine Wo_skip rfl ?_
        refine Wo rfl (opv_pick_f (v := .bool _) rfl rfl) ?_; refine Wo rfl (opv_assign (v := .bool _) rfl) ?_; refine Wo_nil ?_; refine W_ret ?_; exact ⟨rfl, (E1.trans E2)⟩
  · have hV : leftV p p.length = [] := if_neg (fun h => hp h.1)
    have hsr : ∀ (w : World) (pv : Value), ESl Ints w pv p → Does Try.prog 90 [pv] w (RetO w XR []) := fun w pv h => by
      have := SameRows_ok w pv p h
      rw [hV] at this; exact this
    have e : smV p a b = false := by unfold smV; rw [decide_eq_false (fun h => hp h.1)]; rfl
    have h00 : ([] : List (List Int)).length = 0 := rfl
    rw [e]
    refine fn_of_W1 Try.func84 rfl Try.results84 Try.ntmps84 rfl ?_
    focus
      refine W_seq ?_; refine W_region rfl ?_; refine Wo rfl (opv_assign (v := .bool _) rfl) ?_; refine Wo_nil ?_; refine W_seq ?_; refine W_region rfl ?_; refine Wo rfl (opv_move (v := v) rfl) ?_
      refine Wo_call rfl (opc1 (a := v) Try.call90 rfl) (hsr _ _ (h)) ?_; rintro u1 w1 ⟨E1, hO1⟩; have hs1 := E1.size; refine Wo rfl (opv_assign (v := u1) rfl) ?_; refine Wo_nil ?_; refine W_seq ?_; refine W_region rfl ?_
      refine Wo rfl (opv_move (v := u1) rfl) ?_; refine Wo rfl (opv_len Try.underlying30 rfl (Owned.read hO1)) ?_; refine Wo rfl (opv_sub rfl rfl (by omega)) ?_; refine Wo rfl (opv_assign (v := .int _ _) rfl) ?_; refine Wo_nil ?_
      refine W_seq ?_; refine W_region rfl ?_; refine Wo rfl (opv_move (v := .int _ _) rfl) ?_; refine Wo rfl (opv_move (v := .int _ _) rfl) ?_
      refine Wo_call rfl (opc3 (a := .int _ _) (b := .int _ _) (c := .int _ _) Try.call62 rfl rfl rfl) (l1In_ok _ _ _ _) ?_; rintro _ w2 ⟨rfl, E2⟩; have hs2 := E2.size
      refine Wo_split_dec rfl (opv_move (v := .bool _) rfl) (fun h1 => ?_) (fun h1 => ?_); (exfalso; omega); refine Wo_skip rfl ?_; refine Wo_skip rfl ?_; refine Wo_skip rfl ?_; refine Wo rfl (opv_pick_f (v := .bool _) rfl rfl) ?_
      refine Wo rfl (opv_move (v := .bool _) rfl) ?_; refine Wo_skip rfl ?_; refine Wo_skip rfl ?_; refine Wo_skip rfl ?_; refine Wo_skip rfl ?_; refine Wo_skip rfl ?_; refine Wo_skip rfl ?_; refine Wo_skip rfl ?_; refine Wo_skip rfl ?_
      refine Wo rfl (opv_pick_f (v := .bool _) rfl rfl) ?_; refine Wo rfl (opv_assign (v := .bool _) rfl) ?_; refine Wo_nil ?_; refine W_ret ?_; exact ⟨rfl, (E1.trans E2)⟩

end Go.Proofs.Ytjdfnngmbaojjaa
