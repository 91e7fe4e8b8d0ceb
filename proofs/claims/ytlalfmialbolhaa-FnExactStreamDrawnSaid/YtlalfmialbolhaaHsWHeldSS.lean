/- Walks: rows held, rows compared. -/
import Derived.Test.YtlalfmialbolhaaHsWMark
import Derived.Test.YtlalfmialbolhaaHsWGen2
namespace Go.Proofs.Ytlalfmialbolhaa
open Go.Hs
set_option maxRecDepth 10000
set_option maxHeartbeats 4000000
set_option linter.unusedVariables false
set_option linter.unusedSimpArgs false

theorem marksS_get : ∀ (p : List (List Int)) (k0 : Int) (i : Nat) (hi : i < p.length), (marksS k0 p)[i]'(by rw [marksS_len]; exact hi) = marks (k0 + total (p.take i)) p[i].length := by
  intro p
  induction p with
  | nil => intro k0 i hi; cases hi
  | cons a p ih =>
    intro k0 i hi
    cases i with
    | zero => simp [marksS, total]
    | succ i =>
      simp only [marksS, List.getElem_cons_succ, List.take_succ_cons, total]
      rw [ih _ i (by simpa using hi)]
      congr 1; omega
theorem heldIntSS_ok (w : World) (v : Value) (p : List (List Int)) (k0 : Int) (h : ESl Ints w v (marksS k0 p)) (hk0 : 0 ≤ k0 ∧ k0 ≤ 1048576) (hn : p.length ≤ 1048576) (ht : total p ≤ 1099511627776 - 1048576) : Does Try.prog 44 [v, .int .i64 k0] w (Ret w (.int .i64 (k0 + total p))) := by
  have hml := marksS_len k0 p
  have hle := h.le
  refine fn_of_W1 Try.func44 rfl Try.results44 Try.ntmps44 rfl ?_
  focus
    refine W_seq ?_; refine W_region rfl ?_; refine Wo rfl (opv_assign (v := .int _ _) rfl) ?_; refine Wo_nil ?_; refine W_seq ?_; refine W_seq ?_; refine W_region rfl ?_; refine Wo rfl (opv_assign (v := .int _ _) rfl) ?_
    refine Wo_nil ?_; refine W_block ?_
  refine W_loop [1, 4, 5, 6, 7, 8, 9, 10, 11, 12, 13, 14, 15, 16, 17, 18, 19] (fun (k, m) => [(5, .int .i64 (k : Nat)), (1, .int .i64 (m : Int))]) (fun (k, m) w' => Ext w w' ∧ k ≤ p.length ∧ m = k0 + (total (p.take k) : Nat)) (fun x => p.length - x.1) (0, k0) (by repeat (first | exact trivial | refine And.intro rfl ?_)) ?_ ?_
  · exact ⟨Ext.refl _, Nat.zero_le _, by simp [total]⟩
  rintro ⟨k, m⟩ ρj w1 ⟨E1, hk, hm0⟩
  by_cases hlt : k < p.length
  · have hg := marksS_get p k0 k hlt
    have htk := total_take_le p k
    have htk1 := total_take_le p (k + 1)
    have hte := total_ge p hlt
    have kH : ∀ (w : World) (u : Value), Ints w u ((marksS k0 p)[k]'(by omega)) → Does Try.prog 68 [u, .int .i64 m] w (Ret w (.int .i64 (k0 + (total (p.take (k + 1)) : Nat)))) := fun w u h => by
      rw [hg, ← hm0] at h
      have := heldIntS_ok w u p[k].length m h (by omega) (by omega)
      rw [show m + (p[k].length : Int) = k0 + (total (p.take (k + 1)) : Nat) by omega] at this
      exact this
    focus
      have szE1 := E1.size; refine W_seq ?_; refine W_seq ?_; refine W_region rfl ?_; refine Wo rfl (opv_move (v := .int _ _) rfl) ?_; refine Wo rfl (opv_move (v := v) rfl) ?_; refine Wo rfl (opv_len Try.underlying50 rfl h) ?_
      refine Wo rfl (opv_lss rfl rfl) ?_; refine Wo_nil ?_; refine W_cond_dec rfl (fun h1 => ?_) (fun h1 => ?_); refine W_skip ?_; refine W_seq ?_; refine W_block ?_; refine W_seq ?_; refine W_region rfl ?_
      refine Wo rfl (opv_move (v := v) rfl) ?_; refine Wo rfl (opv_move (v := .int _ _) rfl) ?_; refine Wo_get Try.underlying50 Try.sizeOf23 Try.isAgg23 rfl (fun _ => rfl) rfl h E1 rfl (by first | omega | (simp <;> omega)) ?_
      rintro _ u1 hu1; refine Wo rfl (opv_move (v := .int _ _) rfl) ?_; refine Wo_call rfl (opc2 (a := u1) (b := .int _ _) Try.call68 rfl rfl) (kH _ _ ((Mono.mono E1 hu1))) ?_; rintro _ w2 ⟨rfl, E2⟩; have hs1 := E2.size
      refine Wo rfl (opv_assign (v := .int _ _) rfl) ?_; refine Wo_nil ?_; refine W_seq ?_; refine W_region rfl ?_; refine Wo rfl (opv_move (v := .int _ _) rfl) ?_; refine Wo rfl (opv_lss rfl rfl) ?_; refine Wo_nil ?_
      refine W_cond_dec rfl (fun h2 => ?_) (fun h2 => ?_); (exfalso; omega); refine W_skip ?_; refine W_region rfl ?_; refine Wo rfl (opv_move (v := .int _ _) rfl) ?_; refine Wo rfl (opv_add rfl rfl (by omega)) ?_
      refine Wo rfl (opv_assign (v := .int _ _) rfl) ?_; refine Wo_nil ?_; rotate_left; (exfalso; omega)
    refine ⟨((k + 1, k0 + (total (p.take (k + 1)) : Nat))), by repeat (first | exact trivial | refine And.intro rfl ?_), by repeat (first | with_reducible exact Same.refl | refine Same.upd rfl ?_ | refine Same.upds rfl ?_ | refine Same.mix rfl ?_), ?_, ?_⟩
    · exact ⟨by first | assumption | exact E1.trans E2, by omega, rfl⟩
    · simp only; omega
  · obtain rfl : k = p.length := by omega
    rw [List.take_length] at hm0
    subst hm0
    focus
      have szE1 := E1.size; refine W_seq ?_; refine W_seq ?_; refine W_region rfl ?_; refine Wo rfl (opv_move (v := .int _ _) rfl) ?_; refine Wo rfl (opv_move (v := v) rfl) ?_; refine Wo rfl (opv_len Try.underlying50 rfl h) ?_
      refine Wo rfl (opv_lss rfl rfl) ?_; refine Wo_nil ?_; refine W_cond_dec rfl (fun h1 => ?_) (fun h1 => ?_); (exfalso; omega); refine W_exit ?_; refine exitX_same ?_; refine W_seq ?_; refine W_region rfl ?_
      refine Wo rfl (opv_move (v := .int _ _) rfl) ?_; refine Wo rfl (opv_assign (v := .int _ _) rfl) ?_; refine Wo_nil ?_; refine W_ret ?_; exact ⟨rfl, E1⟩

theorem sameRows_ok (w : World) (v u : Value) (p q : List (List Int)) (h : ESl Ints w v p) (h' : ESl Ints w u q) : Does Try.prog 46 [v, u] w (Ret w (.bool (decide (p = q)))) := by
  have hle := h.le
  have hle' := h'.le
  refine fn_of_W1 Try.func46 rfl Try.results46 Try.ntmps46 rfl ?_
  focus
    refine W_seq ?_; refine W_region rfl ?_; refine Wo rfl (opv_assign (v := .bool _) rfl) ?_; refine Wo_nil ?_; refine W_seq ?_; refine W_seq ?_; refine W_region rfl ?_; refine Wo rfl (opv_move (v := v) rfl) ?_
    refine Wo rfl (opv_len Try.underlying50 rfl h) ?_; refine Wo rfl (opv_move (v := u) rfl) ?_; refine Wo rfl (opv_len Try.underlying50 rfl h') ?_; refine Wo rfl (opv_neq rfl rfl) ?_; refine Wo_nil ?_
    refine W_cond_ndec rfl (fun h1 => ?_) (fun h1 => ?_); refine W_seq ?_; refine W_region rfl ?_; refine Wo rfl (opv_assign (v := .bool _) rfl) ?_; refine Wo_nil ?_; refine W_ret ?_; refine at_ret (v := .bool _) rfl ?_
    refine ⟨congrArg Value.bool ?_, (Ext.refl _)⟩; rotate_left; refine W_skip ?_; refine W_seq ?_; refine W_seq ?_; refine W_region rfl ?_; refine Wo rfl (opv_assign (v := .int _ _) rfl) ?_; refine Wo_nil ?_; refine W_block ?_
    rotate_left
  · exact (decide_eq_false (fun e => by subst e; omega)).symm
  refine W_loop [4, 5, 11, 12, 13, 14, 15, 16, 17, 18, 19, 20, 21, 22, 23, 24, 25, 26] (fun (k : Nat) => [(5, .int .i64 (k : Nat))]) (fun k w' => Ext w w' ∧ k ≤ p.length ∧ p.take k = q.take k) (fun x => p.length - x) 0 (by repeat (first | exact trivial | refine And.intro rfl ?_)) ?_ ?_
  · exact ⟨Ext.refl _, Nat.zero_le _, by simp⟩
  rintro k ρj w1 ⟨E1, hk, he⟩
  focus
    have szE1 := E1.size; refine W_seq ?_; refine W_seq ?_; refine W_region rfl ?_; refine Wo rfl (opv_move (v := .int _ _) rfl) ?_; refine Wo rfl (opv_move (v := v) rfl) ?_; refine Wo rfl (opv_len Try.underlying50 rfl h) ?_
    refine Wo rfl (opv_lss rfl rfl) ?_; refine Wo_nil ?_; refine W_cond_dec rfl (fun h2 => ?_) (fun h2 => ?_); refine W_skip ?_; refine W_seq ?_; refine W_block ?_; refine W_seq ?_; refine W_draw mixed (by kernel_rfl) rfl ?_
    refine Wq_o rfl (fun _ _ => opv_move (v := v) rfl) ?_; refine Wq_o rfl (fun _ _ => opv_move (v := .int _ _) rfl) ?_
    refine Wq_get Try.underlying50 Try.sizeOf23 Try.isAgg23 rfl (fun _ => rfl) rfl h E1 rfl (by first | omega | (simp <;> omega)) ?_; rintro _ u1 hu1; refine Wq_o rfl (fun _ _ => opv_move (v := u) rfl) ?_
    refine Wq_o rfl (fun _ _ => opv_move (v := .int _ _) rfl) ?_; refine Wq_get Try.underlying50 Try.sizeOf23 Try.isAgg23 rfl (fun _ => rfl) rfl h' E1 rfl (by first | omega | (simp <;> omega)) ?_; rintro _ u2 hu2
    refine Wq_call rfl (fun _ _ => opc2 (a := u1) (b := u2) Try.call60 rfl rfl) (fun w' hw' => (sameInts_ok _ _ _ _ _ ((Mono.mono (E1.trans hw') hu1)) ((Mono.mono (E1.trans hw') hu2)))) ?_; refine Wq_o rfl (fun _ _ => opv_not rfl) ?_
    refine Wq_nil (fun w2 E2 => ?_); have hs1 := E2.size; refine W_cond_ndec rfl (fun h3 => ?_) (fun h3 => ?_); refine W_seq ?_; refine W_region rfl ?_; refine Wo rfl (opv_assign (v := .bool _) rfl) ?_; refine Wo_nil ?_; refine W_ret ?_
    refine at_ret (v := .bool _) rfl ?_; refine ⟨congrArg Value.bool ?_, (E1.trans E2)⟩; rotate_left; refine W_skip ?_; refine W_region rfl ?_; refine Wo rfl (opv_move (v := .int _ _) rfl) ?_
    refine Wo rfl (opv_add rfl rfl (by omega)) ?_; refine Wo rfl (opv_assign (v := .int _ _) rfl) ?_; refine Wo_nil ?_; rotate_left; refine W_exit ?_; refine exitX_same ?_; refine W_seq ?_; refine W_region rfl ?_
    refine Wo rfl (opv_assign (v := .bool _) rfl) ?_; refine Wo_nil ?_; refine W_ret ?_; refine at_ret (v := .bool _) rfl ?_; refine ⟨congrArg Value.bool ?_, E1⟩; rotate_left
  · exact (decide_eq_false (ne_at (k := k) (by omega) (by omega) (by assumption))).symm
  · refine ⟨(k + 1), by repeat (first | exact trivial | refine And.intro rfl ?_), by repeat (first | with_reducible exact Same.refl | refine Same.upd rfl ?_ | refine Same.upds rfl ?_ | refine Same.mix rfl ?_), ?_, ?_⟩
    · exact ⟨E1.trans E2, by omega, (take_eq_snoc (by omega) (by omega)).2 ⟨he, by assumption⟩⟩
    · omega
  · obtain rfl : k = p.length := by omega
    exact (decide_eq_true (ext_take (by omega) he)).symm
theorem same_rows (p : List (List Int)) (w : World) (v u : Value) (h : ESl Ints w v p) (h' : ESl Ints w u p) : Does Try.prog 46 [v, u] w (Ret w (.bool true)) := by
  have := sameRows_ok w v u p p h h'
  rw [decide_eq_true rfl] at this; exact this

end Go.Proofs.Ytlalfmialbolhaa
