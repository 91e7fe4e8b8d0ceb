/- Walks of the laws on LoopsCut. -/
import Derived.Test.YthhaodjjfofogaaHsWCut
import Derived.Test.YthhaodjjfofogaaHsWLpL
namespace Go.Proofs.Ythhaodjjfofogaa
open Go.Hs
set_option maxRecDepth 10000
set_option maxHeartbeats 4000000
set_option linter.unusedVariables false
set_option linter.unusedSimpArgs false

theorem marksS_get : ∀ (p : List (List Int)) (k0 : Int) (i : Nat) (hi : i < p.length), (marksS k0 p)[i]'(by rw [marksS_len]; exact hi) = marks (k0 + total (p.take i)) p[i].length := by
  intro p
  induction p with
  | nil => intro k0 i hi; cases hi
  | cons a p ih =>
    intro k0 i hi
    cases i with
    | zero => simp [marksS, total]
    | succ i =>
      simp only [marksS, List.getElem_cons_succ, List.take_succ_cons, total]
      rw [ih _ i (by simpa using hi)]
      congr 1; omega
theorem heldIntSS_ok (w : World) (v : Value) (p : List (List Int)) (k0 : Int) (h : ESl Ints w v (marksS k0 p)) (hk0 : 0 ≤ k0 ∧ k0 ≤ 1048576) (hn : p.length ≤ 1048576) (ht : total p ≤ 1099511627776 - 1048576) : Does Try.prog 39 [v, .int .i64 k0] w (Ret w (.int .i64 (k0 + total p))) := by
  have hml := marksS_len k0 p
  have hle := h.le
  refine fn_of_W1 Try.func39 rfl Try.results39 Try.ntmps39 rfl ?_
  focus
    refine W_seq ?_; refine W_region rfl ?_; refine Wo rfl (opv_assign (v := .int _ _) rfl) ?_; refine Wo_nil ?_; refine W_seq ?_; refine W_seq ?_; refine W_region rfl ?_; refine Wo rfl (opv_assign (v := .int _ _) rfl) ?_
    refine Wo_nil ?_; refine W_block ?_
  refine W_loop [1, 4, 5, 6, 7, 8, 9, 10, 11, 12, 13, 14, 15, 16, 17, 18, 19] (fun (k, m) => [(5, .int .i64 (k : Nat)), (1, .int .i64 (m : Int))]) (fun (k, m) w' => Ext w w' ∧ k ≤ p.length ∧ m = k0 + (total (p.take k) : Nat)) (fun x => p.length - x.1) (0, k0) (by repeat (first | exact trivial | refine And.intro rfl ?_)) ?_ ?_
  · exact ⟨Ext.refl _, Nat.zero_le _, by simp [total]⟩
  rintro ⟨k, m⟩ ρj w1 ⟨E1, hk, hm0⟩
  by_cases hlt : k < p.length
  · have hg := marksS_get p k0 k hlt
    have htk := total_take_le p k
    have htk1 := total_take_le p (k + 1)
    have hte := total_ge p hlt
    have kH : ∀ (w : World) (u : Value), Ints w u ((marksS k0 p)[k]'(by omega)) → Does Try.prog 21 [u, .int .i64 m] w (Ret w (.int .i64 (k0 + (total (p.take (k + 1)) : Nat)))) := fun w u h => by
      rw [hg, ← hm0] at h
      have := heldIntS_ok w u p[k].length m h (by omega) (by omega)
      rw [show m + (p[k].length : Int) = k0 + (total (p.take (k + 1)) : Nat) by omega] at this
      exact this
    focus
      have szE1 := E1.size; refine W_seq ?_; refine W_seq ?_; refine W_region rfl ?_; refine Wo rfl (opv_move (v := .int _ _) rfl) ?_; refine Wo rfl (opv_move (v := v) rfl) ?_; refine Wo rfl (opv_len Try.underlying22 rfl h) ?_
      refine Wo rfl (opv_lss rfl rfl) ?_; refine Wo_nil ?_; refine W_cond_dec rfl (fun h1 => ?_) (fun h1 => ?_); refine W_skip ?_; refine W_seq ?_; refine W_block ?_; refine W_seq ?_; refine W_region rfl ?_
      refine Wo rfl (opv_move (v := v) rfl) ?_; refine Wo rfl (opv_move (v := .int _ _) rfl) ?_; refine Wo_get Try.underlying22 Try.sizeOf24 Try.isAgg24 rfl (fun _ => rfl) rfl h E1 rfl (by first | omega | (simp <;> omega)) ?_
      rintro _ u1 hu1; refine Wo rfl (opv_move (v := .int _ _) rfl) ?_; refine Wo_call rfl (opc2 (a := u1) (b := .int _ _) Try.call21 rfl rfl) (kH _ _ ((Mono.mono E1 hu1))) ?_; rintro _ w2 ⟨rfl, E2⟩; have hs1 := E2.size
      refine Wo rfl (opv_assign (v := .int _ _) rfl) ?_; refine Wo_nil ?_; refine W_seq ?_; refine W_region rfl ?_; refine Wo rfl (opv_move (v := .int _ _) rfl) ?_; refine Wo rfl (opv_lss rfl rfl) ?_; refine Wo_nil ?_
      refine W_cond_dec rfl (fun h2 => ?_) (fun h2 => ?_); (exfalso; omega); refine W_skip ?_; refine W_region rfl ?_; refine Wo rfl (opv_move (v := .int _ _) rfl) ?_; refine Wo rfl (opv_add rfl rfl (by omega)) ?_
      refine Wo rfl (opv_assign (v := .int _ _) rfl) ?_; refine Wo_nil ?_; rotate_left; (exfalso; omega)
    refine ⟨((k + 1, k0 + (total (p.take (k + 1)) : Nat))), by repeat (first | exact trivial | refine And.intro rfl ?_), by repeat (first | with_reducible exact Same.refl | refine Same.upd rfl ?_ | refine Same.upds rfl ?_ | refine Same.mix rfl ?_), ?_, ?_⟩
    · exact ⟨by first | assumption | exact E1.trans E2, by omega, rfl⟩
    · simp only; omega
  · obtain rfl : k = p.length := by omega
    rw [List.take_length] at hm0
    subst hm0
    focus
      have szE1 := E1.size; refine W_seq ?_; refine W_seq ?_; refine W_region rfl ?_; refine Wo rfl (opv_move (v := .int _ _) rfl) ?_; refine Wo rfl (opv_move (v := v) rfl) ?_; refine Wo rfl (opv_len Try.underlying22 rfl h) ?_
      refine Wo rfl (opv_lss rfl rfl) ?_; refine Wo_nil ?_; refine W_cond_dec rfl (fun h1 => ?_) (fun h1 => ?_); (exfalso; omega); refine W_exit ?_; refine exitX_same ?_; refine W_seq ?_; refine W_region rfl ?_
      refine Wo rfl (opv_move (v := .int _ _) rfl) ?_; refine Wo rfl (opv_assign (v := .int _ _) rfl) ?_; refine Wo_nil ?_; refine W_ret ?_; exact ⟨rfl, E1⟩

theorem sameRows_ok (w : World) (v u : Value) (p q : List (List Int)) (h : ESl Ints w v p) (h' : ESl Ints w u q) : Does Try.prog 41 [v, u] w (Ret w (.bool (decide (p = q)))) := by
  have hle := h.le
  have hle' := h'.le
  refine fn_of_W1 Try.func41 rfl Try.results41 Try.ntmps41 rfl ?_
  focus
    refine W_seq ?_; refine W_region rfl ?_; refine Wo rfl (opv_assign (v := .bool _) rfl) ?_; refine Wo_nil ?_; refine W_seq ?_; refine W_seq ?_; refine W_region rfl ?_; refine Wo rfl (opv_move (v := v) rfl) ?_
    refine Wo rfl (opv_len Try.underlying22 rfl h) ?_; refine Wo rfl (opv_move (v := u) rfl) ?_; refine Wo rfl (opv_len Try.underlying22 rfl h') ?_; refine Wo rfl (opv_neq rfl rfl) ?_; refine Wo_nil ?_
    refine W_cond_ndec rfl (fun h1 => ?_) (fun h1 => ?_); refine W_seq ?_; refine W_region rfl ?_; refine Wo rfl (opv_assign (v := .bool _) rfl) ?_; refine Wo_nil ?_; refine W_ret ?_; refine at_ret (v := .bool _) rfl ?_
    refine ⟨congrArg Value.bool ?_, (Ext.refl _)⟩; rotate_left; refine W_skip ?_; refine W_seq ?_; refine W_seq ?_; refine W_region rfl ?_; refine Wo rfl (opv_assign (v := .int _ _) rfl) ?_; refine Wo_nil ?_; refine W_block ?_
    rotate_left
  · exact (decide_eq_false (fun e => by subst e; omega)).symm
  refine W_loop [4, 5, 11, 12, 13, 14, 15, 16, 17, 18, 19, 20, 21, 22, 23, 24, 25, 26] (fun (k : Nat) => [(5, .int .i64 (k : Nat))]) (fun k w' => Ext w w' ∧ k ≤ p.length ∧ p.take k = q.take k) (fun x => p.length - x) 0 (by repeat (first | exact trivial | refine And.intro rfl ?_)) ?_ ?_
  · exact ⟨Ext.refl _, Nat.zero_le _, by simp⟩
  rintro k ρj w1 ⟨E1, hk, he⟩
  focus
    have szE1 := E1.size; refine W_seq ?_; refine W_seq ?_; refine W_region rfl ?_; refine Wo rfl (opv_move (v := .int _ _) rfl) ?_; refine Wo rfl (opv_move (v := v) rfl) ?_; refine Wo rfl (opv_len Try.underlying22 rfl h) ?_
    refine Wo rfl (opv_lss rfl rfl) ?_; refine Wo_nil ?_; refine W_cond_dec rfl (fun h2 => ?_) (fun h2 => ?_); refine W_skip ?_; refine W_seq ?_; refine W_block ?_; refine W_seq ?_; refine W_draw mixed (by kernel_rfl) rfl ?_
    refine Wq_o rfl (fun _ _ => opv_move (v := v) rfl) ?_; refine Wq_o rfl (fun _ _ => opv_move (v := .int _ _) rfl) ?_
    refine Wq_get Try.underlying22 Try.sizeOf24 Try.isAgg24 rfl (fun _ => rfl) rfl h E1 rfl (by first | omega | (simp <;> omega)) ?_; rintro _ u1 hu1; refine Wq_o rfl (fun _ _ => opv_move (v := u) rfl) ?_
    refine Wq_o rfl (fun _ _ => opv_move (v := .int _ _) rfl) ?_; refine Wq_get Try.underlying22 Try.sizeOf24 Try.isAgg24 rfl (fun _ => rfl) rfl h' E1 rfl (by first | omega | (simp <;> omega)) ?_; rintro _ u2 hu2
    refine Wq_call rfl (fun _ _ => opc2 (a := u1) (b := u2) Try.call27 rfl rfl) (fun w' hw' => (sameInts_ok _ _ _ _ _ ((Mono.mono (E1.trans hw') hu1)) ((Mono.mono (E1.trans hw') hu2)))) ?_; refine Wq_o rfl (fun _ _ => opv_not rfl) ?_
    refine Wq_nil (fun w2 E2 => ?_); have hs1 := E2.size; refine W_cond_ndec rfl (fun h3 => ?_) (fun h3 => ?_); refine W_seq ?_; refine W_region rfl ?_; refine Wo rfl (opv_assign (v := .bool _) rfl) ?_; refine Wo_nil ?_; refine W_ret ?_
    refine at_ret (v := .bool _) rfl ?_; refine ⟨congrArg Value.bool ?_, (E1.trans E2)⟩; rotate_left; refine W_skip ?_; refine W_region rfl ?_; refine Wo rfl (opv_move (v := .int _ _) rfl) ?_
    refine Wo rfl (opv_add rfl rfl (by omega)) ?_; refine Wo rfl (opv_assign (v := .int _ _) rfl) ?_; refine Wo_nil ?_; rotate_left; refine W_exit ?_; refine exitX_same ?_; refine W_seq ?_; refine W_region rfl ?_
    refine Wo rfl (opv_assign (v := .bool _) rfl) ?_; refine Wo_nil ?_; refine W_ret ?_; refine at_ret (v := .bool _) rfl ?_; refine ⟨congrArg Value.bool ?_, E1⟩; rotate_left
  · exact (decide_eq_false (ne_at (k := k) (by omega) (by omega) (by assumption))).symm
  · refine ⟨(k + 1), by repeat (first | exact trivial | refine And.intro rfl ?_), by repeat (first | with_reducible exact Same.refl | refine Same.upd rfl ?_ | refine Same.upds rfl ?_ | refine Same.mix rfl ?_), ?_, ?_⟩
    · exact ⟨E1.trans E2, by omega, (take_eq_snoc (by omega) (by omega)).2 ⟨he, by assumption⟩⟩
    · omega
  · obtain rfl : k = p.length := by omega
    exact (decide_eq_true (ext_take (by omega) he)).symm

theorem lcV_len (p : List (List Int)) (hp5 : p.length ≤ 1048576) : (lcV p).length ≤ 5 ∧ total (lcV p) ≤ 25 ∧ ∀ r ∈ lcV p, r.length ≤ 5 := by
  unfold lcV
  split
  · rename_i hp
    have h1 := (cutV_pic hp).2.1
    have h2 := (cutV_pic hp).2.2
    have h3 : ∀ r ∈ cutV p, r.length ≤ 5 := fun r hr => by have := (h2 r hr).1; omega
    refine ⟨h1, ?_, h3⟩
    have key : ∀ (l : List (List Int)), (∀ r ∈ l, r.length ≤ 5) → total l ≤ l.length * 5 := by
      intro l
      induction l with
      | nil => intro _; simp [total]
      | cons a l ih =>
        intro h
        have h4 := h a (by simp)
        have h5 := ih fun r hr => h r (by simp [hr])
        simp only [total, List.length_cons]; omega
    have := key _ h3; omega
  · simp [total]
theorem FnExactLoopsCut_walk (w : World) (v : Value) (p : List (List Int)) (h : ESl Ints w v p) :
    Does Try.prog 10 [v] w (Ret w (.bool true)) := by
  refine fn_of_W1 Try.func10 rfl Try.results10 Try.ntmps10 rfl ?_
  focus
    refine W_seq ?_; refine W_region rfl ?_; refine Wo rfl (opv_assign (v := .bool _) rfl) ?_; refine Wo_nil ?_; refine W_seq ?_; refine W_region rfl ?_; refine Wo rfl (opv_assign (v := .int _ _) rfl) ?_; refine Wo_nil ?_
    refine W_seq ?_; refine W_region rfl ?_; refine Wo rfl (opv_move (v := v) rfl) ?_; refine Wo rfl (opv_move (v := .int _ _) rfl) ?_
    refine Wo_call rfl (opc2 (a := v) (b := .int _ _) Try.call13 rfl rfl) (szIntSS_ok _ _ _ (h) _ (by omega)) ?_; rintro _ w1 ⟨E1, y1, rfl, hy1⟩; have hs1 := E1.size; refine Wo rfl (opv_assign (v := .int _ _) rfl) ?_; refine Wo_nil ?_
    refine W_seq ?_; refine W_seq ?_; refine W_region rfl ?_; refine Wo rfl (opv_move (v := .int _ _) rfl) ?_; refine Wo rfl (opv_lss rfl rfl) ?_; refine Wo_nil ?_; refine W_cond_dec rfl (fun h1 => ?_) (fun h1 => ?_); refine W_seq ?_
    refine W_region rfl ?_; refine Wo rfl (opv_assign (v := .bool _) rfl) ?_; refine Wo_nil ?_; refine W_ret ?_; exact ⟨rfl, E1⟩; refine W_skip ?_; refine W_seq ?_; refine W_region rfl ?_; refine Wo rfl (opv_move (v := v) rfl) ?_
  rcases hy1 with h9 | ⟨h5, h6, h7, h7', h8⟩
  · omega
  obtain ⟨hl1, hl2, hl3⟩ := lcV_len p (by omega)
  have hml := marksS_len 1 (lcV p)
  focus
    have szE1 := E1.size; refine Wo_call rfl (opc1 (a := v) Try.call15 rfl) (toIntSS_ok _ _ _ ((Mono.mono E1 h)) (by assumption) (by assumption)) ?_; rintro u1 w2 ⟨E2, hO1⟩; have hs2 := E2.size
    refine Wo_call rfl (opc1 (a := u1) Try.call37 rfl) (spec_LoopsCut_ok _ _ _ ((Owned.read hO1))) ?_; rintro u2 w3 ⟨E3, hO2⟩; have hs3 := E3.size; refine Wo rfl (opv_assign (v := u2) rfl) ?_; refine Wo_nil ?_; refine W_seq ?_
    refine W_region rfl ?_; refine Wo rfl (opv_move (v := v) rfl) ?_; refine Wo_call rfl (opc1 (a := v) Try.call15 rfl) (toIntSS_ok _ _ _ ((Mono.mono ((E1.trans E2).trans E3) h)) (by assumption) (by assumption)) ?_
    rintro u3 w4 ⟨E4, hO3⟩; have hs4 := E4.size; refine Wo rfl (opv_assign (v := u3) rfl) ?_; refine Wo_nil ?_; refine W_seq ?_; refine W_region rfl ?_; refine Wo rfl (opv_move (v := u3) rfl) ?_
    refine Wo_call rfl (opc1 (a := u3) Try.call38 rfl) (impl_LoopsCut_ok _ _ _ ((Owned.read hO3))) ?_; rintro u4 w5 ⟨E5, hO4⟩; have hs5 := E5.size; refine Wo rfl (opv_assign (v := u4) rfl) ?_; refine Wo_nil ?_; refine W_seq ?_
    refine W_seq ?_; refine W_region rfl ?_; refine Wo rfl (opv_move (v := u4) rfl) ?_; refine Wo rfl (opv_move (v := u2) rfl) ?_
    refine Wo_call rfl (opc2 (a := u4) (b := u2) Try.call18 rfl rfl) (eqIntSS_ok _ _ _ _ _ ((Owned.read hO4)) ((Mono.mono (E4.trans E5) (Owned.read hO2)))) ?_; rintro _ w6 ⟨rfl, E6⟩; have hs6 := E6.size; refine Wo rfl (opv_not rfl) ?_
    refine Wo_nil ?_; refine W_cond_ndec rfl (fun h2 => ?_) (fun h2 => ?_); contradiction; refine W_skip ?_; refine W_seq ?_; refine W_seq ?_; refine W_region rfl ?_; refine Wo rfl (opv_move (v := u3) rfl) ?_
    refine Wo rfl (opv_move (v := v) rfl) ?_; refine Wo_call rfl (opc1 (a := v) Try.call15 rfl) (toIntSS_ok _ _ _ ((Mono.mono (((((E1.trans E2).trans E3).trans E4).trans E5).trans E6) h)) (by assumption) (by assumption)) ?_
    rintro u5 w7 ⟨E7, hO5⟩; have hs7 := E7.size; refine Wo_call rfl (opc2 (a := u3) (b := u5) Try.call18 rfl rfl) (eqIntSS_ok _ _ _ _ _ ((Mono.mono ((E5.trans E6).trans E7) (Owned.read hO3))) ((Owned.read hO5))) ?_
    rintro _ w8 ⟨rfl, E8⟩; have hs8 := E8.size; refine Wo rfl (opv_not rfl) ?_; refine Wo_nil ?_; refine W_cond_ndec rfl (fun h3 => ?_) (fun h3 => ?_); contradiction; refine W_skip ?_; refine W_seq ?_; refine W_region rfl ?_
    refine Wo rfl (opv_assign (v := .int _ _) rfl) ?_; refine Wo_nil ?_; refine W_seq ?_; refine W_region rfl ?_; refine Wo rfl (opv_move (v := u3) rfl) ?_; refine Wo rfl (opv_move (v := .int _ _) rfl) ?_
    refine Wo_call rfl (opc2 (a := u3) (b := .int _ _) Try.call19 rfl rfl) (markIntSS_ok _ _ _ ((hO3.toB.ext (((E5.trans E6).trans E7).trans E8))) _ (by omega) (by assumption) (by omega)) ?_; rintro _ w9 ⟨rfl, E9, hO6⟩
    have hO1 := (hO1.toB.ext (((((E3.trans E4).trans E5).trans E6).trans E7).trans E8)).span E9 (by omega); have hO2 := (hO2.toB.ext ((((E4.trans E5).trans E6).trans E7).trans E8)).span E9 (by omega)
    have hO4 := (hO4.toB.ext ((E6.trans E7).trans E8)).span E9 (by omega); have hO5 := (hO5.toB.ext E8).span E9 (by omega); have E10 := (((((((E1.trans E2).trans E3).trans E4).trans E5).trans E6).trans E7).trans E8).span E9 (by omega)
    have E11 := (((((((E2.trans E3).trans E4).trans E5).trans E6).trans E7).trans E8)).span E9 (by omega); have szE11 := E11.size; have E12 := ((((((E3.trans E4).trans E5).trans E6).trans E7).trans E8)).span E9 (by omega)
    have szE12 := E12.size; have E13 := (((((E4.trans E5).trans E6).trans E7).trans E8)).span E9 (by omega); have szE13 := E13.size; have hs9 := E9.size; refine Wo rfl (opv_assign (v := .int _ _) rfl) ?_; refine Wo_nil ?_
    refine W_seq ?_; refine W_seq ?_; refine W_region rfl ?_; refine Wo rfl (opv_move (v := .int _ _) rfl) ?_; refine Wo rfl (opv_lss rfl rfl) ?_; refine Wo_split_dec rfl (opv_move (v := .bool _) rfl) (fun h4 => ?_) (fun h4 => ?_)
    contradiction; refine Wo rfl (opv_move (v := u4) rfl) ?_; refine Wo rfl (opv_move (v := u2) rfl) ?_; refine Wo_call rfl (opc2 (a := u4) (b := u2) Try.call18 rfl rfl) (eqIntSS_ok _ _ _ _ _ ((OwnedB.read hO4)) ((OwnedB.read hO2))) ?_
    rintro _ w10 ⟨rfl, E14⟩; have hs10 := E14.size; refine Wo rfl (opv_not rfl) ?_; refine Wo rfl (opv_pick_f (v := .bool _) rfl rfl) ?_; refine Wo_nil ?_; refine W_cond_ndec rfl (fun h9 => ?_) (fun h9 => ?_); contradiction
    refine W_skip ?_; refine W_seq ?_; refine W_region rfl ?_; refine Wo rfl (opv_assign (v := .int _ _) rfl) ?_; refine Wo_nil ?_; refine W_seq ?_; refine W_region rfl ?_; refine Wo rfl (opv_move (v := u4) rfl) ?_
    refine Wo rfl (opv_move (v := .int _ _) rfl) ?_; refine Wo_call rfl (opc2 (a := u4) (b := .int _ _) Try.call19 rfl rfl) (markIntSS_ok _ _ _ ((hO4.ext E14)) _ (by omega) (by omega) (by omega)) ?_; rintro _ w11 ⟨rfl, E15, hO7⟩
    have hO6 := (hO6.ext E14).span E15 (by omega); have hO1 := (hO1.ext E14).span E15 (by omega); have hO2 := (hO2.ext E14).span E15 (by omega); have hO5 := (hO5.ext E14).span E15 (by omega)
    have E16 := (E10.trans E14).span E15 (by omega); have E17 := ((E11.trans E14)).span E15 (by omega); have szE17 := E17.size; have E18 := ((E12.trans E14)).span E15 (by omega); have szE18 := E18.size
    have E19 := ((E13.trans E14)).span E15 (by omega); have szE19 := E19.size; have hs11 := E15.size; refine Wo rfl (opv_assign (v := .int _ _) rfl) ?_; refine Wo_nil ?_; refine W_seq ?_; refine W_region rfl ?_
    refine Wo rfl (opv_assign (v := .int _ _) rfl) ?_; refine Wo_nil ?_; refine W_seq ?_; refine W_region rfl ?_; refine Wo rfl (opv_move (v := u4) rfl) ?_; refine Wo rfl (opv_move (v := .int _ _) rfl) ?_
    refine Wo_call rfl (opc2 (a := u4) (b := .int _ _) Try.call39 rfl rfl) (heldIntSS_ok _ _ _ _ ((OwnedB.read hO7)) (by omega) (by omega) (by omega)) ?_; rintro _ w12 ⟨rfl, E20⟩; have hs12 := E20.size
    refine Wo rfl (opv_assign (v := .int _ _) rfl) ?_; refine Wo_nil ?_; refine W_seq ?_; refine W_seq ?_; refine W_region rfl ?_; refine Wo rfl (opv_move (v := .int _ _) rfl) ?_; refine Wo rfl (opv_lss rfl rfl) ?_; refine Wo_nil ?_
    refine W_cond_dec rfl (fun h10 => ?_) (fun h10 => ?_); contradiction; refine W_skip ?_; refine W_seq ?_; refine W_seq ?_; refine W_region rfl ?_; refine Wo rfl (opv_move (v := .int _ _) rfl) ?_
    refine Wo rfl (opv_move (v := .int _ _) rfl) ?_; refine Wo rfl (opv_neq rfl rfl) ?_; refine Wo_nil ?_; refine W_cond_ndec rfl (fun h11 => ?_) (fun h11 => ?_); contradiction; refine W_skip ?_; refine W_seq ?_; refine W_region rfl ?_
    refine Wo rfl (opv_move (v := v) rfl) ?_; refine Wo_call rfl (opc1 (a := v) Try.call15 rfl) (toIntSS_ok _ _ _ ((Mono.mono (E16.trans E20) h)) (by assumption) (by assumption)) ?_; rintro u6 w13 ⟨E21, hO8⟩; have hs13 := E21.size
    refine Wo_call rfl (opc1 (a := u6) Try.call38 rfl) (impl_LoopsCut_ok _ _ _ ((Owned.read hO8))) ?_; rintro u7 w14 ⟨E22, hO9⟩; have hs14 := E22.size; refine Wo rfl (opv_assign (v := u7) rfl) ?_; refine Wo_nil ?_; refine W_seq ?_
    refine W_seq ?_; refine W_region rfl ?_; refine Wo rfl (opv_move (v := u7) rfl) ?_; refine Wo rfl (opv_move (v := u2) rfl) ?_
    refine Wo_call rfl (opc2 (a := u7) (b := u2) Try.call18 rfl rfl) (eqIntSS_ok _ _ _ _ _ ((Owned.read hO9)) ((Mono.mono ((E20.trans E21).trans E22) (OwnedB.read hO2)))) ?_; rintro _ w15 ⟨rfl, E23⟩; have hs15 := E23.size
    refine Wo rfl (opv_not rfl) ?_; refine Wo_nil ?_; refine W_cond_ndec rfl (fun h12 => ?_) (fun h12 => ?_); contradiction; refine W_skip ?_; refine W_seq ?_; refine W_region rfl ?_; refine Wo rfl (opv_assign (v := .int _ _) rfl) ?_
    refine Wo_nil ?_; refine W_seq ?_; refine W_region rfl ?_; refine Wo rfl (opv_move (v := u4) rfl) ?_; refine Wo rfl (opv_move (v := .int _ _) rfl) ?_
    refine Wo_call rfl (opc2 (a := u4) (b := .int _ _) Try.call39 rfl rfl) (heldIntSS_ok _ _ _ _ ((Mono.mono (((E20.trans E21).trans E22).trans E23) (OwnedB.read hO7))) (by omega) (by omega) (by omega)) ?_; rintro _ w16 ⟨rfl, E24⟩
    have hs16 := E24.size; refine Wo rfl (opv_assign (v := .int _ _) rfl) ?_; refine Wo_nil ?_; refine W_seq ?_; refine W_seq ?_; refine W_region rfl ?_; refine Wo rfl (opv_move (v := .int _ _) rfl) ?_
    refine Wo rfl (opv_lss rfl rfl) ?_; refine Wo_nil ?_; refine W_cond_dec rfl (fun h13 => ?_) (fun h13 => ?_); contradiction; refine W_skip ?_; refine W_seq ?_; refine W_seq ?_; refine W_region rfl ?_
    refine Wo rfl (opv_move (v := .int _ _) rfl) ?_; refine Wo rfl (opv_move (v := .int _ _) rfl) ?_; refine Wo rfl (opv_neq rfl rfl) ?_; refine Wo_nil ?_; refine W_cond_ndec rfl (fun h14 => ?_) (fun h14 => ?_); contradiction
    refine W_skip ?_; refine W_seq ?_; refine W_region rfl ?_; refine Wo rfl (opv_assign (v := .bool _) rfl) ?_; refine Wo_nil ?_; refine W_ret ?_; exact ⟨rfl, (((((E16.trans E20).trans E21).trans E22).trans E23).trans E24)⟩

theorem DrawLoopsCut_ok (w : World) (v : Value) (xs : List UInt8) (h : Bytes w v xs) (hc : CapOk v) :
    Does Try.prog 40 [v] w (RetDX w XR (fun p => p.length ≤ 5 ∧ (∀ r ∈ p, r.length ≤ 6))) := by
  refine fn_of_W1 Try.func40 rfl Try.results40 Try.ntmps40 rfl ?_
  have hle := h.le
  focus
    refine W_seq ?_; refine W_region rfl ?_; refine Wo rfl (opv_assign (v := .slice _ _ _) rfl) ?_; refine Wo_nil ?_; refine W_seq ?_; refine W_region rfl ?_; refine Wo rfl (opv_move (v := v) rfl) ?_
    refine Wo_call rfl (opc1 (a := v) Try.call59 rfl) (open_ok _ _ _ (h) (by assumption)) ?_; rintro _ w1 ⟨E1, y1, rfl, hy1⟩; have hs1 := E1.size
    refine Wo_call rfl (opc2 (a := .pointer _) (b := .int _ _) Try.call60 rfl rfl) (Picture_ok _ _ (by assumption) (by omega) (by omega)) ?_; rintro u1 w2 ⟨E2, hr1, x1, hO1, hy2⟩; (try dsimp only at hy2); have hlhr1 := hr1.lt
    have Ehr1 := hr1.old; have hs2 := E2.size; refine Wo rfl (opv_assign (v := u1) rfl) ?_; refine Wo_nil ?_; refine W_ret ?_; refine at_ret (v := u1) rfl ?_
  exact ⟨_, Ehr1, hO1.mono (by omega), hy2⟩

theorem same_rows (p : List (List Int)) (w : World) (v u : Value) (h : ESl Ints w v p) (h' : ESl Ints w u p) : Does Try.prog 41 [v, u] w (Ret w (.bool true)) := by
  have := sameRows_ok w v u p p h h'
  rw [decide_eq_true rfl] at this; exact this
theorem FnLoopsCut_walk (w : World) (v : Value) (xs : List UInt8) (h : Bytes w v xs) (hc : CapOk v) : Does Try.prog 11 [v] w (Ret w (.bool true)) := by
  have hle := h.le
  refine fn_of_W1 Try.func11 rfl Try.results11 Try.ntmps11 rfl ?_
  focus
    refine W_seq ?_; refine W_region rfl ?_; refine Wo rfl (opv_assign (v := .bool _) rfl) ?_; refine Wo_nil ?_; refine W_seq ?_; refine W_seq ?_; refine W_region rfl ?_; refine Wo rfl (opv_move (v := v) rfl) ?_
    refine Wo rfl (opv_len Try.underlying33 rfl h) ?_; refine Wo rfl (opv_gtr rfl rfl) ?_; refine Wo_nil ?_; refine W_cond_dec rfl (fun h1 => ?_) (fun h1 => ?_); refine W_seq ?_; refine W_region rfl ?_
    refine Wo rfl (opv_assign (v := .bool _) rfl) ?_; refine Wo_nil ?_; refine W_ret ?_; exact ⟨rfl, (Ext.refl _)⟩; refine W_skip ?_; refine W_seq ?_; refine W_region rfl ?_; refine Wo rfl (opv_move (v := v) rfl) ?_
    refine Wo_call rfl (opc1 (a := v) Try.call40 rfl) (DrawLoopsCut_ok _ _ _ (h) (by assumption)) ?_; rintro u1 w1 ⟨x1, E1, hO1, hy1⟩; have hs1 := E1.size; refine Wo rfl (opv_assign (v := u1) rfl) ?_; refine Wo_nil ?_; refine W_seq ?_
    refine W_region rfl ?_; refine Wo rfl (opv_move (v := u1) rfl) ?_
  have hI : ∀ l, lcV x1 = l → (∀ (w : World) (pv : Value), ESl Ints w pv x1 → Does Try.prog 38 [pv] w (RetO w XR l)) ∧ (∀ (w : World) (pv : Value), ESl Ints w pv x1 → Does Try.prog 37 [pv] w (RetO w XR l)) := fun l e => by
    subst e
    exact ⟨fun w pv h => impl_LoopsCut_ok w pv x1 h, fun w pv h => spec_LoopsCut_ok w pv x1 h⟩
  by_cases hp : Pic x1
  · have hp5 := hp.2.1
    have hp1 := hp.1
    have hpx := cutV_pic hp
    obtain ⟨k1, k2⟩ := hI (cutV x1) (if_pos hp)
    have hXl := cutV_len (p := x1)
    have k3 : ∀ (w : World) (pv : Value), ESl Ints w pv (cutV x1) → Does Try.prog 36 [pv] w (Ret w (.bool true)) := fun w pv h => by
      have := impl_PictureOk_ok w pv _ h
      rw [decide_eq_true hpx] at this; exact this
    have k5 := same_rows (cutV x1)
    have hfx : (ints (faV (cutV x1))).length = (cutV x1).length := by
      have h1 := faV_len (cutV x1)
      have h2 : ¬ (ints (faV (cutV x1))).length < (cutV x1).length := fun hc => by
        obtain ⟨k, hk, hcb⟩ := (faV_full hpx).1 hc
        rw [hXl] at hk
        rw [cback_cut hp hk] at hcb; cases hcb
      omega
    have k6 : ∀ (w : World) (pv : Value), ESl Ints w pv (cutV x1) → Does Try.prog 25 [pv] w (RetO w XI (ints (faV (cutV x1)))) := fun w pv h => impl_FoundedAll_ok w pv _ h
    have k7 : ∀ (w : World) (pv : Value), ESl Ints w pv x1 → Does Try.prog 25 [pv] w (RetO w XI (ints (faV x1))) := fun w pv h => impl_FoundedAll_ok w pv _ h
    have hfl := faV_len x1
    have hfu := faV_full hp
    clear hI
    by_cases hfull : (ints (faV x1)).length < x1.length
    · focus
        have szE1 := E1.size; refine Wo_call rfl (opc1 (a := u1) Try.call38 rfl) (k1 _ _ ((Owned.read hO1))) ?_; rintro u2 w2 ⟨E2, hO2⟩; have hs2 := E2.size; refine Wo rfl (opv_assign (v := u2) rfl) ?_; refine Wo_nil ?_; refine W_seq ?_
        refine W_seq ?_; refine W_region rfl ?_; refine Wo rfl (opv_move (v := u2) rfl) ?_; refine Wo rfl (opv_move (v := u1) rfl) ?_; refine Wo_call rfl (opc1 (a := u1) Try.call37 rfl) (k2 _ _ ((Mono.mono E2 (Owned.read hO1)))) ?_
        rintro u3 w3 ⟨E3, hO3⟩; have hs3 := E3.size; refine Wo_call rfl (opc2 (a := u2) (b := u3) Try.call41 rfl rfl) (k5 _ _ _ ((Mono.mono E3 (Owned.read hO2))) ((Owned.read hO3))) ?_; rintro _ w4 ⟨rfl, E4⟩; have hs4 := E4.size
        refine Wo rfl (opv_not rfl) ?_; refine Wo_nil ?_; refine W_cond rfl (fun h2 => ?_) (fun h2 => ?_); contradiction; refine W_skip ?_; refine W_seq ?_; refine W_seq ?_; refine W_region rfl ?_; refine Wo rfl (opv_move (v := u2) rfl) ?_
        refine Wo rfl (opv_len Try.underlying22 rfl (Owned.read hO2)) ?_; refine Wo rfl (opv_eql rfl rfl) ?_; refine Wo_nil ?_; refine W_cond_dec rfl (fun h3 => ?_) (fun h3 => ?_); (exfalso; omega); refine W_skip ?_; refine W_seq ?_
        refine W_region rfl ?_; refine Wo rfl (opv_move (v := u2) rfl) ?_; refine Wo_call rfl (opc1 (a := u2) Try.call36 rfl) (k3 _ _ ((Mono.mono (E3.trans E4) (Owned.read hO2)))) ?_; rintro _ w5 ⟨rfl, E5⟩; have hs5 := E5.size
        refine Wo rfl (opv_move (v := .bool _) rfl) ?_; refine Wo rfl (opv_move (v := u2) rfl) ?_; refine Wo_call rfl (opc1 (a := u2) Try.call25 rfl) (k6 _ _ ((Mono.mono ((E3.trans E4).trans E5) (Owned.read hO2)))) ?_
        rintro u4 w6 ⟨E6, hO4⟩; have hs6 := E6.size; refine Wo rfl (opv_len Try.underlying24 rfl (Owned.read hO4)) ?_; refine Wo rfl (opv_move (v := u2) rfl) ?_; refine Wo rfl (opv_len Try.underlying22 rfl (Owned.read hO2)) ?_
        refine Wo rfl (opv_eql rfl rfl) ?_; refine Wo rfl (opv_pick_t (v := .bool _) rfl rfl) ?_; refine Wo_split_dec rfl (opv_move (v := .bool _) rfl) (fun h4 => ?_) (fun h4 => ?_); refine Wo rfl (opv_move (v := u1) rfl) ?_
        refine Wo_call rfl (opc1 (a := u1) Try.call25 rfl) (k7 _ _ ((Mono.mono ((((E2.trans E3).trans E4).trans E5).trans E6) (Owned.read hO1)))) ?_; rintro u5 w7 ⟨E7, hO5⟩; have hs7 := E7.size
        refine Wo rfl (opv_len Try.underlying24 rfl (Owned.read hO5)) ?_; refine Wo rfl (opv_move (v := u1) rfl) ?_; refine Wo rfl (opv_len Try.underlying22 rfl (Owned.read hO1)) ?_; refine Wo rfl (opv_lss rfl rfl) ?_
        refine Wo_split_dec rfl (opv_move (v := .bool _) rfl) (fun h5 => ?_) (fun h5 => ?_); refine Wo_skip rfl ?_; refine Wo_skip rfl ?_; refine Wo_skip rfl ?_; refine Wo rfl (opv_pick_t (v := .bool _) rfl rfl) ?_
        refine Wo rfl (opv_pick_t (v := .bool _) rfl rfl) ?_; refine Wo rfl (opv_assign (v := .bool _) rfl) ?_; refine Wo_nil ?_; refine W_ret ?_; exact ⟨rfl, ((((((E1.trans E2).trans E3).trans E4).trans E5).trans E6).trans E7)⟩
        (exfalso; omega); (exfalso; omega)
    · have hsame : cutV x1 = x1 := cut_same hp fun k hk => by
        cases hcb : cback x1 k with
        | false => rfl
        | true => exact absurd (hfu.2 ⟨k, hk, hcb⟩) hfull
      have k8 : ∀ (w : World) (v u : Value), ESl Ints w v (cutV x1) → ESl Ints w u x1 → Does Try.prog 41 [v, u] w (Ret w (.bool true)) := fun w v u h h' => same_rows (cutV x1) w v u h (by rw [hsame]; exact h')
      clear hsame
      focus
        have szE1 := E1.size; refine Wo_call rfl (opc1 (a := u1) Try.call38 rfl) (k1 _ _ ((Owned.read hO1))) ?_; rintro u2 w2 ⟨E2, hO2⟩; have hs2 := E2.size; refine Wo rfl (opv_assign (v := u2) rfl) ?_; refine Wo_nil ?_; refine W_seq ?_
        refine W_seq ?_; refine W_region rfl ?_; refine Wo rfl (opv_move (v := u2) rfl) ?_; refine Wo rfl (opv_move (v := u1) rfl) ?_; refine Wo_call rfl (opc1 (a := u1) Try.call37 rfl) (k2 _ _ ((Mono.mono E2 (Owned.read hO1)))) ?_
        rintro u3 w3 ⟨E3, hO3⟩; have hs3 := E3.size; refine Wo_call rfl (opc2 (a := u2) (b := u3) Try.call41 rfl rfl) (k5 _ _ _ ((Mono.mono E3 (Owned.read hO2))) ((Owned.read hO3))) ?_; rintro _ w4 ⟨rfl, E4⟩; have hs4 := E4.size
        refine Wo rfl (opv_not rfl) ?_; refine Wo_nil ?_; refine W_cond rfl (fun h2 => ?_) (fun h2 => ?_); contradiction; refine W_skip ?_; refine W_seq ?_; refine W_seq ?_; refine W_region rfl ?_; refine Wo rfl (opv_move (v := u2) rfl) ?_
        refine Wo rfl (opv_len Try.underlying22 rfl (Owned.read hO2)) ?_; refine Wo rfl (opv_eql rfl rfl) ?_; refine Wo_nil ?_; refine W_cond_dec rfl (fun h3 => ?_) (fun h3 => ?_); (exfalso; omega); refine W_skip ?_; refine W_seq ?_
        refine W_region rfl ?_; refine Wo rfl (opv_move (v := u2) rfl) ?_; refine Wo_call rfl (opc1 (a := u2) Try.call36 rfl) (k3 _ _ ((Mono.mono (E3.trans E4) (Owned.read hO2)))) ?_; rintro _ w5 ⟨rfl, E5⟩; have hs5 := E5.size
        refine Wo rfl (opv_move (v := .bool _) rfl) ?_; refine Wo rfl (opv_move (v := u2) rfl) ?_; refine Wo_call rfl (opc1 (a := u2) Try.call25 rfl) (k6 _ _ ((Mono.mono ((E3.trans E4).trans E5) (Owned.read hO2)))) ?_
        rintro u4 w6 ⟨E6, hO4⟩; have hs6 := E6.size; refine Wo rfl (opv_len Try.underlying24 rfl (Owned.read hO4)) ?_; refine Wo rfl (opv_move (v := u2) rfl) ?_; refine Wo rfl (opv_len Try.underlying22 rfl (Owned.read hO2)) ?_
        refine Wo rfl (opv_eql rfl rfl) ?_; refine Wo rfl (opv_pick_t (v := .bool _) rfl rfl) ?_; refine Wo_split_dec rfl (opv_move (v := .bool _) rfl) (fun h4 => ?_) (fun h4 => ?_); refine Wo rfl (opv_move (v := u1) rfl) ?_
        refine Wo_call rfl (opc1 (a := u1) Try.call25 rfl) (k7 _ _ ((Mono.mono ((((E2.trans E3).trans E4).trans E5).trans E6) (Owned.read hO1)))) ?_; rintro u5 w7 ⟨E7, hO5⟩; have hs7 := E7.size
        refine Wo rfl (opv_len Try.underlying24 rfl (Owned.read hO5)) ?_; refine Wo rfl (opv_move (v := u1) rfl) ?_; refine Wo rfl (opv_len Try.underlying22 rfl (Owned.read hO1)) ?_; refine Wo rfl (opv_lss rfl rfl) ?_
        refine Wo_split_dec rfl (opv_move (v := .bool _) rfl) (fun h5 => ?_) (fun h5 => ?_); (exfalso; omega); refine Wo rfl (opv_move (v := u2) rfl) ?_; refine Wo rfl (opv_move (v := u1) rfl) ?_
        refine Wo_call rfl (opc2 (a := u2) (b := u1) Try.call41 rfl rfl) (k8 _ _ _ ((Mono.mono ((((E3.trans E4).trans E5).trans E6).trans E7) (Owned.read hO2))) ((Mono.mono (((((E2.trans E3).trans E4).trans E5).trans E6).trans E7) (Owned.read hO1)))) ?_
        rintro _ w8 ⟨rfl, E8⟩; have hs8 := E8.size; refine Wo rfl (opv_pick_f (v := .bool _) rfl rfl) ?_; refine Wo rfl (opv_pick_t (v := .bool _) rfl rfl) ?_; refine Wo rfl (opv_assign (v := .bool _) rfl) ?_; refine Wo_nil ?_
        refine W_ret ?_; exact ⟨rfl, (((((((E1.trans E2).trans E3).trans E4).trans E5).trans E6).trans E7).trans E8)⟩; (exfalso; omega)
  · obtain ⟨k1, k2⟩ := hI [] (if_neg hp)
    have k5 := same_rows []
    have h00 : ([] : List (List Int)).length = 0 := rfl
    have k3 : ∀ (w : World) (pv : Value), ESl Ints w pv x1 → Does Try.prog 36 [pv] w (Ret w (.bool false)) := fun w pv h => by
      have := impl_PictureOk_ok w pv x1 h
      rw [decide_eq_false hp] at this; exact this
    clear hI
    focus
      have szE1 := E1.size; refine Wo_call rfl (opc1 (a := u1) Try.call38 rfl) (k1 _ _ ((Owned.read hO1))) ?_; rintro u2 w2 ⟨E2, hO2⟩; have hs2 := E2.size; refine Wo rfl (opv_assign (v := u2) rfl) ?_; refine Wo_nil ?_; refine W_seq ?_
      refine W_seq ?_; refine W_region rfl ?_; refine Wo rfl (opv_move (v := u2) rfl) ?_; refine Wo rfl (opv_move (v := u1) rfl) ?_; refine Wo_call rfl (opc1 (a := u1) Try.call37 rfl) (k2 _ _ ((Mono.mono E2 (Owned.read hO1)))) ?_
      rintro u3 w3 ⟨E3, hO3⟩; have hs3 := E3.size; refine Wo_call rfl (opc2 (a := u2) (b := u3) Try.call41 rfl rfl) (k5 _ _ _ ((Mono.mono E3 (Owned.read hO2))) ((Owned.read hO3))) ?_; rintro _ w4 ⟨rfl, E4⟩; have hs4 := E4.size
      refine Wo rfl (opv_not rfl) ?_; refine Wo_nil ?_; refine W_cond rfl (fun h2 => ?_) (fun h2 => ?_); contradiction; refine W_skip ?_; refine W_seq ?_; refine W_seq ?_; refine W_region rfl ?_; refine Wo rfl (opv_move (v := u2) rfl) ?_
      refine Wo rfl (opv_len Try.underlying22 rfl (Owned.read hO2)) ?_; refine Wo rfl (opv_eql rfl rfl) ?_; refine Wo_nil ?_; refine W_cond_dec rfl (fun h3 => ?_) (fun h3 => ?_); refine W_seq ?_; refine W_region rfl ?_
      refine Wo rfl (opv_move (v := u1) rfl) ?_; refine Wo_call rfl (opc1 (a := u1) Try.call36 rfl) (k3 _ _ ((Mono.mono ((E2.trans E3).trans E4) (Owned.read hO1)))) ?_; rintro _ w5 ⟨rfl, E5⟩; have hs5 := E5.size
      refine Wo rfl (opv_not rfl) ?_; refine Wo_split rfl (opv_move (v := .bool _) rfl) (fun h4 => ?_) (fun h4 => ?_); refine Wo_call rfl (opc0 Try.call29) (alive_ok _) ?_; rintro _ w6 ⟨rfl, E6⟩; have hs6 := E6.size
      refine Wo rfl (opv_pick_t (v := .bool _) rfl rfl) ?_; refine Wo rfl (opv_assign (v := .bool _) rfl) ?_; refine Wo_nil ?_; refine W_ret ?_; exact ⟨rfl, (((((E1.trans E2).trans E3).trans E4).trans E5).trans E6)⟩; contradiction
      contradiction

end Go.Proofs.Ythhaodjjfofogaa
