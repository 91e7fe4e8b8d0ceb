/- Walks: texts of journals; the law FnExactJournalText. -/
import Derived.Test.YtgphoihilheoeaaDoorHsWDdi
import Derived.Test.YtgphoihilheoeaaDoorHsSetD
namespace Go.Proofs.YtgphoihilheoeaaDoor
open Go.Hs
set_option maxRecDepth 10000
set_option maxHeartbeats 4000000
set_option linter.unusedVariables false
set_option linter.unusedSimpArgs false

theorem elD36 : ElD Tryd.prog 36 26 := ElD.of Tryd.underlying36 (by kernel_rfl) Tryd.sizeOf26 Tryd.zeroValue26

theorem szDeedS_ok (w : World) (v : Value) (l : List Deed) (h : ESD w v l) (hx : ∀ a ∈ l, a.text.length ≤ 9223372036854775807) (left : Int) (hl : 0 ≤ left ∧ left ≤ 1048576) :
    Does Tryd.prog 18 [v, .int .i64 left] w (RetX w (Value.int .i64) (fun z _ => z = -1 ∨ (0 ≤ z ∧ z ≤ 1048576 ∧ l.length ≤ 1048576 ∧ ∀ a ∈ l, a.text.length ≤ 1048576))) := by
  have hle := h.le
  refine fn_of_W1 Tryd.func18 rfl Tryd.results18 Tryd.ntmps18 rfl ?_
  focus
    refine W_seq ?_; refine W_region rfl ?_; refine Wo rfl (opv_assign (v := .int _ _) rfl) ?_; refine Wo_nil ?_; refine W_seq ?_; refine W_region rfl ?_; refine Wo rfl (opv_move (v := .int _ _) rfl) ?_
    refine Wo rfl (opv_move (v := v) rfl) ?_; refine Wo rfl (opv_lenD Tryd.underlying33 rfl h) ?_; refine Wo rfl (opv_sub rfl rfl (by omega)) ?_; refine Wo rfl (opv_assign (v := .int _ _) rfl) ?_; refine Wo_nil ?_; refine W_seq ?_
    refine W_seq ?_; refine W_region rfl ?_; refine Wo rfl (opv_move (v := .int _ _) rfl) ?_; refine Wo rfl (opv_lss rfl rfl) ?_; refine Wo_nil ?_; refine W_cond_dec rfl (fun h1 => ?_) (fun h1 => ?_); refine W_seq ?_
    refine W_region rfl ?_; refine Wo rfl (opv_assign (v := .int _ _) rfl) ?_; refine Wo_nil ?_; refine W_ret ?_; refine at_ret (v := .int _ _) rfl ?_; refine ⟨(Ext.refl _), _, rfl, ?_⟩; (try dsimp only); rotate_left; refine W_skip ?_
    refine W_seq ?_; refine W_seq ?_; refine W_region rfl ?_; refine Wo rfl (opv_assign (v := .int _ _) rfl) ?_; refine Wo_nil ?_; refine W_block ?_; rotate_left
  · exact .inl rfl
  refine W_loop [1, 4, 5, 12, 13, 14, 15, 16, 17, 18, 19, 20, 21, 22, 23, 24, 25] (fun ((k, z) : Nat × Int) => [(5, .int .i64 (k : Nat)), (1, .int .i64 z)]) (fun (k, z) w' => Ext w w' ∧ k ≤ l.length ∧ 0 ≤ z ∧ z ≤ 1048576 ∧ ∀ a ∈ l.take k, a.text.length ≤ 1048576) (fun x => l.length - x.1) (0, left - l.length) (by repeat (first | exact trivial | refine And.intro rfl ?_)) ?_ ?_
  · exact ⟨by first | assumption | exact Ext.refl _, Nat.zero_le _, by omega, by omega, by simp⟩
  rintro ⟨k, z⟩ ρj w2 ⟨E2, hk, hz0, hz1, hall⟩
  by_cases hkl : k < l.length
  · have hxk := hx l[k] (List.getElem_mem hkl)
    have kd : ∀ (w : World), Does Tryd.prog 11 [dv l[k], .int .i64 z] w (RetX w (Value.int .i64) (fun y _ => y = -1 ∨ (0 ≤ y ∧ y = z - l[k].text.length ∧ l[k].text.length ≤ 1048576))) := fun w => szDeed_ok w _ _ _ hxk z ⟨hz0, hz1⟩
    focus
      have szE2 := E2.size; refine W_seq ?_; refine W_seq ?_; refine W_region rfl ?_; refine Wo rfl (opv_move (v := .int _ _) rfl) ?_; refine Wo rfl (opv_move (v := v) rfl) ?_; refine Wo rfl (opv_lenD Tryd.underlying33 rfl h) ?_
      refine Wo rfl (opv_lss rfl rfl) ?_; refine Wo_nil ?_; refine W_cond_dec rfl (fun h2 => ?_) (fun h2 => ?_); refine W_skip ?_; refine W_seq ?_; refine W_block ?_; refine W_seq ?_; refine W_region rfl ?_
      refine Wo rfl (opv_move (v := v) rfl) ?_; refine Wo rfl (opv_move (v := .int _ _) rfl) ?_
      refine Wo_getD Tryd.underlying33 Tryd.sizeOf23 Tryd.isAgg23 Tryd.sizeOf23 rfl (fun _ => rfl) rfl h E2 rfl (by first | omega | (simp <;> omega)) ?_; rintro _; refine Wo rfl (opv_move (v := .int _ _) rfl) ?_
      refine Wo_call rfl (opc2 (a := .agg _) (b := .int _ _) Tryd.call11 rfl rfl) (kd _) ?_; rintro _ w1 ⟨E1, y1, rfl, hy1⟩; have hs1 := E1.size; refine Wo rfl (opv_assign (v := .int _ _) rfl) ?_; refine Wo_nil ?_; refine W_seq ?_
      refine W_region rfl ?_; refine Wo rfl (opv_move (v := .int _ _) rfl) ?_; refine Wo rfl (opv_lss rfl rfl) ?_; refine Wo_nil ?_; refine W_cond_dec rfl (fun h3 => ?_) (fun h3 => ?_); refine W_seq ?_; refine W_region rfl ?_
      refine Wo rfl (opv_assign (v := .int _ _) rfl) ?_; refine Wo_nil ?_; refine W_ret ?_; refine at_ret (v := .int _ _) rfl ?_; refine ⟨(E2.trans E1), _, rfl, ?_⟩; (try dsimp only); rotate_left; refine W_skip ?_; refine W_region rfl ?_
      refine Wo rfl (opv_move (v := .int _ _) rfl) ?_; refine Wo rfl (opv_add rfl rfl (by omega)) ?_; refine Wo rfl (opv_assign (v := .int _ _) rfl) ?_; refine Wo_nil ?_; rotate_left; (exfalso; omega)
    · exact .inl rfl
    · refine ⟨((k + 1, y1)), by repeat (first | exact trivial | refine And.intro rfl ?_), by repeat (first | with_reducible exact Same.refl | refine Same.upd rfl ?_ | refine Same.upds rfl ?_ | refine Same.mix rfl ?_), ?_, ?_⟩
      · refine ⟨by first | assumption | exact E2.trans (by assumption), by omega, by omega, by omega, fun a ha => ?_⟩
        rw [List.take_succ_eq_append_getElem hkl] at ha
        rcases List.mem_append.1 ha with ha | ha
        · exact hall a ha
        · obtain rfl := List.mem_singleton.1 ha; omega
      · simp only; omega
  · focus
      have szE2 := E2.size; refine W_seq ?_; refine W_seq ?_; refine W_region rfl ?_; refine Wo rfl (opv_move (v := .int _ _) rfl) ?_; refine Wo rfl (opv_move (v := v) rfl) ?_; refine Wo rfl (opv_lenD Tryd.underlying33 rfl h) ?_
      refine Wo rfl (opv_lss rfl rfl) ?_; refine Wo_nil ?_; refine W_cond_dec rfl (fun h2 => ?_) (fun h2 => ?_); (exfalso; omega); refine W_exit ?_; refine exitX_same ?_; refine W_seq ?_; refine W_region rfl ?_
      refine Wo rfl (opv_move (v := .int _ _) rfl) ?_; refine Wo rfl (opv_assign (v := .int _ _) rfl) ?_; refine Wo_nil ?_; refine W_ret ?_; refine at_ret (v := .int _ _) rfl ?_; refine ⟨E2, _, rfl, ?_⟩; (try dsimp only)
    refine .inr ⟨hz0, hz1, by omega, ?_⟩
    rwa [List.take_of_length_le (by omega)] at hall

theorem toDeedS_ok (w : World) (v : Value) (l : List Deed) (h : ESD w v l) (hl : l.length ≤ 1048576) (hx : ∀ a ∈ l, a.text.length ≤ 9223372036854775807) :
    Does Tryd.prog 20 [v] w (RetOD w 26 l) := by
  refine fn_of_W1 Tryd.func20 rfl Tryd.results20 Tryd.ntmps20 rfl ?_
  focus
    refine W_seq ?_; refine W_region rfl ?_; refine Wo rfl (opv_assign (v := .slice _ _ _) rfl) ?_; refine Wo_nil ?_; refine W_seq ?_; refine W_region rfl ?_; refine Wo rfl (opv_move (v := v) rfl) ?_
    refine Wo rfl (opv_lenD Tryd.underlying33 rfl h) ?_; refine Wo_makeD rfl elD36 rfl (by omega) ?_; rintro b1 w1 hb1 b1lt E1 hO1; have hs1 := E1.size; refine Wo rfl (opv_assign (v := .slice _ _ _) rfl) ?_; refine Wo_nil ?_
    refine W_seq ?_; refine W_seq ?_; refine W_region rfl ?_; refine Wo rfl (opv_assign (v := .int _ _) rfl) ?_; refine Wo_nil ?_; refine W_block ?_
  refine W_loop [4, 8, 9, 10, 11, 12, 13, 14, 15, 16, 17, 18, 19, 20, 21] (fun (k : Nat) => [(4, .int .i64 (k : Nat))]) (fun k w' => Ext w w' ∧ k ≤ l.length ∧ OD 26 w.heap.size w' (.slice (some ⟨b1, 0, none⟩) l.length l.length) (l.take k ++ List.replicate (l.length - k) ⟨0, [], 0⟩)) (fun k => l.length - k) 0 (by repeat (first | exact trivial | refine And.intro rfl ?_)) ?_ ?_
  · exact ⟨by first | assumption | exact Ext.refl _, Nat.zero_le _, by simpa using hO1⟩
  clear hO1
  rintro k ρj w2 ⟨E2, hk, hO1⟩
  by_cases hkl : k < l.length
  · have hxk := hx l[k] (List.getElem_mem hkl)
    have hlen : (l.take k ++ List.replicate (l.length - k) (⟨0, [], 0⟩ : Deed)).length = l.length := by simp; omega
    have kd : ∀ (w : World), Does Tryd.prog 13 [dv l[k]] w (Ret w (dv l[k])) := fun w => toDeed_ok w _ _ _
    focus
      have szE2 := E2.size; have szE1 := E1.size; refine W_seq ?_; refine W_seq ?_; refine W_region rfl ?_; refine Wo rfl (opv_move (v := .int _ _) rfl) ?_; refine Wo rfl (opv_move (v := v) rfl) ?_
      refine Wo rfl (opv_lenD Tryd.underlying33 rfl h) ?_; refine Wo rfl (opv_lss rfl rfl) ?_; refine Wo_nil ?_; refine W_cond_dec rfl (fun h1 => ?_) (fun h1 => ?_); refine W_skip ?_; refine W_seq ?_; refine W_block ?_
      refine W_region rfl ?_; refine Wo rfl (opv_move (v := .slice _ _ _) rfl) ?_; refine Wo rfl (opv_move (v := .int _ _) rfl) ?_; refine Wo rfl (opv_move (v := v) rfl) ?_; refine Wo rfl (opv_move (v := .int _ _) rfl) ?_
      refine Wo_getD Tryd.underlying33 Tryd.sizeOf23 Tryd.isAgg23 Tryd.sizeOf23 rfl (fun _ => rfl) rfl h E2 rfl (by first | omega | (simp <;> omega)) ?_; rintro _; refine Wo_call rfl (opc1 (a := .agg _) Tryd.call13 rfl) (kd _) ?_
      rintro _ w3 ⟨rfl, E3⟩; have hs2 := E3.size; refine Wo rfl (opv_indexAddr3 Tryd.underlying36 Tryd.sizeOf26 rfl rfl (by omega)) ?_
      refine Wo_stDA (a := ⟨_, _, _⟩) rfl Tryd.sizeOf26 rfl rfl (hO1.ext E3) (by first | omega | (simp <;> omega)) (by first | omega | (simp <;> omega)) ?_; rintro w4 hO1 On1 K1 hz1; have E4 := On1.ext1 (E2.trans E3) (by omega)
      have hs3 := On1.size; refine Wo_nil ?_; refine W_region rfl ?_; refine Wo rfl (opv_move (v := .int _ _) rfl) ?_; refine Wo rfl (opv_add rfl rfl (by omega)) ?_; refine Wo rfl (opv_assign (v := .int _ _) rfl) ?_; refine Wo_nil ?_
      rotate_left; (exfalso; omega)
    refine ⟨(k + 1), by repeat (first | exact trivial | refine And.intro rfl ?_), by repeat (first | with_reducible exact Same.refl | refine Same.upd rfl ?_ | refine Same.upds rfl ?_ | refine Same.mix rfl ?_), ?_, ?_⟩
    · refine ⟨by assumption, by omega, ?_⟩
      have e : (l.take k ++ List.replicate (l.length - k) (⟨0, [], 0⟩ : Deed)).set k l[k] = l.take (k + 1) ++ List.replicate (l.length - (k + 1)) ⟨0, [], 0⟩ := by
        rw [List.set_append_right _ _ (by simp; omega)]
        have : k - (l.take k).length = 0 := by simp; omega
        rw [this, List.take_succ_eq_append_getElem hkl, show l.length - k = (l.length - (k + 1)) + 1 by omega, List.replicate_succ, List.set_cons_zero, List.append_assoc]
        rfl
      rw [← e]; assumption
    · omega
  · obtain rfl : k = l.length := by omega
    focus
      have szE2 := E2.size; have szE1 := E1.size; refine W_seq ?_; refine W_seq ?_; refine W_region rfl ?_; refine Wo rfl (opv_move (v := .int _ _) rfl) ?_; refine Wo rfl (opv_move (v := v) rfl) ?_
      refine Wo rfl (opv_lenD Tryd.underlying33 rfl h) ?_; refine Wo rfl (opv_lss rfl rfl) ?_; refine Wo_nil ?_; refine W_cond_dec rfl (fun h1 => ?_) (fun h1 => ?_); (exfalso; omega); refine W_exit ?_; refine exitX_same ?_
      refine W_seq ?_; refine W_region rfl ?_; refine Wo rfl (opv_move (v := .slice _ _ _) rfl) ?_; refine Wo rfl (opv_assign (v := .slice _ _ _) rfl) ?_; refine Wo_nil ?_; refine W_ret ?_; refine at_ret (v := .slice _ _ _) rfl ?_
    refine ⟨by assumption, ?_⟩
    simpa using hO1

theorem eqDeedS_ok (w : World) (v u : Value) (l m : List Deed) (h : ESD w v l) (h' : ESD w u m) :
    Does Tryd.prog 22 [v, u] w (Ret w (.bool (decide (l = m)))) := by
  have hle := h.le
  have hle' := h'.le
  refine fn_of_W1 Tryd.func22 rfl Tryd.results22 Tryd.ntmps22 rfl ?_
  focus
    refine W_seq ?_; refine W_region rfl ?_; refine Wo rfl (opv_assign (v := .bool _) rfl) ?_; refine Wo_nil ?_; refine W_seq ?_; refine W_seq ?_; refine W_region rfl ?_; refine Wo rfl (opv_move (v := v) rfl) ?_
    refine Wo rfl (opv_lenD Tryd.underlying36 rfl h) ?_; refine Wo rfl (opv_move (v := u) rfl) ?_; refine Wo rfl (opv_lenD Tryd.underlying36 rfl h') ?_; refine Wo rfl (opv_neq rfl rfl) ?_; refine Wo_nil ?_
    refine W_cond_ndec rfl (fun h1 => ?_) (fun h1 => ?_); refine W_seq ?_; refine W_region rfl ?_; refine Wo rfl (opv_assign (v := .bool _) rfl) ?_; refine Wo_nil ?_; refine W_ret ?_; refine at_ret (v := .bool _) rfl ?_
    refine ⟨congrArg Value.bool ?_, (Ext.refl _)⟩; rotate_left; refine W_skip ?_; refine W_seq ?_; refine W_seq ?_; refine W_region rfl ?_; refine Wo rfl (opv_assign (v := .int _ _) rfl) ?_; refine Wo_nil ?_; refine W_block ?_
    rotate_left
  · exact (decide_eq_false (fun e => by have := congrArg List.length e; omega)).symm
  refine W_loop [4, 5, 11, 12, 13, 14, 15, 16, 17, 18, 19, 20, 21, 22, 23, 24, 25, 26] (fun (k : Nat) => [(5, .int .i64 (k : Nat))]) (fun k w' => Ext w w' ∧ k ≤ l.length ∧ l.take k = m.take k) (fun k => l.length - k) 0 (by repeat (first | exact trivial | refine And.intro rfl ?_)) ?_ ?_
  · exact ⟨by first | assumption | exact Ext.refl _, Nat.zero_le _, by simp⟩
  rintro k ρj w2 ⟨E2, hk, heq⟩
  by_cases hkl : k < l.length
  · have hkm : k < m.length := by omega
    have kd : ∀ (w : World), Does Tryd.prog 17 [dv l[k], dv m[k]] w (Ret w (.bool (decide (l[k] = m[k])))) := fun w => eqDeed_ok w _ _ _ _ _ _
    by_cases he : l[k] = m[k]
    · rw [decide_eq_true he] at kd
      focus
        have szE2 := E2.size; refine W_seq ?_; refine W_seq ?_; refine W_region rfl ?_; refine Wo rfl (opv_move (v := .int _ _) rfl) ?_; refine Wo rfl (opv_move (v := v) rfl) ?_; refine Wo rfl (opv_lenD Tryd.underlying36 rfl h) ?_
        refine Wo rfl (opv_lss rfl rfl) ?_; refine Wo_nil ?_; refine W_cond_dec rfl (fun h2 => ?_) (fun h2 => ?_); refine W_skip ?_; refine W_seq ?_; refine W_block ?_; refine W_seq ?_; refine W_draw mixed (by kernel_rfl) rfl ?_
        refine Wq_o rfl (fun _ _ => opv_move (v := v) rfl) ?_; refine Wq_o rfl (fun _ _ => opv_move (v := .int _ _) rfl) ?_
        refine Wq_getD Tryd.underlying36 Tryd.sizeOf26 Tryd.isAgg26 Tryd.sizeOf26 rfl (fun _ => rfl) rfl h E2 rfl (by first | omega | (simp <;> omega)) ?_; rintro _; refine Wq_o rfl (fun _ _ => opv_move (v := u) rfl) ?_
        refine Wq_o rfl (fun _ _ => opv_move (v := .int _ _) rfl) ?_; refine Wq_getD Tryd.underlying36 Tryd.sizeOf26 Tryd.isAgg26 Tryd.sizeOf26 rfl (fun _ => rfl) rfl h' E2 rfl (by first | omega | (simp <;> omega)) ?_; rintro _
        refine Wq_call rfl (fun _ _ => opc2 (a := .agg _) (b := .agg _) Tryd.call17 rfl rfl) (fun w' hw' => (kd _)) ?_; refine Wq_o rfl (fun _ _ => opv_not rfl) ?_; refine Wq_nil (fun w1 E1 => ?_); have hs1 := E1.size
        refine W_cond rfl (fun h3 => ?_) (fun h3 => ?_); contradiction; refine W_skip ?_; refine W_region rfl ?_; refine Wo rfl (opv_move (v := .int _ _) rfl) ?_; refine Wo rfl (opv_add rfl rfl (by omega)) ?_
        refine Wo rfl (opv_assign (v := .int _ _) rfl) ?_; refine Wo_nil ?_; rotate_left; (exfalso; omega)
      refine ⟨(k + 1), by repeat (first | exact trivial | refine And.intro rfl ?_), by repeat (first | with_reducible exact Same.refl | refine Same.upd rfl ?_ | refine Same.upds rfl ?_ | refine Same.mix rfl ?_), ?_, ?_⟩
      · refine ⟨by first | assumption | exact E2.trans (by assumption), by omega, ?_⟩
        rw [List.take_succ_eq_append_getElem hkl, List.take_succ_eq_append_getElem hkm, heq, he]
      · omega
    · rw [decide_eq_false he] at kd
      focus
        have szE2 := E2.size; refine W_seq ?_; refine W_seq ?_; refine W_region rfl ?_; refine Wo rfl (opv_move (v := .int _ _) rfl) ?_; refine Wo rfl (opv_move (v := v) rfl) ?_; refine Wo rfl (opv_lenD Tryd.underlying36 rfl h) ?_
        refine Wo rfl (opv_lss rfl rfl) ?_; refine Wo_nil ?_; refine W_cond_dec rfl (fun h2 => ?_) (fun h2 => ?_); refine W_skip ?_; refine W_seq ?_; refine W_block ?_; refine W_seq ?_; refine W_draw mixed (by kernel_rfl) rfl ?_
        refine Wq_o rfl (fun _ _ => opv_move (v := v) rfl) ?_; refine Wq_o rfl (fun _ _ => opv_move (v := .int _ _) rfl) ?_
        refine Wq_getD Tryd.underlying36 Tryd.sizeOf26 Tryd.isAgg26 Tryd.sizeOf26 rfl (fun _ => rfl) rfl h E2 rfl (by first | omega | (simp <;> omega)) ?_; rintro _; refine Wq_o rfl (fun _ _ => opv_move (v := u) rfl) ?_
        refine Wq_o rfl (fun _ _ => opv_move (v := .int _ _) rfl) ?_; refine Wq_getD Tryd.underlying36 Tryd.sizeOf26 Tryd.isAgg26 Tryd.sizeOf26 rfl (fun _ => rfl) rfl h' E2 rfl (by first | omega | (simp <;> omega)) ?_; rintro _
        refine Wq_call rfl (fun _ _ => opc2 (a := .agg _) (b := .agg _) Tryd.call17 rfl rfl) (fun w' hw' => (kd _)) ?_; refine Wq_o rfl (fun _ _ => opv_not rfl) ?_; refine Wq_nil (fun w1 E1 => ?_); have hs1 := E1.size
        refine W_cond rfl (fun h3 => ?_) (fun h3 => ?_); refine W_seq ?_; refine W_region rfl ?_; refine Wo rfl (opv_assign (v := .bool _) rfl) ?_; refine Wo_nil ?_; refine W_ret ?_; refine at_ret (v := .bool _) rfl ?_
        refine ⟨congrArg Value.bool ?_, (E2.trans E1)⟩; rotate_left; contradiction; (exfalso; omega)
      exact (decide_eq_false (fun e => he (by subst e; rfl))).symm
  · focus
      have szE2 := E2.size; refine W_seq ?_; refine W_seq ?_; refine W_region rfl ?_; refine Wo rfl (opv_move (v := .int _ _) rfl) ?_; refine Wo rfl (opv_move (v := v) rfl) ?_; refine Wo rfl (opv_lenD Tryd.underlying36 rfl h) ?_
      refine Wo rfl (opv_lss rfl rfl) ?_; refine Wo_nil ?_; refine W_cond_dec rfl (fun h2 => ?_) (fun h2 => ?_); (exfalso; omega); refine W_exit ?_; refine exitX_same ?_; refine W_seq ?_; refine W_region rfl ?_
      refine Wo rfl (opv_assign (v := .bool _) rfl) ?_; refine Wo_nil ?_; refine W_ret ?_; refine at_ret (v := .bool _) rfl ?_; refine ⟨congrArg Value.bool ?_, E2⟩
    refine (decide_eq_true ?_).symm
    have e1 : l.take k = l := List.take_of_length_le (by omega)
    have e2 : m.take k = m := List.take_of_length_le (by omega)
    rw [e1, e2] at heq
    exact heq

theorem jtV_step {l : List Deed} {k : Nat} (hk : k < l.length) : (l.take (k + 1)).flatMap (fun a => dtV a ++ [10]) = (l.take k).flatMap (fun a => dtV a ++ [10]) ++ dtV l[k] ++ [10] := by
  rw [List.take_succ_eq_append_getElem hk, List.flatMap_append]; simp
theorem jtV_no {l : List Deed} {k : Nat} (hk : k < l.length) (h : dtV l[k] = []) : jtV l = [] := by
  unfold jtV
  exact if_neg fun h2 => h2 _ (List.getElem_mem hk) h
theorem jtV_yes {l : List Deed} {k : Nat} (hk : l.length ≤ k) (h : ∀ a ∈ l.take k, dtV a ≠ []) : jtV l = (l.take k).flatMap (fun a => dtV a ++ [10]) := by
  rw [List.take_of_length_le hk] at h ⊢
  exact if_pos h
theorem spec_JournalText_ok (w : World) (v : Value) (l : List Deed) (h : ESD w v l) (hl : l.length ≤ 1048576) (hx : ∀ a ∈ l, a.text.length ≤ 1048576) :
    Does Tryd.prog 19 [v] w (Ret w (str (jtV l))) := by
  refine fn_of_W1 Tryd.func19 rfl Tryd.results19 Tryd.ntmps19 rfl ?_
  focus
    refine W_seq ?_; refine W_region rfl ?_; refine Wo rfl (opv_assign (v := .string _) rfl) ?_; refine Wo_nil ?_; refine W_seq ?_; refine W_region rfl ?_; refine Wo rfl (opv_assign (v := .string _) rfl) ?_; refine Wo_nil ?_
    refine W_seq ?_; refine W_seq ?_; refine W_region rfl ?_; refine Wo rfl (opv_assign (v := .int _ _) rfl) ?_; refine Wo_nil ?_; refine W_block ?_
  refine W_loop [2, 3, 4, 5, 6, 7, 8, 9, 10, 11, 12, 13, 14, 15, 16, 17, 18, 19, 20, 21, 22, 23, 24] (fun ((k, o) : Nat × List UInt8) => [(4, .int .i64 (k : Nat)), (3, str o)]) (fun (k, o) w' => Ext w w' ∧ k ≤ l.length ∧ o.length ≤ 211 * k ∧ o = (l.take k).flatMap (fun a => dtV a ++ [10]) ∧ ∀ a ∈ l.take k, dtV a ≠ []) (fun x => l.length - x.1) (0, []) (by repeat (first | exact trivial | refine And.intro rfl ?_)) ?_ ?_
  · exact ⟨by first | assumption | exact Ext.refl _, Nat.zero_le _, by simp, by simp, by simp⟩
  rintro ⟨k, o⟩ ρj w2 ⟨E2, hk, ho, heq, hne⟩
  by_cases hkl : k < l.length
  · have hxk := hx l[k] (List.getElem_mem hkl)
    have hdl := dtV_len l[k]
    have kd : ∀ (w : World), Does Tryd.prog 12 [dv l[k]] w (Ret w (str (dtV l[k]))) := fun w => spec_DeedText_ok w _ _ _ hxk
    focus
      have szE2 := E2.size; refine W_seq ?_; refine W_seq ?_; refine W_region rfl ?_; refine Wo rfl (opv_move (v := .int _ _) rfl) ?_; refine Wo rfl (opv_move (v := v) rfl) ?_; refine Wo rfl (opv_lenD Tryd.underlying36 rfl h) ?_
      refine Wo rfl (opv_lss rfl rfl) ?_; refine Wo_nil ?_; refine W_cond_dec rfl (fun h1 => ?_) (fun h1 => ?_); refine W_skip ?_; refine W_seq ?_; refine W_block ?_; refine W_seq ?_; refine W_seq ?_; refine W_region rfl ?_
      refine Wo rfl (opv_move (v := v) rfl) ?_; refine Wo rfl (opv_move (v := .int _ _) rfl) ?_
      refine Wo_getD Tryd.underlying36 Tryd.sizeOf26 Tryd.isAgg26 Tryd.sizeOf26 rfl (fun _ => rfl) rfl h E2 rfl (by first | omega | (simp <;> omega)) ?_; rintro _; refine Wo_call rfl (opc1 (a := .agg _) Tryd.call12 rfl) (kd _) ?_
      rintro _ w1 ⟨rfl, E1⟩; have hs1 := E1.size; refine Wo rfl (opv_eql_str rfl rfl) ?_; refine Wo_nil ?_; refine W_cond_dec rfl (fun h2 => ?_) (fun h2 => ?_); refine W_seq ?_; refine W_region rfl ?_
      refine Wo rfl (opv_assign (v := .string _) rfl) ?_; refine Wo_nil ?_; refine W_ret ?_; refine at_ret (v := .string _) rfl ?_; refine ⟨congrArg str ?_, (E2.trans E1)⟩; rotate_left; refine W_skip ?_; refine W_region rfl ?_
      refine Wo rfl (opv_move (v := .string _) rfl) ?_; refine Wo rfl (opv_move (v := v) rfl) ?_; refine Wo rfl (opv_move (v := .int _ _) rfl) ?_
      refine Wo_getD Tryd.underlying36 Tryd.sizeOf26 Tryd.isAgg26 Tryd.sizeOf26 rfl (fun _ => rfl) rfl h (E2.trans E1) rfl (by first | omega | (simp <;> omega)) ?_; rintro _
      refine Wo_call rfl (opc1 (a := .agg _) Tryd.call12 rfl) (kd _) ?_; rintro _ w3 ⟨rfl, E3⟩; have hs2 := E3.size; refine Wo rfl (opv_add_str rfl rfl (by omega)) ?_; refine Wo rfl (opv_add_str rfl rfl (by simp <;> omega)) ?_
      refine Wo rfl (opv_assign (v := .string _) rfl) ?_; refine Wo_nil ?_; refine W_region rfl ?_; refine Wo rfl (opv_move (v := .int _ _) rfl) ?_; refine Wo rfl (opv_add rfl rfl (by omega)) ?_
      refine Wo rfl (opv_assign (v := .int _ _) rfl) ?_; refine Wo_nil ?_; rotate_left; (exfalso; omega)
    · rw [jtV_no hkl (by assumption)]
    · refine ⟨((k + 1, o ++ dtV l[k] ++ [10])), by repeat (first | exact trivial | refine And.intro rfl ?_), by repeat (first | with_reducible exact Same.refl | refine Same.upd rfl ?_ | refine Same.upds rfl ?_ | refine Same.mix rfl ?_), ?_, ?_⟩
      · refine ⟨by first | assumption | exact E2.trans (by first | assumption | exact Ext.trans (by assumption) (by assumption)), by omega, by simp; omega, by rw [jtV_step hkl, heq], fun a ha => ?_⟩
        rw [List.take_succ_eq_append_getElem hkl] at ha
        rcases List.mem_append.1 ha with ha | ha
        · exact hne a ha
        · obtain rfl := List.mem_singleton.1 ha; assumption
      · simp only; omega
  · focus
      have szE2 := E2.size; refine W_seq ?_; refine W_seq ?_; refine W_region rfl ?_; refine Wo rfl (opv_move (v := .int _ _) rfl) ?_; refine Wo rfl (opv_move (v := v) rfl) ?_; refine Wo rfl (opv_lenD Tryd.underlying36 rfl h) ?_
      refine Wo rfl (opv_lss rfl rfl) ?_; refine Wo_nil ?_; refine W_cond_dec rfl (fun h1 => ?_) (fun h1 => ?_); (exfalso; omega); refine W_exit ?_; refine exitX_same ?_; refine W_seq ?_; refine W_region rfl ?_
      refine Wo rfl (opv_move (v := .string _) rfl) ?_; refine Wo rfl (opv_assign (v := .string _) rfl) ?_; refine Wo_nil ?_; refine W_ret ?_; refine at_ret (v := .string _) rfl ?_; refine ⟨congrArg str ?_, E2⟩
    rw [jtV_yes (by omega) hne, heq]

theorem impl_JournalText_ok (w : World) (v : Value) (l : List Deed) (hM : EMx gMx w (.bool true) ()) (h : ESD w v l) (hl : l.length ≤ 1048576) (hx : ∀ a ∈ l, a.text.length ≤ 1048576) :
    Does Tryd.prog 21 [v] w (Ret w (str (jtV l))) := by
  refine fn_of_W1 Tryd.func21 rfl Tryd.results21 Tryd.ntmps21 rfl ?_
  focus
    refine W_seq ?_; refine W_region rfl ?_; refine Wo rfl (opv_assign (v := .string _) rfl) ?_; refine Wo_nil ?_; refine W_seq ?_; refine W_region rfl ?_; refine Wo rfl (opv_assign (v := .string _) rfl) ?_; refine Wo_nil ?_
    refine W_seq ?_; refine W_seq ?_; refine W_region rfl ?_; refine Wo rfl (opv_move (v := v) rfl) ?_; refine Wo rfl (opv_lenD Tryd.underlying36 rfl h) ?_; refine Wo rfl (opv_move (v := .int _ _) rfl) ?_; refine Wo_nil ?_
    refine W_block ?_
  refine W_loop [2, 3, 5, 6, 9, 10, 11, 12, 13, 14, 15, 16, 17, 18, 19, 20, 21] (fun ((k, o) : Nat × List UInt8) => [(9, .int .i64 (k : Nat)), (3, str o)]) (fun (k, o) w' => Ext w w' ∧ k ≤ l.length ∧ o.length ≤ 211 * k ∧ o = (l.take k).flatMap (fun a => dtV a ++ [10]) ∧ ∀ a ∈ l.take k, dtV a ≠ []) (fun x => l.length - x.1) (0, []) (by repeat (first | exact trivial | refine And.intro rfl ?_)) ?_ ?_
  · exact ⟨by first | assumption | exact Ext.refl _, Nat.zero_le _, by simp, by simp, by simp⟩
  rintro ⟨k, o⟩ ρj w2 ⟨E2, hk, ho, heq, hne⟩
  by_cases hkl : k < l.length
  · have hxk := hx l[k] (List.getElem_mem hkl)
    have hdl := dtV_len l[k]
    have kd : ∀ (w : World), EMx gMx w (.bool true) () → Does Tryd.prog 44 [dv l[k]] w (Ret w (str (dtV l[k]))) := fun w hM => impl_deedText_ok w _ _ _ hM hxk
    focus
      have szE2 := E2.size; refine W_seq ?_; refine W_region rfl ?_; refine Wo rfl (opv_lss rfl rfl) ?_; refine Wo_nil ?_; refine W_seq ?_; refine W_cond_dec rfl (fun h1 => ?_) (fun h1 => ?_); refine W_skip ?_; refine W_seq ?_
      refine W_block ?_; refine W_seq ?_; refine W_region rfl ?_; refine Wo_getD Tryd.underlying36 Tryd.sizeOf26 Tryd.isAgg26 Tryd.sizeOf26 rfl (fun _ => rfl) rfl h E2 rfl (by first | omega | (simp <;> omega)) ?_; rintro _
      refine Wo_allocN rfl flat26 ?_; rintro b1 w1 hb1 E1 hB1; have hlb1 := hB1.lt; have hs1 := E1.size
      refine Wo_st3 rfl Tryd.sizeOf26 rfl rfl (by first | rfl | assumption) (by first | rfl | assumption) (by first | rfl | assumption) hB1 (by omega) (E2.trans E1) ?_; rintro w3 E3 hB1 K1 hz1
      have E4 := E1.wroteAt (E2.trans E1) E3 K1 hz1 (by omega); have szE4 := E4.size; refine Wo_nil ?_; refine W_seq ?_; refine W_region rfl ?_; refine Wo (v := .agg _) rfl (opv_load3 Tryd.isAgg26 Tryd.sizeOf26 rfl hB1) ?_
      refine Wo_call rfl (opc1 (a := .agg _) Tryd.call44 rfl) (kd _ ((Mono.mono E3 hM))) ?_; rintro _ w4 ⟨rfl, E5⟩; have hs2 := E5.size; refine Wo rfl (opv_assign (v := .string _) rfl) ?_; refine Wo_nil ?_; refine W_seq ?_
      refine W_seq ?_; refine W_region rfl ?_; refine Wo rfl (opv_move (v := .string _) rfl) ?_; refine Wo rfl (opv_eql_str rfl rfl) ?_; refine Wo_nil ?_; refine W_cond_dec rfl (fun h2 => ?_) (fun h2 => ?_); refine W_seq ?_
      refine W_region rfl ?_; refine Wo rfl (opv_assign (v := .string _) rfl) ?_; refine Wo_nil ?_; refine W_ret ?_; refine at_ret (v := .string _) rfl ?_; refine ⟨congrArg str ?_, (E3.trans E5)⟩; rotate_left; refine W_skip ?_
      refine W_region rfl ?_; refine Wo rfl (opv_move (v := .string _) rfl) ?_; refine Wo rfl (opv_move (v := .string _) rfl) ?_; refine Wo rfl (opv_add_str rfl rfl (by simp <;> omega)) ?_
      refine Wo rfl (opv_add_str rfl rfl (by simp <;> omega)) ?_; refine Wo rfl (opv_assign (v := .string _) rfl) ?_; refine Wo_nil ?_; refine W_region rfl ?_; refine Wo rfl (opv_add rfl rfl (by omega)) ?_
      refine Wo rfl (opv_move (v := .int _ _) rfl) ?_; refine Wo_nil ?_; rotate_left; (exfalso; omega)
    · rw [jtV_no hkl (by assumption)]
    · refine ⟨((k + 1, o ++ (dtV l[k] ++ [10]))), by repeat (first | exact trivial | refine And.intro rfl ?_), by repeat (first | with_reducible exact Same.refl | refine Same.upd rfl ?_ | refine Same.upds rfl ?_ | refine Same.mix rfl ?_), ?_, ?_⟩
      · refine ⟨by first | assumption | exact E2.trans (by first | assumption | exact Ext.trans (by assumption) (by assumption)), by omega, by simp; omega, by rw [jtV_step hkl, heq]; simp, fun a ha => ?_⟩
        rw [List.take_succ_eq_append_getElem hkl] at ha
        rcases List.mem_append.1 ha with ha | ha
        · exact hne a ha
        · obtain rfl := List.mem_singleton.1 ha; assumption
      · simp only; omega
  · focus
      have szE2 := E2.size; refine W_seq ?_; refine W_region rfl ?_; refine Wo rfl (opv_lss rfl rfl) ?_; refine Wo_nil ?_; refine W_seq ?_; refine W_cond_dec rfl (fun h1 => ?_) (fun h1 => ?_); (exfalso; omega); refine W_exit ?_
      refine exitX_same ?_; refine W_seq ?_; refine W_region rfl ?_; refine Wo rfl (opv_move (v := .string _) rfl) ?_; refine Wo rfl (opv_assign (v := .string _) rfl) ?_; refine Wo_nil ?_; refine W_ret ?_
      refine at_ret (v := .string _) rfl ?_; refine ⟨congrArg str ?_, E2⟩
    rw [jtV_yes (by omega) hne, heq]

theorem ESD_text {w : World} {v : Value} {l : List Deed} (h : ESD w v l) : ∀ a ∈ l, a.text.length ≤ 9223372036854775807 := by
  obtain ⟨a, c, rfl, h1, rfl | ⟨b, o, rfl, h2⟩⟩ := h
  · intro a h; cases h
  · intro a h
    obtain ⟨i, hi, rfl⟩ := List.mem_iff_getElem.1 h
    exact (h2 i hi).2.2.2
theorem FnExactJournalText_walk (w : World) (hM : EMx gMx w (.bool true) ()) (v : Value) (l : List Deed) (h : ESD w v l) :
    Does Tryd.prog 5 [v] w (Ret w (.bool true)) := by
  have hx := ESD_text h
  have k0 : ∀ (w : World) (v : Value), ESD w v l → Does Tryd.prog 18 [v, .int .i64 1048576] w (RetX w (Value.int .i64) (fun z _ => z = -1 ∨ (0 ≤ z ∧ z ≤ 1048576 ∧ l.length ≤ 1048576 ∧ ∀ a ∈ l, a.text.length ≤ 1048576))) := fun w v h => szDeedS_ok w v l h hx _ (by decide)
  refine fn_of_W1 Tryd.func5 rfl Tryd.results5 Tryd.ntmps5 rfl ?_
  focus
    refine W_seq ?_; refine W_region rfl ?_; refine Wo rfl (opv_assign (v := .bool _) rfl) ?_; refine Wo_nil ?_; refine W_seq ?_; refine W_region rfl ?_; refine Wo rfl (opv_assign (v := .int _ _) rfl) ?_; refine Wo_nil ?_
    refine W_seq ?_; refine W_region rfl ?_; refine Wo rfl (opv_move (v := v) rfl) ?_; refine Wo rfl (opv_move (v := .int _ _) rfl) ?_; refine Wo_call rfl (opc2 (a := v) (b := .int _ _) Tryd.call18 rfl rfl) (k0 _ _ (h)) ?_
    rintro _ w1 ⟨E1, y1, rfl, hy1⟩; have hs1 := E1.size; refine Wo rfl (opv_assign (v := .int _ _) rfl) ?_; refine Wo_nil ?_; refine W_seq ?_; refine W_seq ?_; refine W_region rfl ?_; refine Wo rfl (opv_move (v := .int _ _) rfl) ?_
    refine Wo rfl (opv_lss rfl rfl) ?_; refine Wo_nil ?_; refine W_cond_dec rfl (fun h1 => ?_) (fun h1 => ?_); refine W_seq ?_; refine W_region rfl ?_; refine Wo rfl (opv_assign (v := .bool _) rfl) ?_; refine Wo_nil ?_; refine W_ret ?_
    exact ⟨rfl, E1⟩; refine W_skip ?_; refine W_seq ?_; refine W_region rfl ?_; refine Wo rfl (opv_move (v := v) rfl) ?_
  rcases hy1 with h1 | ⟨h1, h2, h3, h4⟩
  · omega
  have k1 : ∀ (w : World) (v : Value), ESD w v l → Does Tryd.prog 20 [v] w (RetOD w 26 l) := fun w v h => toDeedS_ok w v l h h3 hx
  have k2 : ∀ (w : World) (v : Value), ESD w v l → Does Tryd.prog 19 [v] w (Ret w (str (jtV l))) := fun w v h => spec_JournalText_ok w v l h h3 h4
  have k3 : ∀ (w : World) (v : Value), EMx gMx w (.bool true) () → ESD w v l → Does Tryd.prog 21 [v] w (Ret w (str (jtV l))) := fun w v hM h => impl_JournalText_ok w v l hM h h3 h4
  have k4 : ∀ (w : World) (v u : Value), ESD w v l → ESD w u l → Does Tryd.prog 22 [v, u] w (Ret w (.bool true)) := fun w v u h h' => by
    have := eqDeedS_ok w v u l l h h'
    rwa [decide_eq_true rfl] at this
  focus
    have szE1 := E1.size; refine Wo_call rfl (opc1 (a := v) Tryd.call20 rfl) (k1 _ _ ((Mono.mono E1 h))) ?_; rintro u1 w2 ⟨E2, hO1⟩; have hs2 := E2.size; refine Wo_call rfl (opc1 (a := u1) Tryd.call19 rfl) (k2 _ _ ((OD.read hO1))) ?_
    rintro _ w3 ⟨rfl, E3⟩; have hs3 := E3.size; refine Wo rfl (opv_assign (v := .string _) rfl) ?_; refine Wo_nil ?_; refine W_seq ?_; refine W_region rfl ?_; refine Wo rfl (opv_move (v := v) rfl) ?_
    refine Wo_call rfl (opc1 (a := v) Tryd.call20 rfl) (k1 _ _ ((Mono.mono ((E1.trans E2).trans E3) h))) ?_; rintro u2 w4 ⟨E4, hO2⟩; have hs4 := E4.size; refine Wo rfl (opv_assign (v := u2) rfl) ?_; refine Wo_nil ?_; refine W_seq ?_
    refine W_region rfl ?_; refine Wo rfl (opv_move (v := u2) rfl) ?_; refine Wo_call rfl (opc1 (a := u2) Tryd.call21 rfl) (k3 _ _ ((Mono.mono (((E1.trans E2).trans E3).trans E4) hM)) ((OD.read hO2))) ?_; rintro _ w5 ⟨rfl, E5⟩
    have hs5 := E5.size; refine Wo rfl (opv_assign (v := .string _) rfl) ?_; refine Wo_nil ?_; refine W_seq ?_; refine W_seq ?_; refine W_region rfl ?_; refine Wo rfl (opv_move (v := .string _) rfl) ?_
    refine Wo rfl (opv_move (v := .string _) rfl) ?_; refine Wo rfl (opv_neq_str rfl rfl) ?_; refine Wo_nil ?_; refine W_cond_ndec rfl (fun h5 => ?_) (fun h5 => ?_); contradiction; refine W_skip ?_; refine W_seq ?_; refine W_seq ?_
    refine W_region rfl ?_; refine Wo rfl (opv_move (v := u2) rfl) ?_; refine Wo rfl (opv_move (v := v) rfl) ?_
    refine Wo_call rfl (opc1 (a := v) Tryd.call20 rfl) (k1 _ _ ((Mono.mono ((((E1.trans E2).trans E3).trans E4).trans E5) h))) ?_; rintro u3 w6 ⟨E6, hO3⟩; have hs6 := E6.size
    refine Wo_call rfl (opc2 (a := u2) (b := u3) Tryd.call22 rfl rfl) (k4 _ _ _ ((Mono.mono (E5.trans E6) (OD.read hO2))) ((OD.read hO3))) ?_; rintro _ w7 ⟨rfl, E7⟩; have hs7 := E7.size; refine Wo rfl (opv_not rfl) ?_; refine Wo_nil ?_
    refine W_cond rfl (fun h6 => ?_) (fun h6 => ?_); contradiction; refine W_skip ?_; refine W_seq ?_; refine W_region rfl ?_; refine Wo rfl (opv_assign (v := .bool _) rfl) ?_; refine Wo_nil ?_; refine W_ret ?_
    exact ⟨rfl, ((((((E1.trans E2).trans E3).trans E4).trans E5).trans E6).trans E7)⟩

end Go.Proofs.YtgphoihilheoeaaDoor
