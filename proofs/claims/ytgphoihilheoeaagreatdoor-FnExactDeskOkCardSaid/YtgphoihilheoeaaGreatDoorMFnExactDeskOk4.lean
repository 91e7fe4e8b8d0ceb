/- Lemmas for FnExactDeskOk. -/
import Derived.Test.YtgphoihilheoeaaGreatDoorMFnExactDeskOk3
import Derived.Test.YtgphoihilheoeaaGreatDoorProg
namespace Go.Proofs.YtgphoihilheoeaaGreatDoor
open Go.Hs
set_option maxRecDepth 10000
set_option maxHeartbeats 4000000
set_option linter.unusedVariables false
set_option linter.unusedSimpArgs false

theorem EqualI_ok (w : World) (v u : Value) (xs ys : List Int) (h : Ints w v xs) (h' : Ints w u ys) : Does Tryz.prog 68 [v, u] w (Ret w (.bool (decide (xs = ys)))) := by
  have hle := h.le
  have hle' := h'.le
  refine fn_of_W1 Tryz.func68 rfl Tryz.results68 Tryz.ntmps68 rfl ?_
  focus
    refine W_seq ?_; refine W_region rfl ?_; refine Wo rfl (opv_assign (v := .bool _) rfl) ?_; refine Wo_nil ?_; refine W_seq ?_; refine W_seq ?_; refine W_region rfl ?_; refine Wo rfl (opv_move (v := v) rfl) ?_
    refine Wo rfl (opv_len Tryz.underlying58 rfl h) ?_; refine Wo rfl (opv_move (v := u) rfl) ?_; refine Wo rfl (opv_len Tryz.underlying58 rfl h') ?_; refine Wo rfl (opv_neq rfl rfl) ?_; refine Wo_nil ?_
    refine W_cond_ndec rfl (fun h1 => ?_) (fun h1 => ?_); refine W_seq ?_; refine W_region rfl ?_; refine Wo rfl (opv_assign (v := .bool _) rfl) ?_; refine Wo_nil ?_; refine W_ret ?_; refine at_ret (v := .bool _) rfl ?_
    refine ⟨congrArg Value.bool ?_, (Ext.refl _)⟩; rotate_left; refine W_skip ?_; refine W_seq ?_; refine W_seq ?_; refine W_region rfl ?_; refine Wo rfl (opv_move (v := v) rfl) ?_; refine Wo rfl (opv_len Tryz.underlying58 rfl h) ?_
    refine Wo rfl (opv_move (v := .int _ _) rfl) ?_; refine Wo_nil ?_; refine W_block ?_; rotate_left
  · exact (decide_eq_false (fun e => by subst e; omega)).symm
  refine W_loop [4, 5, 13, 14, 15, 16, 17, 18, 19, 20, 21, 22, 23, 24, 25] (fun (k : Nat) => [(13, .int .i64 (k : Nat))]) (fun k w' => Ext w w' ∧ k ≤ xs.length ∧ xs.take k = ys.take k) (fun x => xs.length - x) 0 (by repeat (first | exact trivial | refine And.intro rfl ?_)) ?_ ?_
  · exact ⟨Ext.refl _, Nat.zero_le _, by simp⟩
  rintro k ρj w1 ⟨E1, hk, he⟩
  focus
    have szE1 := E1.size; refine W_seq ?_; refine W_region rfl ?_; refine Wo rfl (opv_lss rfl rfl) ?_; refine Wo_nil ?_; refine W_seq ?_; refine W_cond_dec rfl (fun h2 => ?_) (fun h2 => ?_); refine W_skip ?_; refine W_seq ?_
    refine W_block ?_; refine W_seq ?_; refine W_region rfl ?_; refine Wo rfl (opv_move (v := .int _ _) rfl) ?_; refine Wo rfl (opv_assign (v := .int _ _) rfl) ?_; refine Wo_nil ?_; refine W_seq ?_
    refine W_draw mixed (by kernel_rfl) rfl ?_; refine Wq_o rfl (fun _ _ => opv_move (v := v) rfl) ?_; refine Wq_o rfl (fun _ _ => opv_move (v := .int _ _) rfl) ?_
    refine Wq_get Tryz.underlying58 Tryz.sizeOf3 Tryz.isAgg3 rfl (fun _ => rfl) rfl h E1 rfl (by first | omega | (simp <;> omega)) ?_; rintro _ _ rfl; refine Wq_o rfl (fun _ _ => opv_move (v := u) rfl) ?_
    refine Wq_o rfl (fun _ _ => opv_move (v := .int _ _) rfl) ?_; refine Wq_get Tryz.underlying58 Tryz.sizeOf3 Tryz.isAgg3 rfl (fun _ => rfl) rfl h' E1 rfl (by first | omega | (simp <;> omega)) ?_; rintro _ _ rfl
    refine Wq_o rfl (fun _ _ => opv_neq rfl rfl) ?_; refine Wq_nil (fun w2 E2 => ?_); have hs1 := E2.size; refine W_cond_ndec rfl (fun h3 => ?_) (fun h3 => ?_); refine W_seq ?_; refine W_region rfl ?_
    refine Wo rfl (opv_assign (v := .bool _) rfl) ?_; refine Wo_nil ?_; refine W_ret ?_; refine at_ret (v := .bool _) rfl ?_; refine ⟨congrArg Value.bool ?_, (E1.trans E2)⟩; rotate_left; refine W_skip ?_; refine W_region rfl ?_
    refine Wo rfl (opv_add rfl rfl (by omega)) ?_; refine Wo rfl (opv_move (v := .int _ _) rfl) ?_; refine Wo_nil ?_; rotate_left; refine W_exit ?_; refine exitX_same ?_; refine W_seq ?_; refine W_region rfl ?_
    refine Wo rfl (opv_assign (v := .bool _) rfl) ?_; refine Wo_nil ?_; refine W_ret ?_; refine at_ret (v := .bool _) rfl ?_; refine ⟨congrArg Value.bool ?_, E1⟩; rotate_left
  · exact (decide_eq_false (ne_at (k := k) (by omega) (by omega) (by assumption))).symm
  · refine ⟨(k + 1), by repeat (first | exact trivial | refine And.intro rfl ?_), by repeat (first | with_reducible exact Same.refl | refine Same.upd rfl ?_ | refine Same.upds rfl ?_ | refine Same.mix rfl ?_), ?_, ?_⟩
    · exact ⟨E1.trans E2, by omega, (take_eq_snoc (by omega) (by omega)).2 ⟨he, by assumption⟩⟩
    · omega
  · obtain rfl : k = xs.length := by omega
    exact (decide_eq_true (ext_take (by omega) he)).symm

theorem EqualFunc_ok (w : World) (v u : Value) (xs ys : List (List Int)) (h : ESl Ints w v xs) (h' : ESl Ints w u ys) (hc : ∀ args w, Sem.run Tryz.prog (callFunc 68 args) w = .ok (.enter 68 args) w) :
    Does Tryz.prog 67 [v, u, .func (.func 68) [].toArray [].toArray] w (Ret w (.bool (decide (xs = ys)))) := by
  have hle := h.le
  have hle' := h'.le
  refine fn_of_W1 Tryz.func67 rfl Tryz.results67 Tryz.ntmps67 rfl ?_
  focus
    refine W_seq ?_; refine W_region rfl ?_; refine Wo rfl (opv_assign (v := .bool _) rfl) ?_; refine Wo_nil ?_; refine W_seq ?_; refine W_seq ?_; refine W_region rfl ?_; refine Wo rfl (opv_move (v := v) rfl) ?_
    refine Wo rfl (opv_len Tryz.underlying22 rfl h) ?_; refine Wo rfl (opv_move (v := u) rfl) ?_; refine Wo rfl (opv_len Tryz.underlying22 rfl h') ?_; refine Wo rfl (opv_neq rfl rfl) ?_; refine Wo_nil ?_
    refine W_cond_ndec rfl (fun h1 => ?_) (fun h1 => ?_); refine W_seq ?_; refine W_region rfl ?_; refine Wo rfl (opv_assign (v := .bool _) rfl) ?_; refine Wo_nil ?_; refine W_ret ?_; refine at_ret (v := .bool _) rfl ?_
    refine ⟨congrArg Value.bool ?_, (Ext.refl _)⟩; rotate_left; refine W_skip ?_; refine W_seq ?_; refine W_seq ?_; refine W_region rfl ?_; refine Wo rfl (opv_move (v := v) rfl) ?_; refine Wo rfl (opv_len Tryz.underlying22 rfl h) ?_
    refine Wo rfl (opv_move (v := .int _ _) rfl) ?_; refine Wo_nil ?_; refine W_block ?_; rotate_left
  · exact (decide_eq_false (fun e => by subst e; omega)).symm
  refine W_loop [6, 7, 8, 9, 17, 18, 19, 20, 21, 22, 23, 24, 25, 26, 27, 28, 29, 30, 31] (fun (k : Nat) => [(17, .int .i64 (k : Nat))]) (fun k w' => Ext w w' ∧ k ≤ xs.length ∧ xs.take k = ys.take k) (fun x => xs.length - x) 0 (by repeat (first | exact trivial | refine And.intro rfl ?_)) ?_ ?_
  · exact ⟨Ext.refl _, Nat.zero_le _, by simp⟩
  rintro k ρj w1 ⟨E1, hk, he⟩
  focus
    have szE1 := E1.size; refine W_seq ?_; refine W_region rfl ?_; refine Wo rfl (opv_lss rfl rfl) ?_; refine Wo_nil ?_; refine W_seq ?_; refine W_cond_dec rfl (fun h2 => ?_) (fun h2 => ?_); refine W_skip ?_; refine W_seq ?_
    refine W_block ?_; refine W_seq ?_; refine W_region rfl ?_; refine Wo rfl (opv_move (v := .int _ _) rfl) ?_
    refine Wo_get Tryz.underlying22 Tryz.sizeOf58 Tryz.isAgg58 rfl (fun _ => rfl) rfl h E1 rfl (by first | omega | (simp <;> omega)) ?_; rintro _ u1 hu1; refine Wo rfl (opv_assign (v := .int _ _) rfl) ?_
    refine Wo rfl (opv_assign (v := u1) rfl) ?_; refine Wo_nil ?_; refine W_seq ?_; refine W_region rfl ?_; refine Wo rfl (opv_move (v := u) rfl) ?_; refine Wo rfl (opv_move (v := .int _ _) rfl) ?_
    refine Wo_get Tryz.underlying22 Tryz.sizeOf58 Tryz.isAgg58 rfl (fun _ => rfl) rfl h' E1 rfl (by first | omega | (simp <;> omega)) ?_; rintro _ u2 hu2; refine Wo rfl (opv_assign (v := u2) rfl) ?_; refine Wo_nil ?_; refine W_seq ?_
    refine W_region rfl ?_; refine Wo rfl (opv_move (v := .func _ _ _) rfl) ?_; refine Wo rfl (opv_move (v := u1) rfl) ?_; refine Wo rfl (opv_move (v := u2) rfl) ?_
    refine Wo_call rfl (opc_val2 Tryz.call68 rfl rfl rfl) (EqualI_ok _ _ _ _ _ ((Mono.mono E1 hu1)) ((Mono.mono E1 hu2))) ?_; rintro _ w2 ⟨rfl, E2⟩; have hs1 := E2.size; refine Wo rfl (opv_not rfl) ?_; refine Wo_nil ?_
    refine W_cond_ndec rfl (fun h3 => ?_) (fun h3 => ?_); refine W_seq ?_; refine W_region rfl ?_; refine Wo rfl (opv_assign (v := .bool _) rfl) ?_; refine Wo_nil ?_; refine W_ret ?_; refine at_ret (v := .bool _) rfl ?_
    refine ⟨congrArg Value.bool ?_, (E1.trans E2)⟩; rotate_left; refine W_skip ?_; refine W_region rfl ?_; refine Wo rfl (opv_add rfl rfl (by omega)) ?_; refine Wo rfl (opv_move (v := .int _ _) rfl) ?_; refine Wo_nil ?_; rotate_left
    refine W_exit ?_; refine exitX_same ?_; refine W_seq ?_; refine W_region rfl ?_; refine Wo rfl (opv_assign (v := .bool _) rfl) ?_; refine Wo_nil ?_; refine W_ret ?_; refine at_ret (v := .bool _) rfl ?_
    refine ⟨congrArg Value.bool ?_, E1⟩; rotate_left
  · exact (decide_eq_false (ne_at (k := k) (by omega) (by omega) (by assumption))).symm
  · refine ⟨(k + 1), by repeat (first | exact trivial | refine And.intro rfl ?_), by repeat (first | with_reducible exact Same.refl | refine Same.upd rfl ?_ | refine Same.upds rfl ?_ | refine Same.mix rfl ?_), ?_, ?_⟩
    · exact ⟨E1.trans E2, by omega, (take_eq_snoc (by omega) (by omega)).2 ⟨he, by assumption⟩⟩
    · omega
  · obtain rfl : k = xs.length := by omega
    exact (decide_eq_true (ext_take (by omega) he)).symm

theorem IndexFuncP_ok (w : World) (v : Value) (xs : List (List (List Int))) (h : ESl (ESl Ints) w v xs) (fid : FuncId) (cap : List Value) (g : List (List Int) → Bool) (hc : ∀ args w, Sem.run Tryz.prog (callFunc fid args) w = .ok (.enter fid args) w)
    (hf : ∀ (x : List (List Int)) (u : Value) (w' : World), ESl Ints w' u x → Ext w w' → Does Tryz.prog fid (u :: cap) w' (Ret w' (.bool (g x)))) :
    Does Tryz.prog 69 [v, .func (.func fid) [].toArray cap.toArray] w (RetX w (Value.int .i64) (fun n _ => (n = -1 ∧ xs.any g = false) ∨ (0 ≤ n ∧ xs.any g = true))) := by
  have hle := h.le
  refine fn_of_W1 Tryz.func69 rfl Tryz.results69 Tryz.ntmps69 rfl ?_
  focus
    refine W_seq ?_; refine W_region rfl ?_; refine Wo rfl (opv_assign (v := .int _ _) rfl) ?_; refine Wo_nil ?_; refine W_seq ?_; refine W_seq ?_; refine W_region rfl ?_; refine Wo rfl (opv_move (v := v) rfl) ?_
    refine Wo rfl (opv_len Tryz.underlying23 rfl h) ?_; refine Wo rfl (opv_move (v := .int _ _) rfl) ?_; refine Wo_nil ?_; refine W_block ?_
  refine W_loop [4, 5, 8, 9, 10, 11, 12, 13, 14, 15, 16, 17, 18] (fun (k : Nat) => [(8, .int .i64 (k : Nat))]) (fun k w' => Ext w w' ∧ k ≤ xs.length ∧ (xs.take k).any g = false) (fun x => xs.length - x) 0 (by repeat (first | exact trivial | refine And.intro rfl ?_)) ?_ ?_
  · exact ⟨Ext.refl _, Nat.zero_le _, by simp⟩
  rintro k ρj w1 ⟨E1, hk, hg⟩
  by_cases hlt : k < xs.length
  · have hmem := List.getElem_mem hlt
    have hf' := hf xs[k]
    focus
      have szE1 := E1.size; refine W_seq ?_; refine W_region rfl ?_; refine Wo rfl (opv_lss rfl rfl) ?_; refine Wo_nil ?_; refine W_seq ?_; refine W_cond_dec rfl (fun h1 => ?_) (fun h1 => ?_); refine W_skip ?_; refine W_seq ?_
      refine W_block ?_; refine W_seq ?_; refine W_region rfl ?_; refine Wo rfl (opv_move (v := .int _ _) rfl) ?_; refine Wo rfl (opv_assign (v := .int _ _) rfl) ?_; refine Wo_nil ?_; refine W_seq ?_; refine W_region rfl ?_
      refine Wo rfl (opv_move (v := .func _ _ _) rfl) ?_; refine Wo rfl (opv_move (v := v) rfl) ?_; refine Wo rfl (opv_move (v := .int _ _) rfl) ?_
      refine Wo_get Tryz.underlying23 Tryz.sizeOf22 Tryz.isAgg22 rfl (fun _ => rfl) rfl h E1 rfl (by first | omega | (simp <;> omega)) ?_; rintro _ u1 hu1
      refine Wo_call rfl (opc_val1 (a := u1) (by assumption) rfl rfl) (hf' _ _ ((Mono.mono E1 hu1)) (E1)) ?_; rintro _ w2 ⟨rfl, E2⟩; have hs1 := E2.size; refine Wo_nil ?_; refine W_cond rfl (fun h2 => ?_) (fun h2 => ?_); refine W_seq ?_
      refine W_region rfl ?_; refine Wo rfl (opv_move (v := .int _ _) rfl) ?_; refine Wo rfl (opv_assign (v := .int _ _) rfl) ?_; refine Wo_nil ?_; refine W_ret ?_; refine at_ret (v := .int _ _) rfl ?_; refine ⟨(E1.trans E2), _, rfl, ?_⟩
      (try dsimp only); rotate_left; refine W_skip ?_; refine W_region rfl ?_; refine Wo rfl (opv_add rfl rfl (by omega)) ?_; refine Wo rfl (opv_move (v := .int _ _) rfl) ?_; refine Wo_nil ?_; rotate_left; (exfalso; omega)
    · right
      refine ⟨by omega, List.any_eq_true.2 ⟨_, hmem, by assumption⟩⟩
    · refine ⟨(k + 1), by repeat (first | exact trivial | refine And.intro rfl ?_), by repeat (first | with_reducible exact Same.refl | refine Same.upd rfl ?_ | refine Same.upds rfl ?_ | refine Same.mix rfl ?_), ?_, ?_⟩
      · refine ⟨E1.trans E2, by omega, ?_⟩
        rw [take_snoc _ _ hlt, List.any_append, hg]
        simpa using by assumption
      · omega
  · obtain rfl : k = xs.length := by omega
    focus
      have szE1 := E1.size; refine W_seq ?_; refine W_region rfl ?_; refine Wo rfl (opv_lss rfl rfl) ?_; refine Wo_nil ?_; refine W_seq ?_; refine W_cond_dec rfl (fun h1 => ?_) (fun h1 => ?_); (exfalso; omega); refine W_exit ?_
      refine exitX_same ?_; refine W_seq ?_; refine W_region rfl ?_; refine Wo rfl (opv_assign (v := .int _ _) rfl) ?_; refine Wo_nil ?_; refine W_ret ?_; refine at_ret (v := .int _ _) rfl ?_; refine ⟨E1, _, rfl, ?_⟩; (try dsimp only)
    exact .inl ⟨rfl, by simpa using hg⟩

theorem ContainsFuncP_ok (w : World) (v : Value) (xs : List (List (List Int))) (h : ESl (ESl Ints) w v xs) (fid : FuncId) (cap : List Value) (g : List (List Int) → Bool) (hc : ∀ args w, Sem.run Tryz.prog (callFunc fid args) w = .ok (.enter fid args) w)
    (hf : ∀ (x : List (List Int)) (u : Value) (w' : World), ESl Ints w' u x → Ext w w' → Does Tryz.prog fid (u :: cap) w' (Ret w' (.bool (g x)))) :
    Does Tryz.prog 42 [v, .func (.func fid) [].toArray cap.toArray] w (Ret w (.bool (xs.any g))) := by
  have hi := IndexFuncP_ok w v xs h fid cap g hc hf
  refine fn_of_W1 Tryz.func42 rfl Tryz.results42 Tryz.ntmps42 rfl ?_
  focus
    refine W_seq ?_; refine W_region rfl ?_; refine Wo rfl (opv_assign (v := .bool _) rfl) ?_; refine Wo_nil ?_; refine W_seq ?_; refine W_region rfl ?_; refine Wo rfl (opv_move (v := v) rfl) ?_
    refine Wo rfl (opv_move (v := .func _ _ _) rfl) ?_; refine Wo_call rfl (opc2 (a := v) (b := .func _ _ _) Tryz.call69 rfl rfl) (hi) ?_; rintro _ w1 ⟨E1, y1, rfl, hy1⟩; have hs1 := E1.size; refine Wo rfl (opv_geq rfl rfl) ?_
    refine Wo rfl (opv_assign (v := .bool _) rfl) ?_; refine Wo_nil ?_; refine W_ret ?_; refine at_ret (v := .bool _) rfl ?_; refine ⟨congrArg Value.bool ?_, E1⟩
  rcases hy1 with ⟨rfl, h9⟩ | ⟨h8, h9⟩
  · rw [h9]; rfl
  · rw [h9]; exact decide_eq_true h8

open Classical in
theorem isLeast_ok (w : World) (v : Value) (p : List (List Int)) (h : ESl Ints w v p) (hp : Pic p) : Does Tryz.prog 41 [v] w (Ret w (.bool (decide (LeastP p)))) := by
  have hl := lst_pic hp (a := 0) (by have := hp.1; omega)
  have e : (LeastP p) = (lst p 0 = p) := propext ⟨fun h => h.2, fun h => ⟨hp, h⟩⟩
  have k1 : ∀ (w : World) (v : Value), ESl Ints w v p → Does Tryz.prog 30 [v, .int .i64 0] w (RetOB w XR (lst p 0) true) := fun w v h => by
    have := leastOf_ok w v p h hp.gr 0 (by have := hp.1; omega)
    rwa [if_pos hl.2.1, decide_eq_true hl.2.1] at this
  have k2 := fun (w : World) (v u : Value) (h : ESl Ints w v (lst p 0)) (h' : ESl Ints w u p) => EqualFunc_ok w v u (lst p 0) p h h' Tryz.call68
  rw [show decide (LeastP p) = decide (lst p 0 = p) from decide_eq_decide.2 (iff_of_eq e)]
  refine fn_of_W1 Tryz.func41 rfl Tryz.results41 Tryz.ntmps41 rfl ?_
  focus
    refine W_seq ?_; refine W_region rfl ?_; refine Wo rfl (opv_assign (v := .bool _) rfl) ?_; refine Wo_nil ?_; refine W_seq ?_; refine W_region rfl ?_; refine Wo rfl (opv_move (v := v) rfl) ?_
    refine Wo_call rfl (opc2 (a := v) (b := .int _ _) Tryz.call30 rfl rfl) (k1 _ _ (h)) ?_; rintro _ w1 ⟨u1, rfl, E1, hO1⟩; have hs1 := E1.size; refine Wo rfl (opv_move (v := .tuple _) rfl) ?_
    refine Wo rfl (opv_extract (v := u1) rfl rfl) ?_; refine Wo rfl (opv_extract (v := .bool _) rfl rfl) ?_; refine Wo rfl (opv_assign (v := u1) rfl) ?_; refine Wo rfl (opv_assign (v := .bool _) rfl) ?_; refine Wo_nil ?_
    refine W_seq ?_; refine W_region rfl ?_; refine Wo rfl (opv_move (v := u1) rfl) ?_; refine Wo rfl (opv_move (v := v) rfl) ?_
    refine Wo_call rfl (opc3 (a := u1) (b := v) (c := .func _ _ _) Tryz.call67 rfl rfl rfl) (k2 _ _ _ ((Owned.read hO1)) ((Mono.mono E1 h))) ?_; rintro _ w2 ⟨rfl, E2⟩; have hs2 := E2.size
    refine Wo rfl (opv_assign (v := .bool _) rfl) ?_; refine Wo_nil ?_; refine W_ret ?_; exact ⟨rfl, (E1.trans E2)⟩

open Classical in
theorem isDesk1_ok (w : World) (v : Value) (p : List (List Int)) (h : ESl Ints w v p) : Does Tryz.prog 43 [v] w (Ret w (.bool (!decide (LeastP p)))) := by
  by_cases hp : Pic p
  · have k0 : ∀ (w : World) (v : Value), ESl Ints w v p → Does Tryz.prog 40 [v] w (Ret w (.bool true)) := fun w v h => by
      have := isPicture_ok w v p h; rwa [decide_eq_true hp] at this
    have k1 : ∀ (w : World) (v : Value), ESl Ints w v p → Does Tryz.prog 41 [v] w (Ret w (.bool (decide (LeastP p)))) := fun w v h => isLeast_ok w v p h hp
    refine fn_of_W1 Tryz.func43 rfl Tryz.results43 Tryz.ntmps43 rfl ?_
    focus
      refine W_seq ?_; refine W_region rfl ?_; refine Wo rfl (opv_assign (v := .bool _) rfl) ?_; refine Wo_nil ?_; refine W_seq ?_; refine W_region rfl ?_; refine Wo rfl (opv_move (v := v) rfl) ?_
      refine Wo_call rfl (opc1 (a := v) Tryz.call40 rfl) (k0 _ _ (h)) ?_; rintro _ w1 ⟨rfl, E1⟩; have hs1 := E1.size; refine Wo rfl (opv_not rfl) ?_; refine Wo_split rfl (opv_move (v := .bool _) rfl) (fun h1 => ?_) (fun h1 => ?_)
      contradiction; refine Wo rfl (opv_move (v := v) rfl) ?_; refine Wo_call rfl (opc1 (a := v) Tryz.call41 rfl) (k1 _ _ ((Mono.mono E1 h))) ?_; rintro _ w2 ⟨rfl, E2⟩; have hs2 := E2.size; refine Wo rfl (opv_not rfl) ?_
      refine Wo rfl (opv_pick_f (v := .bool _) rfl rfl) ?_; refine Wo rfl (opv_assign (v := .bool _) rfl) ?_; refine Wo_nil ?_; refine W_ret ?_; exact ⟨rfl, (E1.trans E2)⟩
  · have hd : decide (LeastP p) = false := decide_eq_false fun h => hp h.1
    rw [hd]
    have k0 : ∀ (w : World) (v : Value), ESl Ints w v p → Does Tryz.prog 40 [v] w (Ret w (.bool false)) := fun w v h => by
      have := isPicture_ok w v p h; rwa [decide_eq_false hp] at this
    refine fn_of_W1 Tryz.func43 rfl Tryz.results43 Tryz.ntmps43 rfl ?_
    focus
      refine W_seq ?_; refine W_region rfl ?_; refine Wo rfl (opv_assign (v := .bool _) rfl) ?_; refine Wo_nil ?_; refine W_seq ?_; refine W_region rfl ?_; refine Wo rfl (opv_move (v := v) rfl) ?_
      refine Wo_call rfl (opc1 (a := v) Tryz.call40 rfl) (k0 _ _ (h)) ?_; rintro _ w1 ⟨rfl, E1⟩; have hs1 := E1.size; refine Wo rfl (opv_not rfl) ?_; refine Wo_split rfl (opv_move (v := .bool _) rfl) (fun h1 => ?_) (fun h1 => ?_)
      refine Wo_skip rfl ?_; refine Wo_skip rfl ?_; refine Wo_skip rfl ?_; refine Wo rfl (opv_pick_t (v := .bool _) rfl rfl) ?_; refine Wo rfl (opv_assign (v := .bool _) rfl) ?_; refine Wo_nil ?_; refine W_ret ?_; exact ⟨rfl, E1⟩
      contradiction

open Classical in
theorem isDesk_ok (w : World) (u1 u2 : Value) (d : Dsk) (h1 : ESl Ints w u1 d.now) (h2 : ESl (ESl Ints) w u2 d.past) : Does Tryz.prog 24 [.agg #[u1, u2]] w (Ret w (.bool (decide (DkOk d)))) := by
  obtain ⟨p, pp⟩ := d
  have hle := h2.le
  simp only at h1 h2 hle
  have icu1 : isCell u1 = true := ESl_isC h1
  have icu2 : isCell u2 = true := ESl_isC h2
  refine fn_of_W1 Tryz.func24 rfl Tryz.results24 Tryz.ntmps24 rfl ?_
  have k2 := fun (w : World) (v : Value) (h : ESl (ESl Ints) w v pp) => ContainsFuncP_ok w v pp h 43 [] (fun x => !decide (LeastP x)) Tryz.call43 (fun x u w' h e => isDesk1_ok w' u x h)
  by_cases hp : Pic p
  · have k0 : ∀ (w : World) (v : Value), ESl Ints w v p → Does Tryz.prog 40 [v] w (Ret w (.bool true)) := fun w v h => by
      have := isPicture_ok w v p h; rwa [decide_eq_true hp] at this
    have k1 : ∀ (w : World) (v : Value), ESl Ints w v p → Does Tryz.prog 41 [v] w (Ret w (.bool (decide (LeastP p)))) := fun w v h => isLeast_ok w v p h hp
    focus
      refine W_seq ?_; refine W_region rfl ?_; refine Wo_box rfl rfl rfl ?_; rintro b1 w1 hb1 E1 hB1; have hlb1 := hB1.lt; have hs1 := E1.size; refine Wo rfl (opv_assign (v := .bool _) rfl) ?_; refine Wo_nil ?_; refine W_seq ?_
      refine W_seq ?_; refine W_region rfl ?_; refine Wo rfl (opv_fieldAddr Tryz.underlying28 rfl rfl Tryz.sizeOf22 rfl) ?_; refine Wo (v := u1) rfl (opv_load Tryz.isAgg22 rfl (hB1.cell rfl)) ?_
      refine Wo_call rfl (opc1 (a := u1) Tryz.call40 rfl) (k0 _ _ ((Mono.mono E1 h1))) ?_; rintro _ w2 ⟨rfl, E2⟩; have hs2 := E2.size; refine Wo rfl (opv_not rfl) ?_
      refine Wo_split rfl (opv_move (v := .bool _) rfl) (fun h3 => ?_) (fun h3 => ?_); contradiction; refine Wo rfl (opv_fieldAddr Tryz.underlying28 rfl rfl Tryz.sizeOf22 rfl) ?_
      refine Wo (v := u1) rfl (opv_load Tryz.isAgg22 rfl ((hB1.ext E2).cell rfl)) ?_; refine Wo_call rfl (opc1 (a := u1) Tryz.call41 rfl) (k1 _ _ ((Mono.mono (E1.trans E2) h1))) ?_; rintro _ w3 ⟨rfl, E3⟩; have hs3 := E3.size
      refine Wo rfl (opv_not rfl) ?_; refine Wo rfl (opv_pick_f (v := .bool _) rfl rfl) ?_; refine Wo_split_ndec rfl (opv_move (v := .bool _) rfl) (fun h4 => ?_) (fun h4 => ?_); refine Wo_skip rfl ?_; refine Wo_skip rfl ?_
      refine Wo_skip rfl ?_; refine Wo_skip rfl ?_; refine Wo rfl (opv_pick_t (v := .bool _) rfl rfl) ?_; refine Wo_nil ?_; refine W_cond_true rfl ?_; refine W_seq ?_; refine W_region rfl ?_
      refine Wo rfl (opv_assign (v := .bool _) rfl) ?_; refine Wo_nil ?_; refine W_ret ?_; refine at_ret (v := .bool _) rfl ?_; refine ⟨congrArg Value.bool ?_, ((E1.trans E2).trans E3)⟩; rotate_left
      refine Wo rfl (opv_fieldAddr Tryz.underlying28 rfl rfl Tryz.sizeOf23 rfl) ?_; refine Wo (v := u2) rfl (opv_load Tryz.isAgg23 rfl ((hB1.ext (E2.trans E3)).cell rfl)) ?_; refine Wo rfl (opv_len Tryz.underlying23 rfl h2) ?_
      refine Wo rfl (opv_gtr rfl rfl) ?_; refine Wo rfl (opv_pick_f (v := .bool _) rfl rfl) ?_; refine Wo_nil ?_; refine W_cond_dec rfl (fun h5 => ?_) (fun h5 => ?_); refine W_seq ?_; refine W_region rfl ?_
      refine Wo rfl (opv_assign (v := .bool _) rfl) ?_; refine Wo_nil ?_; refine W_ret ?_; refine at_ret (v := .bool _) rfl ?_; refine ⟨congrArg Value.bool ?_, ((E1.trans E2).trans E3)⟩; rotate_left; refine W_skip ?_; refine W_seq ?_
      refine W_region rfl ?_; refine Wo rfl (opv_fieldAddr Tryz.underlying28 rfl rfl Tryz.sizeOf23 rfl) ?_; refine Wo (v := u2) rfl (opv_load Tryz.isAgg23 rfl ((hB1.ext (E2.trans E3)).cell rfl)) ?_
      refine Wo_call rfl (opc2 (a := u2) (b := .func _ _ _) Tryz.call42 rfl rfl) (k2 _ _ ((Mono.mono ((E1.trans E2).trans E3) h2))) ?_; rintro _ w4 ⟨rfl, E4⟩; have hs4 := E4.size; refine Wo rfl (opv_not rfl) ?_
      refine Wo rfl (opv_assign (v := .bool _) rfl) ?_; refine Wo_nil ?_; refine W_ret ?_; refine at_ret (v := .bool _) rfl ?_; refine ⟨congrArg Value.bool ?_, (((E1.trans E2).trans E3).trans E4)⟩; rotate_left
    · exact (decide_eq_false fun h => absurd h.1 (by assumption)).symm
    · exact (decide_eq_false fun h => by have := h.2.1; simp only at this; omega).symm
    · rw [Bool.eq_iff_iff, decide_eq_true_iff, Bool.not_eq_true', List.any_eq_false]
      unfold DkOk
      simp only
      constructor
      · intro h9
        exact ⟨by assumption, by omega, fun q hq => by simpa using h9 q hq⟩
      · rintro ⟨_, _, h9⟩ q hq
        simpa using h9 q hq
  · have hd : decide (DkOk ⟨p, pp⟩) = false := decide_eq_false fun h => hp h.1.1
    rw [hd]
    have k0 : ∀ (w : World) (v : Value), ESl Ints w v p → Does Tryz.prog 40 [v] w (Ret w (.bool false)) := fun w v h => by
      have := isPicture_ok w v p h; rwa [decide_eq_false hp] at this
    focus
      refine W_seq ?_; refine W_region rfl ?_; refine Wo_box rfl rfl rfl ?_; rintro b1 w1 hb1 E1 hB1; have hlb1 := hB1.lt; have hs1 := E1.size; refine Wo rfl (opv_assign (v := .bool _) rfl) ?_; refine Wo_nil ?_; refine W_seq ?_
      refine W_seq ?_; refine W_region rfl ?_; refine Wo rfl (opv_fieldAddr Tryz.underlying28 rfl rfl Tryz.sizeOf22 rfl) ?_; refine Wo (v := u1) rfl (opv_load Tryz.isAgg22 rfl (hB1.cell rfl)) ?_
      refine Wo_call rfl (opc1 (a := u1) Tryz.call40 rfl) (k0 _ _ ((Mono.mono E1 h1))) ?_; rintro _ w2 ⟨rfl, E2⟩; have hs2 := E2.size; refine Wo rfl (opv_not rfl) ?_
      refine Wo_split rfl (opv_move (v := .bool _) rfl) (fun h3 => ?_) (fun h3 => ?_); refine Wo_skip rfl ?_; refine Wo_skip rfl ?_; refine Wo_skip rfl ?_; refine Wo_skip rfl ?_; refine Wo rfl (opv_pick_t (v := .bool _) rfl rfl) ?_
      refine Wo rfl (opv_move (v := .bool _) rfl) ?_; refine Wo_skip rfl ?_; refine Wo_skip rfl ?_; refine Wo_skip rfl ?_; refine Wo_skip rfl ?_; refine Wo rfl (opv_pick_t (v := .bool _) rfl rfl) ?_; refine Wo_nil ?_
      refine W_cond_true rfl ?_; refine W_seq ?_; refine W_region rfl ?_; refine Wo rfl (opv_assign (v := .bool _) rfl) ?_; refine Wo_nil ?_; refine W_ret ?_; exact ⟨rfl, (E1.trans E2)⟩; contradiction

open Classical in
theorem impl_DeskOk_ok (w : World) (u1 u2 : Value) (d : Dsk) (h1 : ESl Ints w u1 d.now) (h2 : ESl (ESl Ints) w u2 d.past) : Does Tryz.prog 9 [.agg #[u1, u2]] w (Ret w (.bool (decide (DkOk d)))) := by
  have icu1 : isCell u1 = true := ESl_isC h1
  have icu2 : isCell u2 = true := ESl_isC h2
  refine fn_of_W1 Tryz.func9 rfl Tryz.results9 Tryz.ntmps9 rfl ?_
  have k1 := fun (w : World) (h1 : ESl Ints w u1 d.now) (h2 : ESl (ESl Ints) w u2 d.past) => isDesk_ok w u1 u2 d h1 h2
  focus
    refine W_seq ?_; refine W_region rfl ?_; refine Wo_box rfl rfl rfl ?_; rintro b1 w1 hb1 E1 hB1; have hlb1 := hB1.lt; have hs1 := E1.size; refine Wo rfl (opv_assign (v := .bool _) rfl) ?_; refine Wo_nil ?_; refine W_seq ?_
    refine W_region rfl ?_; refine Wo (v := .agg _) rfl (opv_load2 Tryz.isAgg28 Tryz.sizeOf28 rfl hB1) ?_; refine Wo_call rfl (opc1 (a := .agg _) Tryz.call24 rfl) (k1 _ ((Mono.mono E1 h1)) ((Mono.mono E1 h2))) ?_; rintro _ w2 ⟨rfl, E2⟩
    have hs2 := E2.size; refine Wo rfl (opv_assign (v := .bool _) rfl) ?_; refine Wo_nil ?_; refine W_ret ?_; exact ⟨rfl, (E1.trans E2)⟩

end Go.Proofs.YtgphoihilheoeaaGreatDoor
set_option linter.unusedVariables false
set_option linter.unusedSimpArgs false
namespace Go.Hs
section
variable {P : Program} {lo br m cr i o : Nat} {v : Value} {e e2 : TypeId}
end
section
variable {P : Program} {n : Nat} {N : Env → World → Prop} {ρ : Env} {w w0 : World} {all : Array Oper} {rest : List Oper} {d : Nat} {ty t t2 el e e2 : TypeId} {pos : String} {after : Array Edge} {g : Option (Nat × Bool)} {x y : Operand} {v u : Value} {lo hi' br m cr i o dl dc : Nat} {xs : List Int} {p : List (List Int)}
end
end Go.Hs
namespace Go.Proofs.YtgphoihilheoeaaGreatDoor
open Go.Hs
set_option maxRecDepth 10000
set_option maxHeartbeats 4000000
set_option linter.unusedVariables false
set_option linter.unusedSimpArgs false
end Go.Proofs.YtgphoihilheoeaaGreatDoor
namespace Go.Proofs.YtgphoihilheoeaaGreatDoor
open Go.Hs
set_option maxRecDepth 10000
set_option maxHeartbeats 4000000
set_option linter.unusedVariables false
end Go.Proofs.YtgphoihilheoeaaGreatDoor
namespace Go.Proofs.YtgphoihilheoeaaGreatDoor
open Go.Hs
set_option maxRecDepth 10000
set_option maxHeartbeats 4000000
set_option linter.unusedVariables false
set_option linter.unusedSimpArgs false

end Go.Proofs.YtgphoihilheoeaaGreatDoor
namespace Go.Proofs.YtgphoihilheoeaaGreatDoor
open Go.Hs
set_option maxRecDepth 10000
set_option maxHeartbeats 4000000
set_option linter.unusedVariables false
set_option linter.unusedSimpArgs false

end Go.Proofs.YtgphoihilheoeaaGreatDoor
namespace Go.Proofs.YtgphoihilheoeaaGreatDoor
open Go.Hs
set_option maxRecDepth 10000
set_option maxHeartbeats 4000000
set_option linter.unusedVariables false
set_option linter.unusedSimpArgs false

end Go.Proofs.YtgphoihilheoeaaGreatDoor
namespace Go.Proofs.YtgphoihilheoeaaGreatDoor
open Go.Hs
set_option maxRecDepth 10000
set_option maxHeartbeats 4000000
set_option linter.unusedVariables false
set_option linter.unusedSimpArgs false

open Classical in
theorem FnExactDeskOk_walk (w : World) (u1 u2 : Value) (p : List (List Int)) (pp : List (List (List Int))) (h1 : ESl Ints w u1 p) (h2 : ESl (ESl Ints) w u2 pp) : Does Tryz.prog 3 [.agg #[u1, u2]] w (Ret w (.bool true)) := by
  have icu1 : isCell u1 = true := ESl_isC h1
  have icu2 : isCell u2 = true := ESl_isC h2
  refine fn_of_W1 Tryz.func3 rfl Tryz.results3 Tryz.ntmps3 rfl ?_
  have stop3 : True := trivial
  focus
    refine W_seq ?_; refine W_region rfl ?_; refine Wo_box rfl rfl rfl ?_; rintro b1 w1 hb1 E1 hB1; have hlb1 := hB1.lt; have hs1 := E1.size; refine Wo rfl (opv_assign (v := .bool _) rfl) ?_; refine Wo_nil ?_; refine W_seq ?_
    refine W_region rfl ?_; refine Wo rfl (opv_assign (v := .int _ _) rfl) ?_; refine Wo_nil ?_; refine W_seq ?_; refine W_region rfl ?_; refine Wo (v := .agg _) rfl (opv_load2 Tryz.isAgg25 Tryz.sizeOf25 rfl hB1) ?_
    refine Wo rfl (opv_move (v := .int _ _) rfl) ?_; refine Wo_call rfl (opc2 (a := .agg _) (b := .int _ _) Tryz.call6 rfl rfl) (szDesk_ok _ _ _ _ _ ((Mono.mono E1 h1)) ((Mono.mono E1 h2)) _ (by omega)) ?_
    rintro _ w2 ⟨E2, y1, rfl, hy1⟩; have hs2 := E2.size; refine Wo rfl (opv_assign (v := .int _ _) rfl) ?_; refine Wo_nil ?_; refine W_seq ?_; refine W_seq ?_
  clear stop3
  rcases hy1 with h9 | ⟨h9, h10, h11, h12, h13, h14⟩
  · focus
      have szE2 := E2.size; have szE1 := E1.size; refine W_region rfl ?_; refine Wo rfl (opv_move (v := .int _ _) rfl) ?_; refine Wo rfl (opv_lss rfl rfl) ?_; refine Wo_nil ?_; refine W_cond_dec rfl (fun h3 => ?_) (fun h3 => ?_)
      refine W_seq ?_; refine W_region rfl ?_; refine Wo rfl (opv_assign (v := .bool _) rfl) ?_; refine Wo_nil ?_; refine W_ret ?_; exact ⟨rfl, (E1.trans E2)⟩; (exfalso; omega)
  have k0 : ∀ (w : World), ESl Ints w u1 p → ESl (ESl Ints) w u2 pp → Does Tryz.prog 8 [.agg #[u1, u2]] w (RetDk w 22 58 3 p pp) := fun w h1 h2 => toDesk_ok w u1 u2 p pp h1 h2 ⟨h11, h12⟩ h13 h14
  have k1 : ∀ (w : World) (v1 v2 : Value), ESl Ints w v1 p → ESl (ESl Ints) w v2 pp → Does Tryz.prog 7 [.agg #[v1, v2]] w (Ret w (.bool (decide (DkOk ⟨p, pp⟩)))) := fun w v1 v2 h1 h2 => spec_DeskOk_ok w v1 v2 ⟨p, pp⟩ h1 h2
  have k2 : ∀ (w : World) (v1 v2 : Value), ESl Ints w v1 p → ESl (ESl Ints) w v2 pp → Does Tryz.prog 9 [.agg #[v1, v2]] w (Ret w (.bool (decide (DkOk ⟨p, pp⟩)))) := fun w v1 v2 h1 h2 => impl_DeskOk_ok w v1 v2 ⟨p, pp⟩ h1 h2
  have k3 : ∀ (w : World) (v1 v2 t1 t2 : Value), ESl Ints w v1 p → ESl (ESl Ints) w v2 pp → ESl Ints w t1 p → ESl (ESl Ints) w t2 pp → Does Tryz.prog 10 [.agg #[v1, v2], .agg #[t1, t2]] w (Ret w (.bool true)) := fun w v1 v2 t1 t2 h1 h2 h3 h4 => by
    have := eqDesk_ok w v1 v2 t1 t2 p p pp pp h1 h2 h3 h4
    rwa [decide_eq_true ⟨rfl, rfl⟩] at this
  generalize decide (DkOk ⟨p, pp⟩) = b at k1 k2
  have litown : True := trivial
  focus
    have szE2 := E2.size; have szE1 := E1.size; refine W_region rfl ?_; refine Wo rfl (opv_move (v := .int _ _) rfl) ?_; refine Wo rfl (opv_lss rfl rfl) ?_; refine Wo_nil ?_; refine W_cond_dec rfl (fun h3 => ?_) (fun h3 => ?_)
    (exfalso; omega); refine W_skip ?_; refine W_seq ?_; refine W_region rfl ?_; refine Wo (v := .agg _) rfl (opv_load2 Tryz.isAgg25 Tryz.sizeOf25 rfl (hB1.ext E2)) ?_
    refine Wo_call rfl (opc1 (a := .agg _) Tryz.call8 rfl) (k0 _ ((Mono.mono (E1.trans E2) h1)) ((Mono.mono (E1.trans E2) h2))) ?_; rintro _ w3 ⟨u3, q1, m1, rfl, E3, hO1, hQ1, hm1, hn1⟩; have icu3 := OwnedB.isC hO1
    have cpu3 := OwnedB.capOk hO1; have icq1 := OwnedB.isC (Owned.toB hQ1); have cpq1 := OwnedB.capOk (Owned.toB hQ1); have hs3 := E3.size
    refine Wo_call rfl (opc1 (a := .agg _) Tryz.call7 rfl) (k1 _ _ _ ((OwnedB.read hO1)) ((Owned.read hQ1))) ?_; rintro _ w4 ⟨rfl, E4⟩; have hs4 := E4.size; refine Wo rfl (opv_assign (v := .bool _) rfl) ?_; refine Wo_nil ?_
    refine W_seq ?_; refine W_region rfl ?_; refine Wo (v := .agg _) rfl (opv_load2 Tryz.isAgg25 Tryz.sizeOf25 rfl (hB1.ext ((E2.trans E3).trans E4))) ?_
    refine Wo_call rfl (opc1 (a := .agg _) Tryz.call8 rfl) (k0 _ ((Mono.mono (((E1.trans E2).trans E3).trans E4) h1)) ((Mono.mono (((E1.trans E2).trans E3).trans E4) h2))) ?_; rintro _ w5 ⟨u4, q2, m2, rfl, E5, hO2, hQ2, hm2, hn2⟩
    have icu4 := OwnedB.isC hO2; have cpu4 := OwnedB.capOk hO2; have icq2 := OwnedB.isC (Owned.toB hQ2); have cpq2 := OwnedB.capOk (Owned.toB hQ2); have hs5 := E5.size; refine Wo_alloc2 rfl flat28 ?_; rintro b2 w6 hb2 E6 hB2
    have hlb2 := hB2.lt; have hs6 := E6.size; refine Wo_st2 rfl Tryz.sizeOf28 rfl rfl (by first | rfl | assumption) (by first | rfl | assumption) hB2 (by omega) (((((E1.trans E2).trans E3).trans E4).trans E5).trans E6) ?_
    rintro w7 E7 hB2 K1 hz1; have E8 := ((((E2.trans E3).trans E4).trans E5).trans E6).wroteAt (((((E1.trans E2).trans E3).trans E4).trans E5).trans E6) E7 K1 hz1 (by omega); have szE8 := E8.size
    have E9 := (((E3.trans E4).trans E5).trans E6).wroteAt (((((E1.trans E2).trans E3).trans E4).trans E5).trans E6) E7 K1 hz1 (by omega); have szE9 := E9.size
    have E10 := ((E4.trans E5).trans E6).wroteAt (((((E1.trans E2).trans E3).trans E4).trans E5).trans E6) E7 K1 hz1 (by omega); have szE10 := E10.size
    have E11 := (E5.trans E6).wroteAt (((((E1.trans E2).trans E3).trans E4).trans E5).trans E6) E7 K1 hz1 (by omega); have szE11 := E11.size
    have E12 := E6.wroteAt (((((E1.trans E2).trans E3).trans E4).trans E5).trans E6) E7 K1 hz1 (by omega); have szE12 := E12.size; have hB1 := (hB1.ext ((((E2.trans E3).trans E4).trans E5).trans E6)).of_heap (K1 _ (by omega))
    have hO1 := (hO1.ext ((E4.trans E5).trans E6)).wrote K1 (by omega); have hQ1 := (hQ1.toB.ext ((E4.trans E5).trans E6)).wrote K1 (by omega); have hO2 := (hO2.ext E6).wrote K1 (by omega)
    have hQ2 := (hQ2.toB.ext E6).wrote K1 (by omega); refine Wo_nil ?_; refine W_seq ?_; refine W_region rfl ?_; refine Wo (v := .agg _) rfl (opv_load2 Tryz.isAgg28 Tryz.sizeOf28 rfl hB2) ?_
    refine Wo_call rfl (opc1 (a := .agg _) Tryz.call9 rfl) (k2 _ _ _ ((OwnedB.read hO2)) ((OwnedB.read hQ2))) ?_; rintro _ w8 ⟨rfl, E13⟩; have hs7 := E13.size; refine Wo rfl (opv_assign (v := .bool _) rfl) ?_; refine Wo_nil ?_
    refine W_seq ?_; refine W_seq ?_; refine W_region rfl ?_; refine Wo rfl (opv_move (v := .bool _) rfl) ?_; refine Wo rfl (opv_move (v := .bool _) rfl) ?_; refine Wo rfl (opv_neq_bool Tryz.underlying4 rfl rfl) ?_; refine Wo_nil ?_
    refine W_cond_ndec rfl (fun h4 => ?_) (fun h4 => ?_); contradiction; refine W_skip ?_; refine W_seq ?_; refine W_seq ?_; refine W_held (fun _ => True) mixed rfl (by kernel_rfl) ?_; intro w9 E14 K2 hz2; have hs8 := E14.size
    refine Wh_all (rs := [0, 1]) (by kernel_rfl) rfl ?_; refine WhAll_cons rfl ?_ ?_; refine Wo (v := .agg _) rfl (opv_load2 Tryz.isAgg28 Tryz.sizeOf28 rfl (hB2.ext (E13.trans E14))) ?_; refine Wo_nil ?_; refine ⟨trivial, ?_⟩
    refine Wh_all (rs := [1]) (by kernel_rfl) rfl ?_; refine WhAll_cons rfl ?_ ?_; refine Wo (v := .agg _) rfl (opv_load2 Tryz.isAgg25 Tryz.sizeOf25 rfl (hB1.ext (E13.trans E14))) ?_; refine Wo_nil ?_; refine ⟨trivial, ?_⟩
    refine Wh_all (rs := [2]) (by kernel_rfl) rfl ?_; refine WhAll_cons rfl ?_ ?_; refine Wo_call rfl (opc1 (a := .agg _) Tryz.call8 rfl) (k0 _ ((Mono.mono ((E7.trans E13).trans E14) h1)) ((Mono.mono ((E7.trans E13).trans E14) h2))) ?_
    rintro _ w10 ⟨u5, q3, m3, rfl, E15, hO3, hQ3, hm3, hn3⟩; have icu5 := OwnedB.isC hO3; have cpu5 := OwnedB.capOk hO3; have icq3 := OwnedB.isC (Owned.toB hQ3); have cpq3 := OwnedB.capOk (Owned.toB hQ3); have hs9 := E15.size
    refine Wo_nil ?_; refine ⟨trivial, ?_⟩; refine Wh_all (rs := [3]) (by kernel_rfl) rfl ?_; refine WhAll_cons rfl ?_ ?_
    refine Wo_call rfl (opc2 (a := .agg _) (b := .agg _) Tryz.call10 rfl rfl) (k3 _ _ _ _ _ ((Mono.mono ((E13.trans E14).trans E15) (OwnedB.read hO2))) ((Mono.mono ((E13.trans E14).trans E15) (OwnedB.read hQ2))) ((OwnedB.read hO3)) ((Owned.read hQ3))) ?_
    rintro _ w11 ⟨rfl, E16⟩; have hs10 := E16.size; refine Wo_nil ?_; refine ⟨trivial, ?_⟩; refine Wh_take 4 rfl (by kernel_rfl) (by kernel_rfl) rfl (fun _ _ => opv_not rfl) trivial ?_; refine Wh_done (by kernel_rfl) ?_
    refine W_cond rfl (fun h5 => ?_) (fun h5 => ?_); contradiction; refine W_skip ?_; refine W_seq ?_; refine W_region rfl ?_; refine Wo rfl (opv_assign (v := .bool _) rfl) ?_; refine Wo_nil ?_; refine W_ret ?_
    exact ⟨rfl, ((((E7.trans E13).trans E14).trans E15).trans E16)⟩; exact WhAll_nil; exact WhAll_nil; exact WhAll_nil; refine WhAll_cons rfl ?_ ?_
    refine Wo (v := .agg _) rfl (opv_load2 Tryz.isAgg25 Tryz.sizeOf25 rfl (hB1.ext (E13.trans E14))) ?_; refine Wo_nil ?_; refine ⟨trivial, ?_⟩; refine Wh_all (rs := [0, 2]) (by kernel_rfl) rfl ?_; refine WhAll_cons rfl ?_ ?_
    refine Wo (v := .agg _) rfl (opv_load2 Tryz.isAgg28 Tryz.sizeOf28 rfl (hB2.ext (E13.trans E14))) ?_; refine Wo_nil ?_; refine ⟨trivial, ?_⟩; refine Wh_all (rs := [2]) (by kernel_rfl) rfl ?_; refine WhAll_cons rfl ?_ ?_
    refine Wo_call rfl (opc1 (a := .agg _) Tryz.call8 rfl) (k0 _ ((Mono.mono ((E7.trans E13).trans E14) h1)) ((Mono.mono ((E7.trans E13).trans E14) h2))) ?_; rintro _ w10 ⟨u5, q3, m3, rfl, E15, hO3, hQ3, hm3, hn3⟩
    have icu5 := OwnedB.isC hO3; have cpu5 := OwnedB.capOk hO3; have icq3 := OwnedB.isC (Owned.toB hQ3); have cpq3 := OwnedB.capOk (Owned.toB hQ3); have hs9 := E15.size; refine Wo_nil ?_; refine ⟨trivial, ?_⟩
    refine Wh_all (rs := [3]) (by kernel_rfl) rfl ?_; refine WhAll_cons rfl ?_ ?_
    refine Wo_call rfl (opc2 (a := .agg _) (b := .agg _) Tryz.call10 rfl rfl) (k3 _ _ _ _ _ ((Mono.mono ((E13.trans E14).trans E15) (OwnedB.read hO2))) ((Mono.mono ((E13.trans E14).trans E15) (OwnedB.read hQ2))) ((OwnedB.read hO3)) ((Owned.read hQ3))) ?_
    rintro _ w11 ⟨rfl, E16⟩; have hs10 := E16.size; refine Wo_nil ?_; refine ⟨trivial, ?_⟩; refine Wh_take 4 rfl (by kernel_rfl) (by kernel_rfl) rfl (fun _ _ => opv_not rfl) trivial ?_; refine Wh_done (by kernel_rfl) ?_
    refine W_cond rfl (fun h5 => ?_) (fun h5 => ?_); contradiction; refine W_skip ?_; refine W_seq ?_; refine W_region rfl ?_; refine Wo rfl (opv_assign (v := .bool _) rfl) ?_; refine Wo_nil ?_; refine W_ret ?_
    exact ⟨rfl, ((((E7.trans E13).trans E14).trans E15).trans E16)⟩; exact WhAll_nil; exact WhAll_nil; refine WhAll_cons rfl ?_ ?_
    refine Wo_call rfl (opc1 (a := .agg _) Tryz.call8 rfl) (k0 _ ((Mono.mono ((E7.trans E13).trans E14) h1)) ((Mono.mono ((E7.trans E13).trans E14) h2))) ?_; rintro _ w10 ⟨u5, q3, m3, rfl, E15, hO3, hQ3, hm3, hn3⟩
    have icu5 := OwnedB.isC hO3; have cpu5 := OwnedB.capOk hO3; have icq3 := OwnedB.isC (Owned.toB hQ3); have cpq3 := OwnedB.capOk (Owned.toB hQ3); have hs9 := E15.size; refine Wo_nil ?_; refine ⟨trivial, ?_⟩
    refine Wh_all (rs := [0]) (by kernel_rfl) rfl ?_; refine WhAll_cons rfl ?_ ?_; refine Wo (v := .agg _) rfl (opv_load2 Tryz.isAgg28 Tryz.sizeOf28 rfl (hB2.ext ((E13.trans E14).trans E15))) ?_; refine Wo_nil ?_; refine ⟨trivial, ?_⟩
    refine Wh_all (rs := [3]) (by kernel_rfl) rfl ?_; refine WhAll_cons rfl ?_ ?_
    refine Wo_call rfl (opc2 (a := .agg _) (b := .agg _) Tryz.call10 rfl rfl) (k3 _ _ _ _ _ ((Mono.mono ((E13.trans E14).trans E15) (OwnedB.read hO2))) ((Mono.mono ((E13.trans E14).trans E15) (OwnedB.read hQ2))) ((OwnedB.read hO3)) ((Owned.read hQ3))) ?_
    rintro _ w11 ⟨rfl, E16⟩; have hs10 := E16.size; refine Wo_nil ?_; refine ⟨trivial, ?_⟩; refine Wh_take 4 rfl (by kernel_rfl) (by kernel_rfl) rfl (fun _ _ => opv_not rfl) trivial ?_; refine Wh_done (by kernel_rfl) ?_
    refine W_cond rfl (fun h5 => ?_) (fun h5 => ?_); contradiction; refine W_skip ?_; refine W_seq ?_; refine W_region rfl ?_; refine Wo rfl (opv_assign (v := .bool _) rfl) ?_; refine Wo_nil ?_; refine W_ret ?_
    exact ⟨rfl, ((((E7.trans E13).trans E14).trans E15).trans E16)⟩; exact WhAll_nil; exact WhAll_nil; exact WhAll_nil; exact WhAll_nil

end Go.Proofs.YtgphoihilheoeaaGreatDoor
