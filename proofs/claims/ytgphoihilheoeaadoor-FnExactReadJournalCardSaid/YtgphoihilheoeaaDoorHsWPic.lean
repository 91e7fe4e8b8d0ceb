/- Walks: pictures. -/
import Derived.Test.YtgphoihilheoeaaDoorHsWGen2
namespace Go.Proofs.YtgphoihilheoeaaDoor
open Go.Hs
set_option maxRecDepth 10000
set_option maxHeartbeats 4000000
set_option linter.unusedVariables false
set_option linter.unusedSimpArgs false

theorem l1In_ok (n a b : Int) (w : World) : Does Tryd.prog 42 [.int .i64 n, .int .i64 a, .int .i64 b] w (Ret w (.bool (decide (a ≤ n ∧ n ≤ b)))) := by
  refine fn_of_W1 Tryd.func42 rfl Tryd.results42 Tryd.ntmps42 rfl ?_
  focus
    refine W_seq ?_; refine W_region rfl ?_; refine Wo rfl (opv_assign (v := .bool _) rfl) ?_; refine Wo_nil ?_; refine W_seq ?_; refine W_region rfl ?_; refine Wo rfl (opv_move (v := .int _ _) rfl) ?_
    refine Wo rfl (opv_move (v := .int _ _) rfl) ?_; refine Wo rfl (opv_geq rfl rfl) ?_; refine Wo_split_dec rfl (opv_move (v := .bool _) rfl) (fun h1 => ?_) (fun h1 => ?_); refine Wo rfl (opv_move (v := .int _ _) rfl) ?_
    refine Wo rfl (opv_move (v := .int _ _) rfl) ?_; refine Wo rfl (opv_leq rfl rfl) ?_; refine Wo rfl (opv_pick_t (v := .bool _) rfl rfl) ?_; refine Wo rfl (opv_assign (v := .bool _) rfl) ?_; refine Wo_nil ?_; refine W_ret ?_
    refine at_ret (v := .bool _) rfl ?_; refine ⟨congrArg Value.bool ?_, (Ext.refl _)⟩; rotate_left; refine Wo_skip rfl ?_; refine Wo_skip rfl ?_; refine Wo_skip rfl ?_; refine Wo rfl (opv_pick_f (v := .bool _) rfl rfl) ?_
    refine Wo rfl (opv_assign (v := .bool _) rfl) ?_; refine Wo_nil ?_; refine W_ret ?_; refine at_ret (v := .bool _) rfl ?_; refine ⟨congrArg Value.bool ?_, (Ext.refl _)⟩; rotate_left
  · exact decide_eq_decide.2 (by omega)
  · exact (decide_eq_false (by omega)).symm

def Bits (r : List Int) : Prop := ∀ x ∈ r, x = 0 ∨ x = 1
instance (r : List Int) : Decidable (Bits r) := by unfold Bits; infer_instance
theorem areBits_ok (w : World) (v : Value) (r : List Int) (h : Ints w v r) (n : Int) : Does Tryd.prog 102 [v, .int .i64 n] w (Ret w (.bool (decide (Bits r ∧ (r.length : Int) = n)))) := by
  have hle := h.le
  refine fn_of_W1 Tryd.func102 rfl Tryd.results102 Tryd.ntmps102 rfl ?_
  focus
    refine W_seq ?_; refine W_region rfl ?_; refine Wo rfl (opv_assign (v := .bool _) rfl) ?_; refine Wo_nil ?_; refine W_seq ?_; refine W_seq ?_; refine W_region rfl ?_; refine Wo rfl (opv_move (v := v) rfl) ?_
    refine Wo rfl (opv_len Tryd.underlying80 rfl h) ?_; refine Wo rfl (opv_move (v := .int _ _) rfl) ?_; refine Wo_nil ?_; refine W_block ?_
  refine W_loop [4, 6, 9, 10, 11, 12, 13, 14, 15, 16, 17, 18, 19] (fun (k : Nat) => [(9, .int .i64 (k : Nat))]) (fun k w' => Ext w w' ∧ k ≤ r.length ∧ Bits (r.take k)) (fun x => r.length - x) 0 (by repeat (first | exact trivial | refine And.intro rfl ?_)) ?_ ?_
  · exact ⟨Ext.refl _, Nat.zero_le _, by simp [Bits]⟩
  rintro k ρj w1 ⟨E1, hk, hb⟩
  focus
    have szE1 := E1.size; refine W_seq ?_; refine W_region rfl ?_; refine Wo rfl (opv_lss rfl rfl) ?_; refine Wo_nil ?_; refine W_seq ?_; refine W_cond_dec rfl (fun h1 => ?_) (fun h1 => ?_); refine W_skip ?_; refine W_seq ?_
    refine W_block ?_; refine W_seq ?_; refine W_region rfl ?_; refine Wo_get Tryd.underlying80 Tryd.sizeOf3 Tryd.isAgg3 rfl (fun _ => rfl) rfl h E1 rfl (by first | omega | (simp <;> omega)) ?_; rintro _ _ rfl
    refine Wo rfl (opv_assign (v := .int _ _) rfl) ?_; refine Wo_nil ?_; refine W_seq ?_; refine W_region rfl ?_; refine Wo rfl (opv_move (v := .int _ _) rfl) ?_; refine Wo rfl (opv_neq rfl rfl) ?_
    refine Wo_split_ndec rfl (opv_move (v := .bool _) rfl) (fun h2 => ?_) (fun h2 => ?_); refine Wo rfl (opv_move (v := .int _ _) rfl) ?_; refine Wo rfl (opv_neq rfl rfl) ?_; refine Wo rfl (opv_pick_t (v := .bool _) rfl rfl) ?_
    refine Wo_nil ?_; refine W_cond_ndec rfl (fun h3 => ?_) (fun h3 => ?_); refine W_seq ?_; refine W_region rfl ?_; refine Wo rfl (opv_assign (v := .bool _) rfl) ?_; refine Wo_nil ?_; refine W_ret ?_
    refine at_ret (v := .bool _) rfl ?_; refine ⟨congrArg Value.bool ?_, E1⟩; rotate_left; refine W_skip ?_; refine W_region rfl ?_; refine Wo rfl (opv_add rfl rfl (by omega)) ?_; refine Wo rfl (opv_move (v := .int _ _) rfl) ?_
    refine Wo_nil ?_; rotate_left; refine Wo_skip rfl ?_; refine Wo_skip rfl ?_; refine Wo rfl (opv_pick_f (v := .bool _) rfl rfl) ?_; refine Wo_nil ?_; refine W_cond_false rfl ?_; refine W_skip ?_; refine W_region rfl ?_
    refine Wo rfl (opv_add rfl rfl (by omega)) ?_; refine Wo rfl (opv_move (v := .int _ _) rfl) ?_; refine Wo_nil ?_; rotate_left; refine W_exit ?_; refine exitX_same ?_; refine W_seq ?_; refine W_region rfl ?_
    refine Wo rfl (opv_move (v := v) rfl) ?_; refine Wo rfl (opv_len Tryd.underlying80 rfl h) ?_; refine Wo rfl (opv_move (v := .int _ _) rfl) ?_; refine Wo rfl (opv_eql rfl rfl) ?_; refine Wo rfl (opv_assign (v := .bool _) rfl) ?_
    refine Wo_nil ?_; refine W_ret ?_; refine at_ret (v := .bool _) rfl ?_; refine ⟨congrArg Value.bool ?_, E1⟩; rotate_left
  · refine (decide_eq_false ?_).symm
    rintro ⟨h9, _⟩
    have := h9 _ (List.getElem_mem (show k < r.length by omega))
    omega
  · refine ⟨(k + 1), by repeat (first | exact trivial | refine And.intro rfl ?_), by repeat (first | with_reducible exact Same.refl | refine Same.upd rfl ?_ | refine Same.upds rfl ?_ | refine Same.mix rfl ?_), ?_, ?_⟩
    · refine ⟨E1, by omega, ?_⟩
      rw [take_snoc _ _ (by omega)]
      intro x hx
      rcases List.mem_append.1 hx with hx | hx
      · exact hb x hx
      · rw [List.mem_singleton.1 hx]; omega
    · omega
  · refine ⟨(k + 1), by repeat (first | exact trivial | refine And.intro rfl ?_), by repeat (first | with_reducible exact Same.refl | refine Same.upd rfl ?_ | refine Same.upds rfl ?_ | refine Same.mix rfl ?_), ?_, ?_⟩
    · refine ⟨E1, by omega, ?_⟩
      rw [take_snoc _ _ (by omega)]
      intro x hx
      rcases List.mem_append.1 hx with hx | hx
      · exact hb x hx
      · rw [List.mem_singleton.1 hx]; omega
    · omega
  · obtain rfl : k = r.length := by omega
    have hb' : Bits r := by simpa using hb
    exact decide_eq_decide.2 ⟨fun h => ⟨hb', h⟩, fun h => h.2⟩

theorem isPicture_ok (w : World) (v : Value) (p : List (List Int)) (h : ESl Ints w v p) : Does Tryd.prog 84 [v] w (Ret w (.bool (decide (Pic p)))) := by
  have hle := h.le
  refine fn_of_W1 Tryd.func84 rfl Tryd.results84 Tryd.ntmps84 rfl ?_
  focus
    refine W_seq ?_; refine W_region rfl ?_; refine Wo rfl (opv_assign (v := .bool _) rfl) ?_; refine Wo_nil ?_; refine W_seq ?_; refine W_seq ?_; refine W_region rfl ?_; refine Wo rfl (opv_move (v := v) rfl) ?_
    refine Wo rfl (opv_len Tryd.underlying49 rfl h) ?_; refine Wo rfl (opv_lss rfl rfl) ?_; refine Wo_split_dec rfl (opv_move (v := .bool _) rfl) (fun h1 => ?_) (fun h1 => ?_); refine Wo_skip rfl ?_; refine Wo_skip rfl ?_
    refine Wo_skip rfl ?_; refine Wo rfl (opv_pick_t (v := .bool _) rfl rfl) ?_; refine Wo_nil ?_; refine W_cond_true rfl ?_; refine W_seq ?_; refine W_region rfl ?_; refine Wo rfl (opv_assign (v := .bool _) rfl) ?_; refine Wo_nil ?_
    refine W_ret ?_; refine at_ret (v := .bool _) rfl ?_; refine ⟨congrArg Value.bool ?_, (Ext.refl _)⟩; rotate_left; refine Wo rfl (opv_move (v := v) rfl) ?_; refine Wo rfl (opv_len Tryd.underlying49 rfl h) ?_
    refine Wo rfl (opv_gtr rfl rfl) ?_; refine Wo rfl (opv_pick_f (v := .bool _) rfl rfl) ?_; refine Wo_nil ?_; refine W_cond_dec rfl (fun h2 => ?_) (fun h2 => ?_); refine W_seq ?_; refine W_region rfl ?_
    refine Wo rfl (opv_assign (v := .bool _) rfl) ?_; refine Wo_nil ?_; refine W_ret ?_; refine at_ret (v := .bool _) rfl ?_; refine ⟨congrArg Value.bool ?_, (Ext.refl _)⟩; rotate_left; refine W_skip ?_; refine W_seq ?_; refine W_seq ?_
    refine W_region rfl ?_; refine Wo rfl (opv_move (v := v) rfl) ?_; refine Wo rfl (opv_len Tryd.underlying49 rfl h) ?_; refine Wo rfl (opv_move (v := .int _ _) rfl) ?_; refine Wo_nil ?_; refine W_block ?_; rotate_left
  · exact (decide_eq_false (fun ⟨_, h3, _⟩ => by omega)).symm
  · exact (decide_eq_false (fun ⟨h3, _⟩ => by omega)).symm
  · refine W_loop [2, 4, 15, 16, 17, 18, 19, 20, 21, 22, 23, 24] (fun (k : Nat) => [(15, .int .i64 (k : Nat))]) (fun k w' => Ext w w' ∧ k ≤ p.length ∧ ∀ r ∈ p.take k, r.length = p.length ∧ Bits r) (fun x => p.length - x) 0 (by repeat (first | exact trivial | refine And.intro rfl ?_)) ?_ ?_
    · exact ⟨Ext.refl _, Nat.zero_le _, by simp⟩
    rintro k ρj w1 ⟨E1, hk, hb⟩
    focus
      have szE1 := E1.size; refine W_seq ?_; refine W_region rfl ?_; refine Wo rfl (opv_lss rfl rfl) ?_; refine Wo_nil ?_; refine W_seq ?_; refine W_cond_dec rfl (fun h3 => ?_) (fun h3 => ?_); refine W_skip ?_; refine W_seq ?_
      refine W_block ?_; refine W_seq ?_; refine W_region rfl ?_; refine Wo_get Tryd.underlying49 Tryd.sizeOf80 Tryd.isAgg80 rfl (fun _ => rfl) rfl h E1 rfl (by first | omega | (simp <;> omega)) ?_; rintro _ u1 hu1
      refine Wo rfl (opv_assign (v := u1) rfl) ?_; refine Wo_nil ?_; refine W_seq ?_; refine W_region rfl ?_; refine Wo rfl (opv_move (v := u1) rfl) ?_; refine Wo rfl (opv_move (v := v) rfl) ?_
      refine Wo rfl (opv_len Tryd.underlying49 rfl h) ?_; refine Wo_call rfl (opc2 (a := u1) (b := .int _ _) Tryd.call102 rfl rfl) (areBits_ok _ _ _ ((Mono.mono E1 hu1)) _) ?_; rintro _ w2 ⟨rfl, E2⟩; have hs1 := E2.size
      refine Wo rfl (opv_not rfl) ?_; refine Wo_nil ?_; refine W_cond_ndec rfl (fun h4 => ?_) (fun h4 => ?_); refine W_seq ?_; refine W_region rfl ?_; refine Wo rfl (opv_assign (v := .bool _) rfl) ?_; refine Wo_nil ?_; refine W_ret ?_
      refine at_ret (v := .bool _) rfl ?_; refine ⟨congrArg Value.bool ?_, (E1.trans E2)⟩; rotate_left; refine W_skip ?_; refine W_region rfl ?_; refine Wo rfl (opv_add rfl rfl (by omega)) ?_
      refine Wo rfl (opv_move (v := .int _ _) rfl) ?_; refine Wo_nil ?_; rotate_left; refine W_exit ?_; refine exitX_same ?_; refine W_seq ?_; refine W_region rfl ?_; refine Wo rfl (opv_assign (v := .bool _) rfl) ?_; refine Wo_nil ?_
      refine W_ret ?_; refine at_ret (v := .bool _) rfl ?_; refine ⟨congrArg Value.bool ?_, E1⟩; rotate_left
    · refine (decide_eq_false ?_).symm
      rintro ⟨_, _, h9⟩
      have := h9 _ (List.getElem_mem (show k < p.length by omega))
      have hx : ¬ (Bits p[k] ∧ (p[k].length : Int) = (p.length : Int)) := by assumption
      exact hx ⟨this.2, by omega⟩
    · refine ⟨(k + 1), by repeat (first | exact trivial | refine And.intro rfl ?_), by repeat (first | with_reducible exact Same.refl | refine Same.upd rfl ?_ | refine Same.upds rfl ?_ | refine Same.mix rfl ?_), ?_, ?_⟩
      · refine ⟨E1.trans E2, by omega, ?_⟩
        rw [take_snoc _ _ (by omega)]
        intro r hr
        rcases List.mem_append.1 hr with hr | hr
        · exact hb r hr
        · rw [List.mem_singleton.1 hr]
          have hx : Bits p[k] ∧ (p[k].length : Int) = (p.length : Int) := by assumption
          exact ⟨by omega, hx.1⟩
      · omega
    · obtain rfl : k = p.length := by omega
      exact (decide_eq_true ⟨by omega, by omega, by simpa [Bits] using hb⟩).symm

theorem hasNode_ok (w : World) (v : Value) (p : List (List Int)) (h : ESl Ints w v p) (z : Int) : Does Tryd.prog 62 [v, .int .i64 z] w (Ret w (.bool (decide (Nod p z)))) := by
  have hle := h.le
  refine fn_of_W1 Tryd.func62 rfl Tryd.results62 Tryd.ntmps62 rfl ?_
  focus
    refine W_seq ?_; refine W_region rfl ?_; refine Wo rfl (opv_assign (v := .bool _) rfl) ?_; refine Wo_nil ?_; refine W_seq ?_; refine W_region rfl ?_; refine Wo rfl (opv_move (v := v) rfl) ?_
    refine Wo_call rfl (opc1 (a := v) Tryd.call84 rfl) (isPicture_ok _ _ _ (h)) ?_; rintro _ w1 ⟨rfl, E1⟩; have hs1 := E1.size; refine Wo_split_dec rfl (opv_move (v := .bool _) rfl) (fun h1 => ?_) (fun h1 => ?_)
    refine Wo rfl (opv_move (v := .int _ _) rfl) ?_; refine Wo rfl (opv_geq rfl rfl) ?_; refine Wo rfl (opv_pick_t (v := .bool _) rfl rfl) ?_; refine Wo_split_dec rfl (opv_move (v := .bool _) rfl) (fun h2 => ?_) (fun h2 => ?_)
    refine Wo rfl (opv_move (v := .int _ _) rfl) ?_; refine Wo rfl (opv_move (v := v) rfl) ?_; refine Wo rfl (opv_len Tryd.underlying49 rfl h) ?_; refine Wo rfl (opv_lss rfl rfl) ?_; refine Wo rfl (opv_pick_t (v := .bool _) rfl rfl) ?_
    refine Wo rfl (opv_assign (v := .bool _) rfl) ?_; refine Wo_nil ?_; refine W_ret ?_; refine at_ret (v := .bool _) rfl ?_; refine ⟨congrArg Value.bool ?_, E1⟩; rotate_left; refine Wo_skip rfl ?_; refine Wo_skip rfl ?_
    refine Wo_skip rfl ?_; refine Wo_skip rfl ?_; refine Wo rfl (opv_pick_f (v := .bool _) rfl rfl) ?_; refine Wo rfl (opv_assign (v := .bool _) rfl) ?_; refine Wo_nil ?_; refine W_ret ?_; refine at_ret (v := .bool _) rfl ?_
    refine ⟨congrArg Value.bool ?_, E1⟩; rotate_left; refine Wo_skip rfl ?_; refine Wo_skip rfl ?_; refine Wo rfl (opv_pick_f (v := .bool _) rfl rfl) ?_; refine Wo rfl (opv_move (v := .bool _) rfl) ?_; refine Wo_skip rfl ?_
    refine Wo_skip rfl ?_; refine Wo_skip rfl ?_; refine Wo_skip rfl ?_; refine Wo rfl (opv_pick_f (v := .bool _) rfl rfl) ?_; refine Wo rfl (opv_assign (v := .bool _) rfl) ?_; refine Wo_nil ?_; refine W_ret ?_
    refine at_ret (v := .bool _) rfl ?_; refine ⟨congrArg Value.bool ?_, E1⟩; rotate_left
  · exact decide_eq_decide.2 ⟨fun h => ⟨by assumption, by assumption, h⟩, fun h => h.2.2⟩
  · exact (decide_eq_false (fun ⟨_, h, _⟩ => by omega)).symm
  · exact (decide_eq_false (fun ⟨h, _⟩ => by contradiction)).symm

theorem PictureOk_ok (w : World) (v : Value) (p : List (List Int)) (h : ESl Ints w v p) : Does Tryd.prog 70 [v] w (Ret w (.bool (decide (Pic p)))) := by
  have hle := h.le
  refine fn_of_W1 Tryd.func70 rfl Tryd.results70 Tryd.ntmps70 rfl ?_
  focus
    refine W_seq ?_; refine W_region rfl ?_; refine Wo rfl (opv_assign (v := .bool _) rfl) ?_; refine Wo_nil ?_; refine W_seq ?_; refine W_seq ?_; refine W_region rfl ?_; refine Wo rfl (opv_assign (v := .int _ _) rfl) ?_
    refine Wo_nil ?_; refine W_block ?_
  refine W_loop [2, 3, 4, 5, 6, 7, 8, 9, 10, 11, 12, 13, 14, 15, 16, 17, 18, 19, 20, 21, 22, 23, 24, 25, 26, 27, 28, 29, 30, 31, 32, 33] (fun (k : Nat) => [(3, .int .i64 (k : Nat))]) (fun k w' => Ext w w' ∧ k ≤ p.length ∧ ∀ r ∈ p.take k, r.length = p.length ∧ Bits r) (fun x => p.length - x) 0 (by repeat (first | exact trivial | refine And.intro rfl ?_)) ?_ ?_
  · exact ⟨Ext.refl _, Nat.zero_le _, by simp⟩
  rintro k ρj w1 ⟨E1, hk, hb⟩
  by_cases hlt : k < p.length
  · focus
      have szE1 := E1.size; refine W_seq ?_; refine W_seq ?_; refine W_region rfl ?_; refine Wo rfl (opv_move (v := .int _ _) rfl) ?_; refine Wo rfl (opv_move (v := v) rfl) ?_; refine Wo rfl (opv_len Tryd.underlying49 rfl h) ?_
      refine Wo rfl (opv_lss rfl rfl) ?_; refine Wo_nil ?_; refine W_cond_dec rfl (fun h1 => ?_) (fun h1 => ?_); refine W_skip ?_; refine W_seq ?_; refine W_block ?_; refine W_seq ?_; refine W_seq ?_; refine W_region rfl ?_
      refine Wo rfl (opv_move (v := v) rfl) ?_; refine Wo rfl (opv_move (v := .int _ _) rfl) ?_; refine Wo_get Tryd.underlying49 Tryd.sizeOf80 Tryd.isAgg80 rfl (fun _ => rfl) rfl h E1 rfl (by first | omega | (simp <;> omega)) ?_
      rintro _ u1 hu1; refine Wo rfl (opv_len Tryd.underlying80 rfl hu1) ?_; refine Wo rfl (opv_move (v := v) rfl) ?_; refine Wo rfl (opv_len Tryd.underlying49 rfl h) ?_; refine Wo rfl (opv_neq rfl rfl) ?_; refine Wo_nil ?_
      refine W_cond_ndec rfl (fun h2 => ?_) (fun h2 => ?_); refine W_seq ?_; refine W_region rfl ?_; refine Wo rfl (opv_assign (v := .bool _) rfl) ?_; refine Wo_nil ?_; refine W_ret ?_; refine at_ret (v := .bool _) rfl ?_
      refine ⟨congrArg Value.bool ?_, E1⟩; rotate_left; refine W_skip ?_; refine W_seq ?_; refine W_region rfl ?_; refine Wo rfl (opv_assign (v := .int _ _) rfl) ?_; refine Wo_nil ?_; refine W_block ?_; rotate_left; (exfalso; omega)
    · refine (decide_eq_false ?_).symm
      rintro ⟨_, _, h9⟩
      have := (h9 _ (List.getElem_mem hlt)).1
      omega
    refine W_loop [2, 4, 19, 20, 21, 22, 23, 24, 25, 26, 27, 28, 29, 30, 31, 32, 33] (fun (j : Nat) => [(4, .int .i64 (j : Nat))]) (fun j w' => Ext w w' ∧ j ≤ p.length ∧ Bits (p[k].take j)) (fun x => p.length - x) 0 (by repeat (first | exact trivial | refine And.intro rfl ?_)) ?_ ?_
    · exact ⟨E1, Nat.zero_le _, by simp [Bits]⟩
    rintro j ρi w2 ⟨E2, hj, hbj⟩
    focus
      have szE2 := E2.size; have szE1 := E1.size; refine W_seq ?_; refine W_seq ?_; refine W_region rfl ?_; refine Wo rfl (opv_move (v := .int _ _) rfl) ?_; refine Wo rfl (opv_move (v := v) rfl) ?_
      refine Wo rfl (opv_len Tryd.underlying49 rfl h) ?_; refine Wo rfl (opv_lss rfl rfl) ?_; refine Wo_nil ?_; refine W_cond_dec rfl (fun h3 => ?_) (fun h3 => ?_); refine W_skip ?_; refine W_seq ?_; refine W_block ?_; refine W_seq ?_
      refine W_region rfl ?_; refine Wo rfl (opv_move (v := v) rfl) ?_; refine Wo rfl (opv_move (v := .int _ _) rfl) ?_
      refine Wo_get Tryd.underlying49 Tryd.sizeOf80 Tryd.isAgg80 rfl (fun _ => rfl) rfl h E2 rfl (by first | omega | (simp <;> omega)) ?_; rintro _ u2 hu2; refine Wo rfl (opv_move (v := .int _ _) rfl) ?_
      refine Wo_get Tryd.underlying80 Tryd.sizeOf3 Tryd.isAgg3 rfl (fun _ => rfl) rfl hu2 E2 rfl (by first | omega | (simp <;> omega)) ?_; rintro _ _ rfl
      refine Wo_call rfl (opc3 (a := .int _ _) (b := .int _ _) (c := .int _ _) Tryd.call42 rfl rfl rfl) (l1In_ok _ _ _ _) ?_; rintro _ w3 ⟨rfl, E3⟩; have hs1 := E3.size; refine Wo rfl (opv_not rfl) ?_; refine Wo_nil ?_
      refine W_cond_ndec rfl (fun h4 => ?_) (fun h4 => ?_); refine W_seq ?_; refine W_region rfl ?_; refine Wo rfl (opv_assign (v := .bool _) rfl) ?_; refine Wo_nil ?_; refine W_ret ?_; refine at_ret (v := .bool _) rfl ?_
      refine ⟨congrArg Value.bool ?_, (E2.trans E3)⟩; rotate_left; refine W_skip ?_; refine W_region rfl ?_; refine Wo rfl (opv_move (v := .int _ _) rfl) ?_; refine Wo rfl (opv_add rfl rfl (by omega)) ?_
      refine Wo rfl (opv_assign (v := .int _ _) rfl) ?_; refine Wo_nil ?_; rotate_left; refine W_exit ?_; refine exitX_same ?_; refine W_region rfl ?_; refine Wo rfl (opv_move (v := .int _ _) rfl) ?_
      refine Wo rfl (opv_add rfl rfl (by omega)) ?_; refine Wo rfl (opv_assign (v := .int _ _) rfl) ?_; refine Wo_nil ?_; rotate_left
    · refine (decide_eq_false ?_).symm
      rintro ⟨_, _, h9⟩
      have := (h9 _ (List.getElem_mem hlt)).2 _ (List.getElem_mem (show j < p[k].length by omega))
      omega
    · refine ⟨(j + 1), by repeat (first | exact trivial | refine And.intro rfl ?_), by repeat (first | with_reducible exact Same.refl | refine Same.upd rfl ?_ | refine Same.upds rfl ?_ | refine Same.mix rfl ?_), ?_, ?_⟩
      · refine ⟨E2.trans E3, by omega, ?_⟩
        rw [take_snoc _ _ (by omega)]
        intro x hx
        rcases List.mem_append.1 hx with hx | hx
        · exact hbj x hx
        · rw [List.mem_singleton.1 hx]; omega
      · omega
    · refine ⟨(k + 1), by repeat (first | exact trivial | refine And.intro rfl ?_), by repeat (first | with_reducible exact Same.refl | refine Same.upd rfl ?_ | refine Same.upds rfl ?_ | refine Same.mix rfl ?_), ?_, ?_⟩
      · refine ⟨E2, by omega, ?_⟩
        rw [take_snoc _ _ (by omega)]
        intro r hr
        rcases List.mem_append.1 hr with hr | hr
        · exact hb r hr
        · rw [List.mem_singleton.1 hr]
          obtain rfl : j = p.length := by omega
          refine ⟨by omega, ?_⟩
          have e : p[k].take p.length = p[k] := List.take_of_length_le (by omega)
          rw [e] at hbj
          exact hbj
      · omega
  · obtain rfl : k = p.length := by omega
    focus
      have szE1 := E1.size; refine W_seq ?_; refine W_seq ?_; refine W_region rfl ?_; refine Wo rfl (opv_move (v := .int _ _) rfl) ?_; refine Wo rfl (opv_move (v := v) rfl) ?_; refine Wo rfl (opv_len Tryd.underlying49 rfl h) ?_
      refine Wo rfl (opv_lss rfl rfl) ?_; refine Wo_nil ?_; refine W_cond_dec rfl (fun h1 => ?_) (fun h1 => ?_); (exfalso; omega); refine W_exit ?_; refine exitX_same ?_; refine W_seq ?_; refine W_region rfl ?_
      refine Wo rfl (opv_move (v := v) rfl) ?_; refine Wo rfl (opv_len Tryd.underlying49 rfl h) ?_; refine Wo_call rfl (opc3 (a := .int _ _) (b := .int _ _) (c := .int _ _) Tryd.call42 rfl rfl rfl) (l1In_ok _ _ _ _) ?_
      rintro _ w2 ⟨rfl, E2⟩; have hs1 := E2.size; refine Wo rfl (opv_assign (v := .bool _) rfl) ?_; refine Wo_nil ?_; refine W_ret ?_; refine at_ret (v := .bool _) rfl ?_; refine ⟨congrArg Value.bool ?_, (E1.trans E2)⟩
    have hb' : ∀ r ∈ p, r.length = p.length ∧ Bits r := by simpa using hb
    exact decide_eq_decide.2 ⟨fun h => ⟨by omega, by omega, hb'⟩, fun ⟨h3, h4, _⟩ => by omega⟩

theorem NodeOk_ok (w : World) (v : Value) (p : List (List Int)) (h : ESl Ints w v p) (z : Int) : Does Tryd.prog 59 [v, .int .i64 z] w (Ret w (.bool (decide (Nod p z)))) := by
  have hle := h.le
  refine fn_of_W1 Tryd.func59 rfl Tryd.results59 Tryd.ntmps59 rfl ?_
  focus
    refine W_seq ?_; refine W_region rfl ?_; refine Wo rfl (opv_assign (v := .bool _) rfl) ?_; refine Wo_nil ?_; refine W_seq ?_; refine W_region rfl ?_; refine Wo rfl (opv_move (v := v) rfl) ?_
    refine Wo_call rfl (opc1 (a := v) Tryd.call70 rfl) (PictureOk_ok _ _ _ (h)) ?_; rintro _ w1 ⟨rfl, E1⟩; have hs1 := E1.size; refine Wo_split_dec rfl (opv_move (v := .bool _) rfl) (fun h1 => ?_) (fun h1 => ?_)
    refine Wo rfl (opv_move (v := .int _ _) rfl) ?_; refine Wo rfl (opv_move (v := v) rfl) ?_; refine Wo rfl (opv_len Tryd.underlying49 rfl h) ?_; refine Wo rfl (opv_sub rfl rfl (by omega)) ?_
    refine Wo_call rfl (opc3 (a := .int _ _) (b := .int _ _) (c := .int _ _) Tryd.call42 rfl rfl rfl) (l1In_ok _ _ _ _) ?_; rintro _ w2 ⟨rfl, E2⟩; have hs2 := E2.size; refine Wo rfl (opv_pick_t (v := .bool _) rfl rfl) ?_
    refine Wo rfl (opv_assign (v := .bool _) rfl) ?_; refine Wo_nil ?_; refine W_ret ?_; refine at_ret (v := .bool _) rfl ?_; refine ⟨congrArg Value.bool ?_, (E1.trans E2)⟩; rotate_left; refine Wo_skip rfl ?_; refine Wo_skip rfl ?_
    refine Wo_skip rfl ?_; refine Wo_skip rfl ?_; refine Wo_skip rfl ?_; refine Wo rfl (opv_pick_f (v := .bool _) rfl rfl) ?_; refine Wo rfl (opv_assign (v := .bool _) rfl) ?_; refine Wo_nil ?_; refine W_ret ?_
    refine at_ret (v := .bool _) rfl ?_; refine ⟨congrArg Value.bool ?_, E1⟩; rotate_left
  · exact decide_eq_decide.2 ⟨fun h => ⟨by assumption, by omega, by omega⟩, fun h => ⟨h.2.1, by have := h.2.2; omega⟩⟩
  · exact (decide_eq_false (fun ⟨h, _⟩ => by contradiction)).symm

theorem arrowsOf_ok (w : World) (v : Value) (p : List (List Int)) (h : ESl Ints w v p) (z : Int) (hz : 0 ≤ z ∧ z < p.length) (hn : (p.getD z.toNat []).length ≤ 1099511627776) :
    Does Tryd.prog 106 [v, .int .i64 z] w (RetO w XI (ints (arr p z.toNat))) := by
  have hle := h.le
  have hzl : z.toNat < p.length := by omega
  unfold arr
  rw [getD_lt hzl] at hn ⊢
  refine fn_of_W1 Tryd.func106 rfl Tryd.results106 Tryd.ntmps106 rfl ?_
  focus
    refine W_seq ?_; refine W_region rfl ?_; refine Wo rfl (opv_assign (v := .slice _ _ _) rfl) ?_; refine Wo_nil ?_; refine W_seq ?_; refine W_region rfl ?_; refine Wo_lit0 XInt rfl el80 Tryd.sizeOf3 ?_; rintro b1 w1 hb1 b1lt E1 hO1
    have hs1 := E1.size; refine Wo rfl (opv_assign (v := .slice _ _ _) rfl) ?_; refine Wo_nil ?_; refine W_seq ?_; refine W_seq ?_; refine W_region rfl ?_; refine Wo rfl (opv_move (v := v) rfl) ?_
    refine Wo rfl (opv_move (v := .int _ _) rfl) ?_; refine Wo_get_z Tryd.underlying49 Tryd.sizeOf80 Tryd.isAgg80 rfl (fun _ => rfl) rfl h E1 rfl (by first | omega | (simp <;> omega)) ?_; rintro _ u1 hu1
    refine Wo rfl (opv_len Tryd.underlying80 rfl hu1) ?_; refine Wo rfl (opv_move (v := .int _ _) rfl) ?_; refine Wo_nil ?_; refine W_block ?_
  refine W_loop [5, 6, 7, 14, 15, 16, 17, 18, 19, 20, 21, 22, 23, 24, 25] (fun (k, u) => [(14, .int .i64 (k : Nat)), (5, u)]) (fun (k, u) w' => Ext w w' ∧ k ≤ p[z.toNat].length ∧ Owned w.heap.size XI w' u (ints ((List.range k).filter fun j => decide (p[z.toNat].getD j 0 = 1)))) (fun x => p[z.toNat].length - x.1) (0, .slice (some ⟨b1, 0, none⟩) 0 0) (by repeat (first | exact trivial | refine And.intro rfl ?_)) ?_ ?_
  · exact ⟨by assumption, Nat.zero_le _, by simpa [ints] using hO1⟩
  rintro ⟨k, u⟩ ρj w2 ⟨E2, hk, hO2⟩
  have hll : (ints ((List.range k).filter fun j => decide (p[z.toNat].getD j 0 = 1))).length ≤ k := by
    simp only [ints, List.length_map]; exact Nat.le_trans (List.length_filter_le _ _) (by simp)
  have hfs := filter_range_succ (fun j => decide (p[z.toNat].getD j 0 = 1)) k
  focus
    have szE2 := E2.size; have szE1 := E1.size; refine W_seq ?_; refine W_region rfl ?_; refine Wo rfl (opv_lss rfl rfl) ?_; refine Wo_nil ?_; refine W_seq ?_; refine W_cond_dec rfl (fun h1 => ?_) (fun h1 => ?_); refine W_skip ?_
    refine W_seq ?_; refine W_block ?_; refine W_seq ?_; refine W_region rfl ?_; refine Wo rfl (opv_move (v := .int _ _) rfl) ?_
    refine Wo_get Tryd.underlying80 Tryd.sizeOf3 Tryd.isAgg3 rfl (fun _ => rfl) rfl hu1 E2 rfl (by first | omega | (simp <;> omega)) ?_; rintro _ _ rfl; refine Wo rfl (opv_assign (v := .int _ _) rfl) ?_
    refine Wo rfl (opv_assign (v := .int _ _) rfl) ?_; refine Wo_nil ?_; refine W_seq ?_; refine W_region rfl ?_; refine Wo rfl (opv_move (v := .int _ _) rfl) ?_; refine Wo rfl (opv_eql rfl rfl) ?_; refine Wo_nil ?_
    refine W_cond_dec rfl (fun h2 => ?_) (fun h2 => ?_); refine W_region rfl ?_; refine Wo rfl (opv_move (v := u) rfl) ?_; refine Wo rfl (opv_move (v := .int _ _) rfl) ?_
    refine Wo_buildSlice (ps := [(0, .int _ _)]) (cs := [_]) rfl Tryd.underlying80 Tryd.sizeOf3 Tryd.zeroValue3 rfl rfl rfl rfl ?_; rintro b2 w3 hb2 E3 hB1; have hlb2 := hB1.lt; have hs2 := E3.size
    refine Wo_app1 rfl el80 rfl rfl hB1 (hO2.toB.ext E3) Owned.int (Nat.le_refl _) (by first | omega | (simp <;> omega)) (by omega) (by omega) (E2.trans E3) (by omega) ?_; have hT1 := (hO2.toB.ext E3); rintro v1 w4 hO2 E4 M1
    have hB1 := hB1.moves M1 hT1 (by omega); have hs3 := E4.size; refine Wo rfl (opv_assign (v := v1) rfl) ?_; refine Wo_nil ?_; refine W_region rfl ?_; refine Wo rfl (opv_add rfl rfl (by omega)) ?_
    refine Wo rfl (opv_move (v := .int _ _) rfl) ?_; refine Wo_nil ?_; rotate_left; refine W_skip ?_; refine W_region rfl ?_; refine Wo rfl (opv_add rfl rfl (by omega)) ?_; refine Wo rfl (opv_move (v := .int _ _) rfl) ?_
    refine Wo_nil ?_; rotate_left; refine W_exit ?_; refine exitX_same ?_; refine W_seq ?_; refine W_region rfl ?_; refine Wo rfl (opv_move (v := u) rfl) ?_; refine Wo rfl (opv_assign (v := u) rfl) ?_; refine Wo_nil ?_; refine W_ret ?_
    refine ⟨E2, (congrArg (Owned _ _ _ _) ?_).mp (hO2.toB.o.mono (by omega))⟩; rotate_left
  · refine ⟨((k + 1, v1)), by repeat (first | exact trivial | refine And.intro rfl ?_), by repeat (first | with_reducible exact Same.refl | refine Same.upd rfl ?_ | refine Same.upds rfl ?_ | refine Same.mix rfl ?_), ?_, ?_⟩
    · refine ⟨by assumption, by omega, ?_⟩
      rw [hfs, getD_lt (by omega), if_pos (by simpa using by assumption)]
      simpa [ints] using hO2
    · simp only; omega
  · refine ⟨((k + 1, u)), by repeat (first | exact trivial | refine And.intro rfl ?_), by repeat (first | with_reducible exact Same.refl | refine Same.upd rfl ?_ | refine Same.upds rfl ?_ | refine Same.mix rfl ?_), ?_, ?_⟩
    · refine ⟨E2, by omega, ?_⟩
      rw [hfs, getD_lt (by omega), if_neg (by simpa using by assumption)]
      simpa [ints] using hO2
    · simp only; omega
  · obtain rfl : k = p[z.toNat].length := by omega
    rfl

end Go.Proofs.YtgphoihilheoeaaDoor
