/- Walks: numbers read by the reference. -/
import Derived.Test.YtgphoihilheoeaaDoorHsWDr
namespace Go.Proofs.YtgphoihilheoeaaDoor
open Go.Hs
set_option maxRecDepth 10000
set_option maxHeartbeats 4000000
set_option linter.unusedVariables false
set_option linter.unusedSimpArgs false

def digN (l : List UInt8) : Int := l.foldl (fun n c => 10 * n + ((c.toNat : Int) - 48)) 0
def digV (t : List UInt8) : Int := if (1 ≤ (t.length : Int) ∧ (t.length : Int) ≤ 5) ∧ ¬ (1 < (t.length : Int) ∧ ((t.getD 0 0).toNat : Int) = 48) ∧ ∀ c ∈ t, 48 ≤ c.toNat ∧ c.toNat ≤ 57 then digN t else -1
theorem digV_one {d : Nat} (hd : d ≤ 9) : digV [dig d] = d := by
  have h := dig_toNat (n := d) (by omega)
  rw [digV, if_pos]
  · simp only [digN, List.foldl_cons, List.foldl_nil, h]; omega
  · refine ⟨by simp, by simp, fun c hc => ?_⟩
    obtain rfl := List.mem_singleton.1 hc; omega
theorem l1Digits_ok (w : World) (t : List UInt8) (ht : t.length ≤ 1048576) : Does Tryd.prog 46 [str t] w (Ret w (.int .i64 (digV t))) := by
  refine fn_of_W1 Tryd.func46 rfl Tryd.results46 Tryd.ntmps46 rfl ?_
  focus
    refine W_seq ?_; refine W_region rfl ?_; refine Wo rfl (opv_assign (v := .int _ _) rfl) ?_; refine Wo_nil ?_; refine W_seq ?_; refine W_seq ?_; refine W_region rfl ?_; refine Wo rfl (opv_move (v := .string _) rfl) ?_
    refine Wo rfl (opv_len_str Tryd.underlying9 rfl) ?_; refine Wo_call rfl (opc3 (a := .int _ _) (b := .int _ _) (c := .int _ _) Tryd.call42 rfl rfl rfl) (l1In_ok _ _ _ _) ?_; rintro _ w1 ⟨rfl, E1⟩; have hs1 := E1.size
    refine Wo rfl (opv_not rfl) ?_; refine Wo_split_ndec rfl (opv_move (v := .bool _) rfl) (fun h1 => ?_) (fun h1 => ?_); refine Wo_skip rfl ?_; refine Wo_skip rfl ?_; refine Wo_skip rfl ?_; refine Wo_skip rfl ?_; refine Wo_skip rfl ?_
    refine Wo_skip rfl ?_; refine Wo_skip rfl ?_; refine Wo_skip rfl ?_; refine Wo rfl (opv_pick_t (v := .bool _) rfl rfl) ?_; refine Wo_nil ?_; refine W_cond_true rfl ?_; refine W_seq ?_; refine W_region rfl ?_
    refine Wo rfl (opv_assign (v := .int _ _) rfl) ?_; refine Wo_nil ?_; refine W_ret ?_; refine at_ret (v := .int _ _) rfl ?_; refine ⟨congrArg (Value.int .i64) ?_, E1⟩; rotate_left; refine Wo rfl (opv_move (v := .string _) rfl) ?_
    refine Wo rfl (opv_len_str Tryd.underlying9 rfl) ?_; refine Wo rfl (opv_gtr rfl rfl) ?_; refine Wo_split_dec rfl (opv_move (v := .bool _) rfl) (fun h2 => ?_) (fun h2 => ?_); refine Wo rfl (opv_move (v := .string _) rfl) ?_
    refine Wo rfl (opv_index_str (k := 0) Tryd.underlying9 rfl rfl (by omega)) ?_; refine Wo rfl (opv_eql rfl rfl) ?_; refine Wo rfl (opv_pick_t (v := .bool _) rfl rfl) ?_; refine Wo rfl (opv_pick_f (v := .bool _) rfl rfl) ?_
    refine Wo_nil ?_; refine W_cond_dec rfl (fun h3 => ?_) (fun h3 => ?_); refine W_seq ?_; refine W_region rfl ?_; refine Wo rfl (opv_assign (v := .int _ _) rfl) ?_; refine Wo_nil ?_; refine W_ret ?_
    refine at_ret (v := .int _ _) rfl ?_; refine ⟨congrArg (Value.int .i64) ?_, E1⟩; rotate_left; refine W_skip ?_; refine W_seq ?_; refine W_region rfl ?_; refine Wo rfl (opv_assign (v := .int _ _) rfl) ?_; refine Wo_nil ?_
    refine W_seq ?_; refine W_seq ?_; refine W_region rfl ?_; refine Wo rfl (opv_assign (v := .int _ _) rfl) ?_; refine Wo_nil ?_; refine W_block ?_; rotate_left; refine Wo_skip rfl ?_; refine Wo_skip rfl ?_; refine Wo_skip rfl ?_
    refine Wo rfl (opv_pick_f (v := .bool _) rfl rfl) ?_; refine Wo rfl (opv_pick_f (v := .bool _) rfl rfl) ?_; refine Wo_nil ?_; refine W_cond_false rfl ?_; refine W_skip ?_; refine W_seq ?_; refine W_region rfl ?_
    refine Wo rfl (opv_assign (v := .int _ _) rfl) ?_; refine Wo_nil ?_; refine W_seq ?_; refine W_seq ?_; refine W_region rfl ?_; refine Wo rfl (opv_assign (v := .int _ _) rfl) ?_; refine Wo_nil ?_; refine W_block ?_; rotate_left
  · rw [digV, if_neg (fun h => by omega)]
  · rw [digV, if_neg (fun h => by omega)]
  · focus
    refine W_loop [2, 3, 4, 19, 20, 21, 22, 23, 24, 25, 26, 27, 28, 29, 30, 31, 32, 33, 34, 35, 36, 37, 38, 39, 40, 41, 42] (fun ((k, n) : Nat × Int) => [(4, .int .i64 (k : Nat)), (3, .int .i64 n)]) (fun (k, n) w' => Ext w w' ∧ k ≤ t.length ∧ 0 ≤ n ∧ (k ≤ 0 → n ≤ 0) ∧ (k ≤ 1 → n ≤ 9) ∧ (k ≤ 2 → n ≤ 99) ∧ (k ≤ 3 → n ≤ 999) ∧ (k ≤ 4 → n ≤ 9999) ∧ n ≤ 99999 ∧ n = digN (t.take k) ∧ ∀ c ∈ t.take k, 48 ≤ c.toNat ∧ c.toNat ≤ 57) (fun x => t.length - x.1) (0, 0) (by repeat (first | exact trivial | refine And.intro rfl ?_)) ?_ ?_
    · exact ⟨by assumption, Nat.zero_le _, by omega, by omega, by omega, by omega, by omega, by omega, by omega, by simp [digN], by simp⟩
    rintro ⟨k, n⟩ ρj w2 ⟨E2, hk, h0, i0, i1, i2, i3, i4, i5, hone, hall⟩
    have hc8 : (t.getD k 0).toNat < 256 := UInt8.toNat_lt _
    focus
      have szE2 := E2.size; have szE1 := E1.size; refine W_seq ?_; refine W_seq ?_; refine W_region rfl ?_; refine Wo rfl (opv_move (v := .int _ _) rfl) ?_; refine Wo rfl (opv_move (v := .string _) rfl) ?_
      refine Wo rfl (opv_len_str Tryd.underlying9 rfl) ?_; refine Wo rfl (opv_lss rfl rfl) ?_; refine Wo_nil ?_; refine W_cond_dec rfl (fun h4 => ?_) (fun h4 => ?_); refine W_skip ?_; refine W_seq ?_; refine W_block ?_; refine W_seq ?_
      refine W_seq ?_; refine W_region rfl ?_; refine Wo rfl (opv_move (v := .string _) rfl) ?_; refine Wo rfl (opv_move (v := .int _ _) rfl) ?_; refine Wo rfl (opv_index_str Tryd.underlying9 rfl rfl (by omega)) ?_
      refine Wo rfl (opv_lss rfl rfl) ?_; refine Wo_split_dec rfl (opv_move (v := .bool _) rfl) (fun h5 => ?_) (fun h5 => ?_); refine Wo_skip rfl ?_; refine Wo_skip rfl ?_; refine Wo_skip rfl ?_; refine Wo_skip rfl ?_
      refine Wo rfl (opv_pick_t (v := .bool _) rfl rfl) ?_; refine Wo_nil ?_; refine W_cond_true rfl ?_; refine W_seq ?_; refine W_region rfl ?_; refine Wo rfl (opv_assign (v := .int _ _) rfl) ?_; refine Wo_nil ?_; refine W_ret ?_
      refine at_ret (v := .int _ _) rfl ?_; refine ⟨congrArg (Value.int .i64) ?_, E2⟩; rotate_left; refine Wo rfl (opv_move (v := .string _) rfl) ?_; refine Wo rfl (opv_move (v := .int _ _) rfl) ?_
      refine Wo rfl (opv_index_str Tryd.underlying9 rfl rfl (by omega)) ?_; refine Wo rfl (opv_gtr rfl rfl) ?_; refine Wo rfl (opv_pick_f (v := .bool _) rfl rfl) ?_; refine Wo_nil ?_; refine W_cond_dec rfl (fun h6 => ?_) (fun h6 => ?_)
      refine W_seq ?_; refine W_region rfl ?_; refine Wo rfl (opv_assign (v := .int _ _) rfl) ?_; refine Wo_nil ?_; refine W_ret ?_; refine at_ret (v := .int _ _) rfl ?_; refine ⟨congrArg (Value.int .i64) ?_, E2⟩; rotate_left
      refine W_skip ?_; refine W_region rfl ?_; refine Wo rfl (opv_move (v := .int _ _) rfl) ?_; refine Wo rfl (opv_mul rfl rfl (by omega)) ?_; refine Wo rfl (opv_move (v := .string _) rfl) ?_
      refine Wo rfl (opv_move (v := .int _ _) rfl) ?_; refine Wo rfl (opv_index_str Tryd.underlying9 rfl rfl (by omega)) ?_; refine Wo rfl (opv_sub_u8 rfl rfl (by omega)) ?_
      refine Wo rfl (opv_conv_int Tryd.underlying5 Tryd.underlying3 rfl (by omega)) ?_; refine Wo rfl (opv_add rfl rfl (by omega)) ?_; refine Wo rfl (opv_assign (v := .int _ _) rfl) ?_; refine Wo_nil ?_; refine W_region rfl ?_
      refine Wo rfl (opv_move (v := .int _ _) rfl) ?_; refine Wo rfl (opv_add rfl rfl (by omega)) ?_; refine Wo rfl (opv_assign (v := .int _ _) rfl) ?_; refine Wo_nil ?_; rotate_left; refine W_exit ?_; refine exitX_same ?_
      refine W_seq ?_; refine W_region rfl ?_; refine Wo rfl (opv_move (v := .int _ _) rfl) ?_; refine Wo rfl (opv_assign (v := .int _ _) rfl) ?_; refine Wo_nil ?_; refine W_ret ?_; refine at_ret (v := .int _ _) rfl ?_
      refine ⟨congrArg (Value.int .i64) ?_, E2⟩; rotate_left
    · rw [digV, if_neg]
      rintro ⟨_, _, h⟩
      have := h (t.getD k 0) (by rw [getD_lt (by omega)]; exact List.getElem_mem _)
      omega
    · rw [digV, if_neg]
      rintro ⟨_, _, h⟩
      have := h (t.getD k 0) (by rw [getD_lt (by omega)]; exact List.getElem_mem _)
      omega
    · refine ⟨((k + 1, 10 * n + (((t.getD k 0).toNat : Int) - 48))), by repeat (first | exact trivial | refine And.intro rfl ?_), by repeat (first | with_reducible exact Same.refl | refine Same.upd rfl ?_ | refine Same.upds rfl ?_ | refine Same.mix rfl ?_), ?_, ?_⟩
      · have hts : t.take (k + 1) = t.take k ++ [t.getD k 0] := by rw [getD_lt (by omega)]; exact List.take_succ_eq_append_getElem (by omega)
        refine ⟨by assumption, by omega, by omega, by omega, by omega, by omega, by omega, by omega, by omega, ?_, ?_⟩
        · rw [hts, digN, List.foldl_append, ← digN, ← hone]; rfl
        · rw [hts]
          intro c hc
          rcases List.mem_append.1 hc with hc | hc
          · exact hall c hc
          · obtain rfl := List.mem_singleton.1 hc; omega
      · simp only; omega
    · obtain rfl : k = t.length := by omega
      rw [List.take_length] at hone hall
      rw [hone, digV, if_pos ⟨by omega, by omega, hall⟩]
  · focus
    refine W_loop [2, 3, 4, 19, 20, 21, 22, 23, 24, 25, 26, 27, 28, 29, 30, 31, 32, 33, 34, 35, 36, 37, 38, 39, 40, 41, 42] (fun ((k, n) : Nat × Int) => [(4, .int .i64 (k : Nat)), (3, .int .i64 n)]) (fun (k, n) w' => Ext w w' ∧ k ≤ t.length ∧ 0 ≤ n ∧ (k ≤ 0 → n ≤ 0) ∧ (k ≤ 1 → n ≤ 9) ∧ (k ≤ 2 → n ≤ 99) ∧ (k ≤ 3 → n ≤ 999) ∧ (k ≤ 4 → n ≤ 9999) ∧ n ≤ 99999 ∧ n = digN (t.take k) ∧ ∀ c ∈ t.take k, 48 ≤ c.toNat ∧ c.toNat ≤ 57) (fun x => t.length - x.1) (0, 0) (by repeat (first | exact trivial | refine And.intro rfl ?_)) ?_ ?_
    · exact ⟨by assumption, Nat.zero_le _, by omega, by omega, by omega, by omega, by omega, by omega, by omega, by simp [digN], by simp⟩
    rintro ⟨k, n⟩ ρj w2 ⟨E2, hk, h0, i0, i1, i2, i3, i4, i5, hone, hall⟩
    have hc8 : (t.getD k 0).toNat < 256 := UInt8.toNat_lt _
    focus
      have szE2 := E2.size; have szE1 := E1.size; refine W_seq ?_; refine W_seq ?_; refine W_region rfl ?_; refine Wo rfl (opv_move (v := .int _ _) rfl) ?_; refine Wo rfl (opv_move (v := .string _) rfl) ?_
      refine Wo rfl (opv_len_str Tryd.underlying9 rfl) ?_; refine Wo rfl (opv_lss rfl rfl) ?_; refine Wo_nil ?_; refine W_cond_dec rfl (fun h3 => ?_) (fun h3 => ?_); refine W_skip ?_; refine W_seq ?_; refine W_block ?_; refine W_seq ?_
      refine W_seq ?_; refine W_region rfl ?_; refine Wo rfl (opv_move (v := .string _) rfl) ?_; refine Wo rfl (opv_move (v := .int _ _) rfl) ?_; refine Wo rfl (opv_index_str Tryd.underlying9 rfl rfl (by omega)) ?_
      refine Wo rfl (opv_lss rfl rfl) ?_; refine Wo_split_dec rfl (opv_move (v := .bool _) rfl) (fun h4 => ?_) (fun h4 => ?_); refine Wo_skip rfl ?_; refine Wo_skip rfl ?_; refine Wo_skip rfl ?_; refine Wo_skip rfl ?_
      refine Wo rfl (opv_pick_t (v := .bool _) rfl rfl) ?_; refine Wo_nil ?_; refine W_cond_true rfl ?_; refine W_seq ?_; refine W_region rfl ?_; refine Wo rfl (opv_assign (v := .int _ _) rfl) ?_; refine Wo_nil ?_; refine W_ret ?_
      refine at_ret (v := .int _ _) rfl ?_; refine ⟨congrArg (Value.int .i64) ?_, E2⟩; rotate_left; refine Wo rfl (opv_move (v := .string _) rfl) ?_; refine Wo rfl (opv_move (v := .int _ _) rfl) ?_
      refine Wo rfl (opv_index_str Tryd.underlying9 rfl rfl (by omega)) ?_; refine Wo rfl (opv_gtr rfl rfl) ?_; refine Wo rfl (opv_pick_f (v := .bool _) rfl rfl) ?_; refine Wo_nil ?_; refine W_cond_dec rfl (fun h5 => ?_) (fun h5 => ?_)
      refine W_seq ?_; refine W_region rfl ?_; refine Wo rfl (opv_assign (v := .int _ _) rfl) ?_; refine Wo_nil ?_; refine W_ret ?_; refine at_ret (v := .int _ _) rfl ?_; refine ⟨congrArg (Value.int .i64) ?_, E2⟩; rotate_left
      refine W_skip ?_; refine W_region rfl ?_; refine Wo rfl (opv_move (v := .int _ _) rfl) ?_; refine Wo rfl (opv_mul rfl rfl (by omega)) ?_; refine Wo rfl (opv_move (v := .string _) rfl) ?_
      refine Wo rfl (opv_move (v := .int _ _) rfl) ?_; refine Wo rfl (opv_index_str Tryd.underlying9 rfl rfl (by omega)) ?_; refine Wo rfl (opv_sub_u8 rfl rfl (by omega)) ?_
      refine Wo rfl (opv_conv_int Tryd.underlying5 Tryd.underlying3 rfl (by omega)) ?_; refine Wo rfl (opv_add rfl rfl (by omega)) ?_; refine Wo rfl (opv_assign (v := .int _ _) rfl) ?_; refine Wo_nil ?_; refine W_region rfl ?_
      refine Wo rfl (opv_move (v := .int _ _) rfl) ?_; refine Wo rfl (opv_add rfl rfl (by omega)) ?_; refine Wo rfl (opv_assign (v := .int _ _) rfl) ?_; refine Wo_nil ?_; rotate_left; refine W_exit ?_; refine exitX_same ?_
      refine W_seq ?_; refine W_region rfl ?_; refine Wo rfl (opv_move (v := .int _ _) rfl) ?_; refine Wo rfl (opv_assign (v := .int _ _) rfl) ?_; refine Wo_nil ?_; refine W_ret ?_; refine at_ret (v := .int _ _) rfl ?_
      refine ⟨congrArg (Value.int .i64) ?_, E2⟩; rotate_left
    · rw [digV, if_neg]
      rintro ⟨_, _, h⟩
      have := h (t.getD k 0) (by rw [getD_lt (by omega)]; exact List.getElem_mem _)
      omega
    · rw [digV, if_neg]
      rintro ⟨_, _, h⟩
      have := h (t.getD k 0) (by rw [getD_lt (by omega)]; exact List.getElem_mem _)
      omega
    · refine ⟨((k + 1, 10 * n + (((t.getD k 0).toNat : Int) - 48))), by repeat (first | exact trivial | refine And.intro rfl ?_), by repeat (first | with_reducible exact Same.refl | refine Same.upd rfl ?_ | refine Same.upds rfl ?_ | refine Same.mix rfl ?_), ?_, ?_⟩
      · have hts : t.take (k + 1) = t.take k ++ [t.getD k 0] := by rw [getD_lt (by omega)]; exact List.take_succ_eq_append_getElem (by omega)
        refine ⟨by assumption, by omega, by omega, by omega, by omega, by omega, by omega, by omega, by omega, ?_, ?_⟩
        · rw [hts, digN, List.foldl_append, ← digN, ← hone]; rfl
        · rw [hts]
          intro c hc
          rcases List.mem_append.1 hc with hc | hc
          · exact hall c hc
          · obtain rfl := List.mem_singleton.1 hc; omega
      · simp only; omega
    · obtain rfl : k = t.length := by omega
      rw [List.take_length] at hone hall
      rw [hone, digV, if_pos ⟨by omega, by omega, hall⟩]

end Go.Proofs.YtgphoihilheoeaaDoor
