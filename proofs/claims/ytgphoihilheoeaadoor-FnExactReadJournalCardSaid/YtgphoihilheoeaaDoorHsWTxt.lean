/- Walks: texts of pictures, the reference's. -/
import Derived.Test.YtgphoihilheoeaaDoorHsWPic
import Derived.Test.YtgphoihilheoeaaDoorHsWFun
import Derived.Test.YtgphoihilheoeaaDoorHsWLib
namespace Go.Proofs.YtgphoihilheoeaaDoor
open Go.Hs
set_option maxRecDepth 10000
set_option maxHeartbeats 4000000
set_option linter.unusedVariables false
set_option linter.unusedSimpArgs false

theorem l1Number_ok (w : World) (n : Nat) (hn : n < 10) : Does Tryd.prog 43 [.int .i64 (n : Int)] w (Ret w (str [dig n])) := by
  refine fn_of_W1 Tryd.func43 rfl Tryd.results43 Tryd.ntmps43 rfl ?_
  focus
    refine W_seq ?_; refine W_region rfl ?_; refine Wo rfl (opv_assign (v := .string _) rfl) ?_; refine Wo_nil ?_; refine W_seq ?_; refine W_seq ?_; refine W_region rfl ?_; refine Wo rfl (opv_move (v := .int _ _) rfl) ?_
    refine Wo rfl (opv_lss rfl rfl) ?_; refine Wo_nil ?_; refine W_cond_dec rfl (fun h1 => ?_) (fun h1 => ?_); refine W_seq ?_; refine W_region rfl ?_; refine Wo rfl (opv_move (v := .int _ _) rfl) ?_; refine Wo rfl (opv_max rfl rfl) ?_
    refine Wo rfl (opv_add rfl rfl (by omega)) ?_; refine Wo rfl (opv_conv_u8 Tryd.underlying3 Tryd.underlying5 rfl (by omega)) ?_
    refine Wo_buildSlice (ps := [(0, .int _ _)]) (cs := [_]) rfl Tryd.underlying43 Tryd.sizeOf5 Tryd.zeroValue5 rfl rfl rfl rfl ?_; rintro b1 w1 hb1 E1 hB1; have hlb1 := hB1.lt; have hs1 := E1.size
    refine Wo rfl (opv_conv_b1 Tryd.underlying43 Tryd.underlying5 Tryd.underlying9 rfl (by assumption)) ?_; refine Wo rfl (opv_assign (v := .string _) rfl) ?_; refine Wo_nil ?_; refine W_ret ?_; refine at_ret (v := .string _) rfl ?_
    refine ⟨congrArg str ?_, E1⟩; rotate_left; (exfalso; omega)
  have e : (48 + max (n : Int) 0).toNat = 48 + n := by omega
  rw [e]; rfl

theorem l1Cut_ok (w : World) (s : List UInt8) (c : UInt8) (hs : s.length ≤ 1048576) : Does Tryd.prog 45 [str s, .int .u8 (c.toNat : Int)] w (RetO w XS (cutB c s)) := by
  refine fn_of_W1 Tryd.func45 rfl Tryd.results45 Tryd.ntmps45 rfl ?_
  focus
    refine W_seq ?_; refine W_region rfl ?_; refine Wo rfl (opv_assign (v := .slice _ _ _) rfl) ?_; refine Wo_nil ?_; refine W_seq ?_; refine W_region rfl ?_; refine Wo_lit0 XStr rfl el65 Tryd.sizeOf9 ?_; rintro b1 w1 hb1 b1lt E1 hO1
    have hs1 := E1.size; refine Wo rfl (opv_assign (v := .slice _ _ _) rfl) ?_; refine Wo_nil ?_; refine W_seq ?_; refine W_region rfl ?_; refine Wo rfl (opv_assign (v := .int _ _) rfl) ?_; refine Wo_nil ?_; refine W_seq ?_
    refine W_seq ?_; refine W_region rfl ?_; refine Wo rfl (opv_assign (v := .int _ _) rfl) ?_; refine Wo_nil ?_; refine W_block ?_
  refine W_loop [5, 6, 7, 9, 10, 11, 12, 13, 14, 15, 16, 17, 18, 19, 20, 21, 22, 23, 24, 25, 26, 27, 28] (fun ((k, f, u, ps) : Nat × Nat × Value × List (List UInt8)) => [(7, .int .i64 (k : Nat)), (6, .int .i64 (f : Nat)), (5, u)]) (fun (k, f, u, ps) w' => Ext w w' ∧ k ≤ s.length ∧ f ≤ k ∧ ps.length ≤ k ∧ Owned w.heap.size XS w' u ps ∧ cutB c (s.take k) = ps ++ [(s.drop f).take (k - f)]) (fun x => s.length - x.1) (0, 0, .slice (some ⟨b1, 0, none⟩) 0 0, []) (by repeat (first | exact trivial | refine And.intro rfl ?_)) ?_ ?_
  · exact ⟨by assumption, Nat.zero_le _, Nat.le_refl _, Nat.zero_le _, hO1, by simp [cutB]⟩
  rintro ⟨k, f, u, ps⟩ ρj w2 ⟨E2, hk, hf, hpl, hO2, hc⟩
  have hst := fun hk' => cut_step (s := c) (l := s) hk' hf hc
  focus
    have szE2 := E2.size; have szE1 := E1.size; refine W_seq ?_; refine W_seq ?_; refine W_region rfl ?_; refine Wo rfl (opv_move (v := .int _ _) rfl) ?_; refine Wo rfl (opv_move (v := .string _) rfl) ?_
    refine Wo rfl (opv_len_str Tryd.underlying9 rfl) ?_; refine Wo rfl (opv_lss rfl rfl) ?_; refine Wo_nil ?_; refine W_cond_dec rfl (fun h1 => ?_) (fun h1 => ?_); refine W_skip ?_; refine W_seq ?_; refine W_block ?_; refine W_seq ?_
    refine W_region rfl ?_; refine Wo rfl (opv_move (v := .string _) rfl) ?_; refine Wo rfl (opv_move (v := .int _ _) rfl) ?_; refine Wo rfl (opv_index_str Tryd.underlying9 rfl rfl (by omega)) ?_
    refine Wo rfl (opv_move (v := .int _ _) rfl) ?_; refine Wo rfl (opv_eql rfl rfl) ?_; refine Wo_nil ?_; refine W_cond_dec rfl (fun h2 => ?_) (fun h2 => ?_); refine W_seq ?_; refine W_region rfl ?_
    refine Wo rfl (opv_move (v := u) rfl) ?_; refine Wo rfl (opv_move (v := .string _) rfl) ?_; refine Wo rfl (opv_move (v := .int _ _) rfl) ?_; refine Wo rfl (opv_move (v := .int _ _) rfl) ?_
    refine Wo rfl (opv_slice_str Tryd.underlying9 rfl rfl rfl (by omega)) ?_; refine Wo_buildSlice (ps := [(0, .string _)]) (cs := [_]) rfl Tryd.underlying65 Tryd.sizeOf9 Tryd.zeroValue9 rfl rfl rfl rfl ?_; rintro b2 w3 hb2 E3 hB1
    have hlb2 := hB1.lt; have hs2 := E3.size
    refine Wo_app1 rfl el65 rfl rfl hB1 (hO2.toB.ext E3) (Owned.str (by first | omega | (simp <;> omega))) (Nat.le_refl _) (by first | omega | (simp <;> omega)) (by omega) (by omega) (E2.trans E3) (by omega) ?_
    have hT1 := (hO2.toB.ext E3); rintro v1 w4 hO2 E4 M1; have hB1 := hB1.moves M1 hT1 (by omega); have hs3 := E4.size; refine Wo rfl (opv_assign (v := v1) rfl) ?_; refine Wo_nil ?_; refine W_region rfl ?_
    refine Wo rfl (opv_move (v := .int _ _) rfl) ?_; refine Wo rfl (opv_add rfl rfl (by omega)) ?_; refine Wo rfl (opv_assign (v := .int _ _) rfl) ?_; refine Wo_nil ?_; refine W_region rfl ?_
    refine Wo rfl (opv_move (v := .int _ _) rfl) ?_; refine Wo rfl (opv_add rfl rfl (by omega)) ?_; refine Wo rfl (opv_assign (v := .int _ _) rfl) ?_; refine Wo_nil ?_; rotate_left; refine W_skip ?_; refine W_region rfl ?_
    refine Wo rfl (opv_move (v := .int _ _) rfl) ?_; refine Wo rfl (opv_add rfl rfl (by omega)) ?_; refine Wo rfl (opv_assign (v := .int _ _) rfl) ?_; refine Wo_nil ?_; rotate_left; refine W_exit ?_; refine exitX_same ?_
    refine W_seq ?_; refine W_region rfl ?_; refine Wo rfl (opv_move (v := u) rfl) ?_; refine Wo rfl (opv_move (v := .string _) rfl) ?_; refine Wo rfl (opv_move (v := .int _ _) rfl) ?_
    refine Wo rfl (opv_slice_str_lo Tryd.underlying9 rfl rfl (by omega)) ?_; refine Wo_buildSlice (ps := [(0, .string _)]) (cs := [_]) rfl Tryd.underlying65 Tryd.sizeOf9 Tryd.zeroValue9 rfl rfl rfl rfl ?_; rintro b2 w3 hb2 E3 hB1
    have hlb2 := hB1.lt; have hs2 := E3.size
    refine Wo_app1 rfl el65 rfl rfl hB1 (hO2.toB.ext E3) (Owned.str (by first | omega | (simp <;> omega))) (Nat.le_refl _) (by first | omega | (simp <;> omega)) (by omega) (by omega) (E2.trans E3) (by omega) ?_
    have hT1 := (hO2.toB.ext E3); rintro v1 w4 hO2 E4 M1; have hB1 := hB1.moves M1 hT1 (by omega); have hs3 := E4.size; refine Wo rfl (opv_assign (v := v1) rfl) ?_; refine Wo_nil ?_; refine W_ret ?_
    refine ⟨E4, (congrArg (Owned _ _ _ _) ?_).mp (hO2.toB.o.mono (by omega))⟩; rotate_left
  · refine ⟨((k + 1, k + 1, v1, ps ++ [(s.drop f).take (k - f)])), by repeat (first | exact trivial | refine And.intro rfl ?_), by repeat (first | with_reducible exact Same.refl | refine Same.upd rfl ?_ | refine Same.upds rfl ?_ | refine Same.mix rfl ?_), ?_, ?_⟩
    · rw [getD_lt (by omega)] at h2
      exact ⟨by assumption, by omega, by omega, by simp; omega, hO2, (hst (by omega)).1 (UInt8.toNat_inj.1 (by omega))⟩
    · simp only; omega
  · refine ⟨((k + 1, f, u, ps)), by repeat (first | exact trivial | refine And.intro rfl ?_), by repeat (first | with_reducible exact Same.refl | refine Same.upd rfl ?_ | refine Same.upds rfl ?_ | refine Same.mix rfl ?_), ?_, ?_⟩
    · rw [getD_lt (by omega)] at h2
      exact ⟨by assumption, by omega, by omega, by omega, hO2, (hst (by omega)).2 (fun e => h2 (by rw [e]))⟩
    · simp only; omega
  · obtain rfl : k = s.length := by omega
    rw [List.take_length] at hc
    rw [hc, List.take_of_length_le (by simp)]

theorem txj_len {p : List (List Int)} (hp : Pic p) (k : Nat) : (joinB 47 ((p.map txR).take k)).length ≤ 200 := by
  have h := txt_len hp.gr
  rw [txt, ← List.take_append_drop k (p.map txR)] at h
  refine Nat.le_trans ?_ h
  cases h1 : (p.map txR).take k with
  | nil => simp [joinB]
  | cons x xs => simp [joinB]
theorem tx_step {p : List (List Int)} (hp : Pic p) {k : Nat} (hk : k < p.length) : joinB 47 ((p.map txR).take (k + 1)) = (if k = 0 then [] else joinB 47 ((p.map txR).take k) ++ [47]) ++ ((List.range p.length).filter fun i => decide (p[k].getD i 0 = 1)).map dig := by
  have hr := (hp.2.2 _ (List.getElem_mem hk)).1
  have e : txR p[k] = ((List.range p.length).filter fun i => decide (p[k].getD i 0 = 1)).map dig := by rw [txR, arrR, hr]
  rw [List.take_succ_eq_append_getElem (by simpa using hk), List.getElem_map, ← e]
  by_cases h0 : k = 0
  · subst h0; rw [if_pos rfl]; simp [joinB]
  · rw [if_neg h0, joinB_snoc (by intro h; have := congrArg List.length h; rw [List.length_take, List.length_map, List.length_nil] at this; omega)]; simp
theorem PictureText_ok (w : World) (v : Value) (p : List (List Int)) (h : ESl Ints w v p) : Does Tryd.prog 71 [v] w (Ret w (str (if Pic p then txt p else []))) := by
  have hle := h.le
  refine fn_of_W1 Tryd.func71 rfl Tryd.results71 Tryd.ntmps71 rfl ?_
  by_cases hp : Pic p
  · have hpo : ∀ (w : World) (v : Value), ESl Ints w v p → Does Tryd.prog 70 [v] w (Ret w (.bool true)) := fun w v h => by
      have := PictureOk_ok w v p h
      rwa [decide_eq_true hp] at this
    rw [if_pos hp]
    have hp1 := hp.1
    have hp5 := hp.2.1
    focus
      refine W_seq ?_; refine W_region rfl ?_; refine Wo rfl (opv_assign (v := .string _) rfl) ?_; refine Wo_nil ?_; refine W_seq ?_; refine W_region rfl ?_; refine Wo rfl (opv_assign (v := .string _) rfl) ?_; refine Wo_nil ?_
      refine W_seq ?_; refine W_seq ?_; refine W_region rfl ?_; refine Wo rfl (opv_assign (v := .int _ _) rfl) ?_; refine Wo_nil ?_; refine W_block ?_
    refine W_loop [3, 4, 5, 6, 7, 8, 9, 10, 11, 12, 13, 14, 15, 16, 17, 18, 19, 20, 21, 22, 23, 24, 25, 26, 27, 28, 29, 30, 31, 32, 33, 34, 35, 36, 37] (fun (k : Nat) => [(4, .int .i64 (k : Nat)), (3, str (joinB 47 ((p.map txR).take k)))]) (fun k w' => Ext w w' ∧ k ≤ p.length) (fun k => p.length - k) 0 (by repeat (first | exact trivial | refine And.intro rfl ?_)) ?_ ?_
    · exact ⟨Ext.refl _, Nat.zero_le _⟩
    rintro k ρj w1 ⟨E1, hk⟩
    have hl1 := txj_len hp k
    by_cases hlt : k < p.length
    · have hr := hp.2.2 _ (List.getElem_mem hlt)
      have hrl : ∀ j, ((List.range j).filter fun i => decide (p[k].getD i 0 = 1)).length ≤ j := fun j => Nat.le_trans (List.length_filter_le _ _) (by simp)
      focus
        have szE1 := E1.size; refine W_seq ?_; refine W_seq ?_; refine W_region rfl ?_; refine Wo rfl (opv_move (v := .int _ _) rfl) ?_; refine Wo rfl (opv_move (v := v) rfl) ?_; refine Wo rfl (opv_len Tryd.underlying49 rfl h) ?_
        refine Wo rfl (opv_lss rfl rfl) ?_; refine Wo_split_dec rfl (opv_move (v := .bool _) rfl) (fun h1 => ?_) (fun h1 => ?_); refine Wo rfl (opv_move (v := v) rfl) ?_
        refine Wo_call rfl (opc1 (a := v) Tryd.call70 rfl) (hpo _ _ ((Mono.mono E1 h))) ?_; rintro _ w2 ⟨rfl, E2⟩; have hs1 := E2.size; refine Wo rfl (opv_pick_t (v := .bool _) rfl rfl) ?_; refine Wo_nil ?_; refine W_cond_true rfl ?_
        refine W_skip ?_; refine W_seq ?_; refine W_block ?_; refine W_seq ?_; refine W_seq ?_; refine W_region rfl ?_; refine Wo rfl (opv_move (v := .int _ _) rfl) ?_; refine Wo rfl (opv_gtr rfl rfl) ?_; refine Wo_nil ?_
        refine W_cond_dec rfl (fun h2 => ?_) (fun h2 => ?_); refine W_region rfl ?_; refine Wo rfl (opv_move (v := .string _) rfl) ?_; refine Wo rfl (opv_add_str rfl rfl (by simp <;> omega)) ?_
        refine Wo rfl (opv_assign (v := .string _) rfl) ?_; refine Wo_nil ?_; refine W_seq ?_; refine W_region rfl ?_; refine Wo rfl (opv_assign (v := .int _ _) rfl) ?_; refine Wo_nil ?_; refine W_block ?_; rotate_left; refine W_skip ?_
        refine W_seq ?_; refine W_region rfl ?_; refine Wo rfl (opv_assign (v := .int _ _) rfl) ?_; refine Wo_nil ?_; refine W_block ?_; rotate_left; (exfalso; omega)
      · have hk0 : 0 < k := by omega
        refine W_loop [3, 5, 20, 21, 22, 23, 24, 25, 26, 27, 28, 29, 30, 31, 32, 33, 34, 35, 36, 37] (fun ((j, t) : Nat × List UInt8) => [(5, .int .i64 (j : Nat)), (3, str t)]) (fun (j, t) w' => Ext w w' ∧ j ≤ p.length ∧ t = (joinB 47 ((p.map txR).take k) ++ [47]) ++ ((List.range j).filter fun i => decide (p[k].getD i 0 = 1)).map dig) (fun x => p.length - x.1) (0, (joinB 47 ((p.map txR).take k) ++ [47])) (by repeat (first | exact trivial | refine And.intro rfl ?_)) ?_ ?_
        · exact ⟨E1.trans E2, Nat.zero_le _, by simp⟩
        rintro ⟨j, t⟩ ρj w3 ⟨E3, hj, ht⟩
        have hjl := hrl j
        have htl : t.length ≤ 300 := by rw [ht]; simp only [List.length_append, List.length_map, List.length_cons, List.length_nil]; omega
        have hfs := filter_range_succ (fun j => decide (p[k].getD j 0 = 1)) j
        focus
          have szE3 := E3.size; have szE2 := E2.size; have szE1 := E1.size; refine W_seq ?_; refine W_seq ?_; refine W_region rfl ?_; refine Wo rfl (opv_move (v := .int _ _) rfl) ?_; refine Wo rfl (opv_move (v := v) rfl) ?_
          refine Wo rfl (opv_len Tryd.underlying49 rfl h) ?_; refine Wo rfl (opv_lss rfl rfl) ?_; refine Wo_nil ?_; refine W_cond_dec rfl (fun h3 => ?_) (fun h3 => ?_); refine W_skip ?_; refine W_seq ?_; refine W_block ?_; refine W_seq ?_
          refine W_region rfl ?_; refine Wo rfl (opv_move (v := v) rfl) ?_; refine Wo rfl (opv_move (v := .int _ _) rfl) ?_
          refine Wo_get Tryd.underlying49 Tryd.sizeOf80 Tryd.isAgg80 rfl (fun _ => rfl) rfl h E3 rfl (by first | omega | (simp <;> omega)) ?_; rintro _ u1 hu1; refine Wo rfl (opv_move (v := .int _ _) rfl) ?_
          refine Wo_get Tryd.underlying80 Tryd.sizeOf3 Tryd.isAgg3 rfl (fun _ => rfl) rfl hu1 E3 rfl (by first | omega | (simp <;> omega)) ?_; rintro _ _ rfl; refine Wo rfl (opv_eql rfl rfl) ?_; refine Wo_nil ?_
          refine W_cond_dec rfl (fun h4 => ?_) (fun h4 => ?_); refine W_region rfl ?_; refine Wo rfl (opv_move (v := .string _) rfl) ?_; refine Wo rfl (opv_move (v := .int _ _) rfl) ?_
          refine Wo_call rfl (opc1 (a := .int _ _) Tryd.call43 rfl) (l1Number_ok _ _ (by omega)) ?_; rintro _ w4 ⟨rfl, E4⟩; have hs2 := E4.size; refine Wo rfl (opv_add_str rfl rfl (by simp <;> omega)) ?_
          refine Wo rfl (opv_assign (v := .string _) rfl) ?_; refine Wo_nil ?_; refine W_region rfl ?_; refine Wo rfl (opv_move (v := .int _ _) rfl) ?_; refine Wo rfl (opv_add rfl rfl (by omega)) ?_
          refine Wo rfl (opv_assign (v := .int _ _) rfl) ?_; refine Wo_nil ?_; rotate_left; refine W_skip ?_; refine W_region rfl ?_; refine Wo rfl (opv_move (v := .int _ _) rfl) ?_; refine Wo rfl (opv_add rfl rfl (by omega)) ?_
          refine Wo rfl (opv_assign (v := .int _ _) rfl) ?_; refine Wo_nil ?_; rotate_left; refine W_exit ?_; refine exitX_same ?_; refine W_region rfl ?_; refine Wo rfl (opv_move (v := .int _ _) rfl) ?_
          refine Wo rfl (opv_add rfl rfl (by omega)) ?_; refine Wo rfl (opv_assign (v := .int _ _) rfl) ?_; refine Wo_nil ?_; rotate_left
        · refine ⟨((j + 1, t ++ [dig j])), by repeat (first | exact trivial | refine And.intro rfl ?_), by repeat (first | with_reducible exact Same.refl | refine Same.upd rfl ?_ | refine Same.upds rfl ?_ | refine Same.mix rfl ?_), ?_, ?_⟩
          · refine ⟨E3.trans E4, by omega, ?_⟩
            rw [hfs, if_pos (by rw [decide_eq_true_eq, getD_lt (by omega)]; assumption), ht]; simp
          · simp only; omega
        · refine ⟨((j + 1, t)), by repeat (first | exact trivial | refine And.intro rfl ?_), by repeat (first | with_reducible exact Same.refl | refine Same.upd rfl ?_ | refine Same.upds rfl ?_ | refine Same.mix rfl ?_), ?_, ?_⟩
          · refine ⟨by assumption, by omega, ?_⟩
            rw [hfs, if_neg (by rw [decide_eq_true_eq, getD_lt (by omega)]; assumption), ht]; simp
          · simp only; omega
        · obtain rfl : j = p.length := by omega
          have ht2 : t = joinB 47 ((p.map txR).take (k + 1)) := by
            rw [ht, tx_step hp hlt]; rw [if_neg (by omega)]
          subst ht2
          refine ⟨(k + 1), by repeat (first | exact trivial | refine And.intro rfl ?_), by repeat (first | with_reducible exact Same.refl | refine Same.upd rfl ?_ | refine Same.upds rfl ?_ | refine Same.mix rfl ?_), ?_, ?_⟩
          · exact ⟨by assumption, by omega⟩
          · omega
      · obtain rfl : k = 0 := by omega
        refine W_loop [3, 5, 20, 21, 22, 23, 24, 25, 26, 27, 28, 29, 30, 31, 32, 33, 34, 35, 36, 37] (fun ((j, t) : Nat × List UInt8) => [(5, .int .i64 (j : Nat)), (3, str t)]) (fun (j, t) w' => Ext w w' ∧ j ≤ p.length ∧ t = [] ++ ((List.range j).filter fun i => decide (p[0].getD i 0 = 1)).map dig) (fun x => p.length - x.1) (0, []) (by repeat (first | exact trivial | refine And.intro rfl ?_)) ?_ ?_
        · exact ⟨E1.trans E2, Nat.zero_le _, by simp⟩
        rintro ⟨j, t⟩ ρj w3 ⟨E3, hj, ht⟩
        have hjl := hrl j
        have htl : t.length ≤ 300 := by rw [ht]; simp only [List.length_append, List.length_map, List.length_cons, List.length_nil]; omega
        have hfs := filter_range_succ (fun j => decide (p[0].getD j 0 = 1)) j
        focus
          have szE3 := E3.size; have szE2 := E2.size; have szE1 := E1.size; refine W_seq ?_; refine W_seq ?_; refine W_region rfl ?_; refine Wo rfl (opv_move (v := .int _ _) rfl) ?_; refine Wo rfl (opv_move (v := v) rfl) ?_
          refine Wo rfl (opv_len Tryd.underlying49 rfl h) ?_; refine Wo rfl (opv_lss rfl rfl) ?_; refine Wo_nil ?_; refine W_cond_dec rfl (fun h3 => ?_) (fun h3 => ?_); refine W_skip ?_; refine W_seq ?_; refine W_block ?_; refine W_seq ?_
          refine W_region rfl ?_; refine Wo rfl (opv_move (v := v) rfl) ?_; refine Wo rfl (opv_move (v := .int _ _) rfl) ?_
          refine Wo_get Tryd.underlying49 Tryd.sizeOf80 Tryd.isAgg80 rfl (fun _ => rfl) rfl h E3 rfl (by first | omega | (simp <;> omega)) ?_; rintro _ u1 hu1; refine Wo rfl (opv_move (v := .int _ _) rfl) ?_
          refine Wo_get Tryd.underlying80 Tryd.sizeOf3 Tryd.isAgg3 rfl (fun _ => rfl) rfl hu1 E3 rfl (by first | omega | (simp <;> omega)) ?_; rintro _ _ rfl; refine Wo rfl (opv_eql rfl rfl) ?_; refine Wo_nil ?_
          refine W_cond_dec rfl (fun h4 => ?_) (fun h4 => ?_); refine W_region rfl ?_; refine Wo rfl (opv_move (v := .string _) rfl) ?_; refine Wo rfl (opv_move (v := .int _ _) rfl) ?_
          refine Wo_call rfl (opc1 (a := .int _ _) Tryd.call43 rfl) (l1Number_ok _ _ (by omega)) ?_; rintro _ w4 ⟨rfl, E4⟩; have hs2 := E4.size; refine Wo rfl (opv_add_str rfl rfl (by simp <;> omega)) ?_
          refine Wo rfl (opv_assign (v := .string _) rfl) ?_; refine Wo_nil ?_; refine W_region rfl ?_; refine Wo rfl (opv_move (v := .int _ _) rfl) ?_; refine Wo rfl (opv_add rfl rfl (by omega)) ?_
          refine Wo rfl (opv_assign (v := .int _ _) rfl) ?_; refine Wo_nil ?_; rotate_left; refine W_skip ?_; refine W_region rfl ?_; refine Wo rfl (opv_move (v := .int _ _) rfl) ?_; refine Wo rfl (opv_add rfl rfl (by omega)) ?_
          refine Wo rfl (opv_assign (v := .int _ _) rfl) ?_; refine Wo_nil ?_; rotate_left; refine W_exit ?_; refine exitX_same ?_; refine W_region rfl ?_; refine Wo rfl (opv_move (v := .int _ _) rfl) ?_
          refine Wo rfl (opv_add rfl rfl (by omega)) ?_; refine Wo rfl (opv_assign (v := .int _ _) rfl) ?_; refine Wo_nil ?_; rotate_left
        · refine ⟨((j + 1, t ++ [dig j])), by repeat (first | exact trivial | refine And.intro rfl ?_), by repeat (first | with_reducible exact Same.refl | refine Same.upd rfl ?_ | refine Same.upds rfl ?_ | refine Same.mix rfl ?_), ?_, ?_⟩
          · refine ⟨E3.trans E4, by omega, ?_⟩
            rw [hfs, if_pos (by rw [decide_eq_true_eq, getD_lt (by omega)]; assumption), ht]; simp
          · simp only; omega
        · refine ⟨((j + 1, t)), by repeat (first | exact trivial | refine And.intro rfl ?_), by repeat (first | with_reducible exact Same.refl | refine Same.upd rfl ?_ | refine Same.upds rfl ?_ | refine Same.mix rfl ?_), ?_, ?_⟩
          · refine ⟨by assumption, by omega, ?_⟩
            rw [hfs, if_neg (by rw [decide_eq_true_eq, getD_lt (by omega)]; assumption), ht]; simp
          · simp only; omega
        · obtain rfl : j = p.length := by omega
          have ht2 : t = joinB 47 ((p.map txR).take (0 + 1)) := by
            rw [ht, tx_step hp hlt]; simp [joinB]
          subst ht2
          refine ⟨(0 + 1), by repeat (first | exact trivial | refine And.intro rfl ?_), by repeat (first | with_reducible exact Same.refl | refine Same.upd rfl ?_ | refine Same.upds rfl ?_ | refine Same.mix rfl ?_), ?_, ?_⟩
          · exact ⟨by assumption, by omega⟩
          · omega
    · obtain rfl : k = p.length := by omega
      focus
        have szE1 := E1.size; refine W_seq ?_; refine W_seq ?_; refine W_region rfl ?_; refine Wo rfl (opv_move (v := .int _ _) rfl) ?_; refine Wo rfl (opv_move (v := v) rfl) ?_; refine Wo rfl (opv_len Tryd.underlying49 rfl h) ?_
        refine Wo rfl (opv_lss rfl rfl) ?_; refine Wo_split_dec rfl (opv_move (v := .bool _) rfl) (fun h1 => ?_) (fun h1 => ?_); (exfalso; omega); refine Wo_skip rfl ?_; refine Wo_skip rfl ?_
        refine Wo rfl (opv_pick_f (v := .bool _) rfl rfl) ?_; refine Wo_nil ?_; refine W_cond_false rfl ?_; refine W_exit ?_; refine exitX_same ?_; refine W_seq ?_; refine W_region rfl ?_; refine Wo rfl (opv_move (v := .string _) rfl) ?_
        refine Wo rfl (opv_assign (v := .string _) rfl) ?_; refine Wo_nil ?_; refine W_ret ?_; refine at_ret (v := .string _) rfl ?_; refine ⟨congrArg str ?_, E1⟩
      rw [txt, List.take_of_length_le (by simp)]
  · have hpo : ∀ (w : World) (v : Value), ESl Ints w v p → Does Tryd.prog 70 [v] w (Ret w (.bool false)) := fun w v h => by
      have := PictureOk_ok w v p h
      rwa [decide_eq_false hp] at this
    rw [if_neg hp]
    focus
      refine W_seq ?_; refine W_region rfl ?_; refine Wo rfl (opv_assign (v := .string _) rfl) ?_; refine Wo_nil ?_; refine W_seq ?_; refine W_region rfl ?_; refine Wo rfl (opv_assign (v := .string _) rfl) ?_; refine Wo_nil ?_
      refine W_seq ?_; refine W_seq ?_; refine W_region rfl ?_; refine Wo rfl (opv_assign (v := .int _ _) rfl) ?_; refine Wo_nil ?_; refine W_block ?_
    refine W_loop [3, 4, 5, 6, 7, 8, 9, 10, 11, 12, 13, 14, 15, 16, 17, 18, 19, 20, 21, 22, 23, 24, 25, 26, 27, 28, 29, 30, 31, 32, 33, 34, 35, 36, 37] (fun (_ : Unit) => [(4, .int .i64 0), (3, str [])]) (fun _ w' => Ext w w') (fun _ => 0) () (by repeat (first | exact trivial | refine And.intro rfl ?_)) ?_ ?_
    · exact Ext.refl _
    rintro ⟨⟩ ρj w1 E1
    by_cases h0 : 0 < p.length
    · focus
        have szE1 := E1.size; refine W_seq ?_; refine W_seq ?_; refine W_region rfl ?_; refine Wo rfl (opv_move (v := .int _ _) rfl) ?_; refine Wo rfl (opv_move (v := v) rfl) ?_; refine Wo rfl (opv_len Tryd.underlying49 rfl h) ?_
        refine Wo rfl (opv_lss rfl rfl) ?_; refine Wo_split_dec rfl (opv_move (v := .bool _) rfl) (fun h1 => ?_) (fun h1 => ?_); refine Wo rfl (opv_move (v := v) rfl) ?_
        refine Wo_call rfl (opc1 (a := v) Tryd.call70 rfl) (hpo _ _ ((Mono.mono E1 h))) ?_; rintro _ w2 ⟨rfl, E2⟩; have hs1 := E2.size; refine Wo rfl (opv_pick_t (v := .bool _) rfl rfl) ?_; refine Wo_nil ?_; refine W_cond_false rfl ?_
        refine W_exit ?_; refine exitX_same ?_; refine W_seq ?_; refine W_region rfl ?_; refine Wo rfl (opv_move (v := .string _) rfl) ?_; refine Wo rfl (opv_assign (v := .string _) rfl) ?_; refine Wo_nil ?_; refine W_ret ?_
        exact ⟨rfl, (E1.trans E2)⟩; (exfalso; omega)
    · focus
        have szE1 := E1.size; refine W_seq ?_; refine W_seq ?_; refine W_region rfl ?_; refine Wo rfl (opv_move (v := .int _ _) rfl) ?_; refine Wo rfl (opv_move (v := v) rfl) ?_; refine Wo rfl (opv_len Tryd.underlying49 rfl h) ?_
        refine Wo rfl (opv_lss rfl rfl) ?_; refine Wo_split_dec rfl (opv_move (v := .bool _) rfl) (fun h1 => ?_) (fun h1 => ?_); (exfalso; omega); refine Wo_skip rfl ?_; refine Wo_skip rfl ?_
        refine Wo rfl (opv_pick_f (v := .bool _) rfl rfl) ?_; refine Wo_nil ?_; refine W_cond_false rfl ?_; refine W_exit ?_; refine exitX_same ?_; refine W_seq ?_; refine W_region rfl ?_; refine Wo rfl (opv_move (v := .string _) rfl) ?_
        refine Wo rfl (opv_assign (v := .string _) rfl) ?_; refine Wo_nil ?_; refine W_ret ?_; exact ⟨rfl, E1⟩

end Go.Proofs.YtgphoihilheoeaaDoor
