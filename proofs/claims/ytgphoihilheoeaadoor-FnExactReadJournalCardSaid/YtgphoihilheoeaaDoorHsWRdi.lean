/- Walks: texts of pictures and texts read as pictures, the program's. -/
import Derived.Test.YtgphoihilheoeaaDoorHsWTxt
import Derived.Test.YtgphoihilheoeaaDoorHsRdp
import Derived.Test.YtgphoihilheoeaaDoorHsLit
import Derived.Test.YtgphoihilheoeaaDoorHsBt
namespace Go.Proofs.YtgphoihilheoeaaDoor
open Go.Hs
set_option maxRecDepth 10000
set_option maxHeartbeats 4000000
set_option linter.unusedVariables false
set_option linter.unusedSimpArgs false

theorem pictureText_ok (w : World) (v : Value) (p : List (List Int)) (h : ESl Ints w v p) (hp : Pic p) : Does Tryd.prog 88 [v] w (Ret w (str (txt p))) := by
  have hle := h.le
  have hp1 := hp.1
  have hp5 := hp.2.1
  have hal : ∀ k, (arr p k).length ≤ 5 := fun k => by
    unfold arr
    refine Nat.le_trans (arrR_len _) ?_
    by_cases hk : k < p.length
    · rw [getD_lt hk, hp.row hk]; omega
    · have : p.getD k [] = [] := by simp [List.getD_eq_getElem?_getD, List.getElem?_eq_none (show p.length ≤ k by omega)]
      rw [this]; simp
  have k1 : ∀ (k : Nat), k < p.length → ∀ (w : World) (v : Value), ESl Ints w v p → Does Tryd.prog 106 [v, .int .i64 (k : Int)] w (RetO w XI (ints (arr p k))) := fun k hk w v h =>
    arrowsOf_ok w v p h (k : Int) (by omega) (by simp only [Int.toNat_natCast]; rw [getD_lt hk, hp.row hk]; omega)
  refine fn_of_W1 Tryd.func88 rfl Tryd.results88 Tryd.ntmps88 rfl ?_
  focus
    refine W_seq ?_; refine W_region rfl ?_; refine Wo rfl (opv_assign (v := .string _) rfl) ?_; refine Wo_nil ?_; refine W_seq ?_; refine W_region rfl ?_; refine Wo_lit0 XStr rfl el65 Tryd.sizeOf9 ?_; rintro b1 w1 hb1 b1lt E1 hO1
    have hs1 := E1.size; refine Wo rfl (opv_assign (v := .slice _ _ _) rfl) ?_; refine Wo_nil ?_; refine W_seq ?_; refine W_seq ?_; refine W_region rfl ?_; refine Wo rfl (opv_move (v := v) rfl) ?_
    refine Wo rfl (opv_len Tryd.underlying49 rfl h) ?_; refine Wo rfl (opv_move (v := .int _ _) rfl) ?_; refine Wo_nil ?_; refine W_block ?_
  refine W_loop [3, 4, 5, 7, 11, 12, 13, 14, 15, 16, 17, 18, 19, 20, 21, 22, 23, 24, 25, 26, 27, 28, 29, 30, 31] (fun ((k : Nat), u) => [(11, .int .i64 (k : Nat)), (3, u)]) (fun (k, u) w' => Ext w w' ∧ k ≤ p.length ∧ Owned w.heap.size XS w' u ((p.take k).map txR)) (fun x => p.length - x.1) (0, .slice (some ⟨b1, 0, none⟩) 0 0) (by repeat (first | exact trivial | refine And.intro rfl ?_)) ?_ ?_
  · exact ⟨by assumption, Nat.zero_le _, by simpa using hO1⟩
  clear hO1
  rintro ⟨k, u⟩ ρj w2 ⟨E2, hk, hO2⟩
  have htk : ((p.take k).map txR).length = k := by simp; omega
  by_cases hlt : k < p.length
  · have k2 := k1 k hlt
    have hil : (ints (arr p k)).length = (arr p k).length := by simp [ints]
    have hak := hal k
    have hdl : ∀ (m : Nat) (hm : m < (ints (arr p k)).length), (ints (arr p k))[m] = ((arr p k)[m]'(by omega) : Int) := fun m hm => by simp [ints]
    have hd5 : ∀ (m : Nat) (hm : m < (arr p k).length), (arr p k)[m] < 10 := fun m hm => by
      have := (mem_arrR.1 (List.getElem_mem hm)).1
      rw [getD_lt hlt, hp.row hlt] at this; omega
    focus
      have szE2 := E2.size; have szE1 := E1.size; refine W_seq ?_; refine W_region rfl ?_; refine Wo rfl (opv_lss rfl rfl) ?_; refine Wo_nil ?_; refine W_seq ?_; refine W_cond_dec rfl (fun h1 => ?_) (fun h1 => ?_); refine W_skip ?_
      refine W_seq ?_; refine W_block ?_; refine W_seq ?_; refine W_region rfl ?_; refine Wo rfl (opv_move (v := .int _ _) rfl) ?_; refine Wo rfl (opv_assign (v := .int _ _) rfl) ?_; refine Wo_nil ?_; refine W_seq ?_
      refine W_region rfl ?_; refine Wo rfl (opv_assign (v := .string _) rfl) ?_; refine Wo_nil ?_; refine W_seq ?_; refine W_seq ?_; refine W_region rfl ?_; refine Wo rfl (opv_move (v := v) rfl) ?_
      refine Wo rfl (opv_move (v := .int _ _) rfl) ?_; refine Wo_call rfl (opc2 (a := v) (b := .int _ _) Tryd.call106 rfl rfl) (k2 _ _ ((Mono.mono E2 h))) ?_; rintro u1 w3 ⟨E3, hO1⟩; have hs2 := E3.size
      refine Wo rfl (opv_len Tryd.underlying80 rfl (Owned.read hO1)) ?_; refine Wo rfl (opv_move (v := .int _ _) rfl) ?_; refine Wo_nil ?_; refine W_block ?_; rotate_left; (exfalso; omega)
    refine W_loop [5, 7, 18, 19, 20, 21, 22, 23, 24, 25, 26] (fun ((m, t) : Nat × List UInt8) => [(18, .int .i64 (m : Nat)), (5, str t)]) (fun (m, t) w' => Ext w3 w' ∧ m ≤ (arr p k).length ∧ t = ((arr p k).take m).map dig) (fun x => (arr p k).length - x.1) (0, []) (by repeat (first | exact trivial | refine And.intro rfl ?_)) ?_ ?_
    · exact ⟨Ext.refl _, Nat.zero_le _, by simp⟩
    rintro ⟨m, t⟩ ρk w4 ⟨E4, hm, ht⟩
    have htl : t.length ≤ 5 := by rw [ht]; simp; omega
    by_cases hml : m < (arr p k).length
    · have k3 : ∀ w, Does Tryd.prog 72 [.int .i64 ((ints (arr p k))[m]'(by omega))] w (Ret w (str [dig (arr p k)[m]])) := fun w => by
        rw [hdl m (by omega)]; exact Itoa_ok w _ (hd5 m hml)
      focus
        have szE4 := E4.size; have szE3 := E3.size; have szE2 := E2.size; have szE1 := E1.size; refine W_seq ?_; refine W_region rfl ?_; refine Wo rfl (opv_lss rfl rfl) ?_; refine Wo_nil ?_; refine W_seq ?_
        refine W_cond_dec rfl (fun h2 => ?_) (fun h2 => ?_); refine W_skip ?_; refine W_seq ?_; refine W_block ?_; refine W_seq ?_; refine W_region rfl ?_
        refine Wo_get Tryd.underlying80 Tryd.sizeOf3 Tryd.isAgg3 rfl (fun _ => rfl) rfl (Owned.read hO1) E4 rfl (by first | omega | (simp <;> omega)) ?_; rintro _ _ rfl; refine Wo rfl (opv_assign (v := .int _ _) rfl) ?_; refine Wo_nil ?_
        refine W_region rfl ?_; refine Wo rfl (opv_move (v := .string _) rfl) ?_; refine Wo rfl (opv_move (v := .int _ _) rfl) ?_; refine Wo_call rfl (opc1 (a := .int _ _) Tryd.call72 rfl) (k3 _) ?_; rintro _ w5 ⟨rfl, E5⟩
        have hs3 := E5.size; refine Wo rfl (opv_add_str rfl rfl (by simp <;> omega)) ?_; refine Wo rfl (opv_assign (v := .string _) rfl) ?_; refine Wo_nil ?_; refine W_region rfl ?_; refine Wo rfl (opv_add rfl rfl (by omega)) ?_
        refine Wo rfl (opv_move (v := .int _ _) rfl) ?_; refine Wo_nil ?_; rotate_left; (exfalso; omega)
      refine ⟨((m + 1, t ++ [dig (arr p k)[m]])), by repeat (first | exact trivial | refine And.intro rfl ?_), by repeat (first | with_reducible exact Same.refl | refine Same.upd rfl ?_ | refine Same.upds rfl ?_ | refine Same.mix rfl ?_), ?_, ?_⟩
      · refine ⟨by exact E4.trans (by assumption), by omega, ?_⟩
        rw [List.take_succ_eq_append_getElem hml, ht, List.map_append]; rfl
      · simp only; omega
    · obtain rfl : m = (arr p k).length := by omega
      have ht2 : t = txR p[k] := by
        rw [ht, List.take_length, txR, arr, getD_lt hlt]
      clear ht
      subst ht2
      focus
        have szE4 := E4.size; have szE3 := E3.size; have szE2 := E2.size; have szE1 := E1.size; refine W_seq ?_; refine W_region rfl ?_; refine Wo rfl (opv_lss rfl rfl) ?_; refine Wo_nil ?_; refine W_seq ?_
        refine W_cond_dec rfl (fun h2 => ?_) (fun h2 => ?_); (exfalso; omega); refine W_exit ?_; refine exitX_same ?_; refine W_region rfl ?_; refine Wo rfl (opv_move (v := u) rfl) ?_; refine Wo rfl (opv_move (v := .string _) rfl) ?_
        refine Wo_buildSlice (ps := [(0, .string _)]) (cs := [_]) rfl Tryd.underlying65 Tryd.sizeOf9 Tryd.zeroValue9 rfl rfl rfl rfl ?_; rintro b2 w5 hb2 E5 hB1; have hlb2 := hB1.lt; have hs3 := E5.size
        refine Wo_app1 rfl el65 rfl rfl hB1 (hO2.toB.ext ((E3.trans E4).trans E5)) (Owned.str (by first | omega | (simp <;> omega))) (Nat.le_refl _) (by first | omega | (simp <;> omega)) (by omega) (by omega) (((E2.trans E3).trans E4).trans E5) (by omega) ?_
        have hT1 := (hO2.toB.ext ((E3.trans E4).trans E5)); rintro v1 w6 hO2 E6 M1; have hO1 := (hO1.toB.ext (E4.trans E5)).moves M1 hT1 (by omega); have hB1 := hB1.moves M1 hT1 (by omega); have hs4 := E6.size
        refine Wo rfl (opv_assign (v := v1) rfl) ?_; refine Wo_nil ?_; refine W_region rfl ?_; refine Wo rfl (opv_add rfl rfl (by omega)) ?_; refine Wo rfl (opv_move (v := .int _ _) rfl) ?_; refine Wo_nil ?_
      refine ⟨((k + 1, v1)), by repeat (first | exact trivial | refine And.intro rfl ?_), by repeat (first | with_reducible exact Same.refl | refine Same.upd rfl ?_ | refine Same.upds rfl ?_ | refine Same.mix rfl ?_), ?_, ?_⟩
      · refine ⟨by assumption, by omega, ?_⟩
        rw [List.take_succ_eq_append_getElem hlt, List.map_append]; assumption
      · simp only; omega
  · obtain rfl : k = p.length := by omega
    rw [List.take_length] at hO2
    have k4 : ∀ (w1 : World) (v : Value) (lo : Nat), Owned lo XS w1 v (p.map txR) → Does Tryd.prog 108 [v, str [47]] w1 (Ret w1 (str (txt p))) := fun w1 v lo h =>
      Join_ok w1 v _ h (by have := txt_len hp.gr; unfold txt at this; omega) (by simp; omega)
    have k5 := fun w1 v => k4 w1 v w.heap.size
    focus
      have szE2 := E2.size; have szE1 := E1.size; refine W_seq ?_; refine W_region rfl ?_; refine Wo rfl (opv_lss rfl rfl) ?_; refine Wo_nil ?_; refine W_seq ?_; refine W_cond_dec rfl (fun h1 => ?_) (fun h1 => ?_); (exfalso; omega)
      refine W_exit ?_; refine exitX_same ?_; refine W_seq ?_; refine W_region rfl ?_; refine Wo rfl (opv_move (v := u) rfl) ?_; refine Wo_call rfl (opc2 (a := u) (b := .string _) Tryd.call108 rfl rfl) (k5 _ _ (hO2)) ?_
      rintro _ w3 ⟨rfl, E3⟩; have hs2 := E3.size; refine Wo rfl (opv_assign (v := .string _) rfl) ?_; refine Wo_nil ?_; refine W_ret ?_; exact ⟨rfl, (E2.trans E3)⟩

def rdS (ps : List (List UInt8)) (k : Nat) (l : List UInt8) : List (List Int) := (List.range ps.length).map fun i => rowB ps.length (if i < k then ps.getD i [] else if i = k then l else [])
theorem rdS_len {ps : List (List UInt8)} {k : Nat} {l : List UInt8} : (rdS ps k l).length = ps.length := by simp [rdS]
theorem rdS_row {ps : List (List UInt8)} {k : Nat} {l : List UInt8} {i : Nat} (h : i < (rdS ps k l).length) : (rdS ps k l)[i].length = ps.length := by simp [rdS, rowB_len]
theorem rdS_zero {ps : List (List UInt8)} : rdS ps 0 [] = List.replicate ps.length (List.replicate ps.length 0) := by
  have : ∀ i, (if i < 0 then ps.getD i [] else if i = 0 then ([] : List UInt8) else []) = [] := fun i => by simp
  simp only [rdS, this, rowB_nil]
  apply List.ext_getElem <;> simp
theorem rdS_set {ps : List (List UInt8)} {k a : Nat} {l : List UInt8} {c : UInt8} (hk : k < ps.length) (hc : c.toNat = 48 + a) (ha : a < ps.length) :
    (rdS ps k l).set k (((rdS ps k l)[k]'(by rw [rdS_len]; exact hk)).set a 1) = rdS ps k (l ++ [c]) := by
  apply List.ext_getElem
  · simp [rdS_len]
  · intro i h1 h2
    rw [rdS_len] at h2
    rw [List.getElem_set]
    by_cases e : k = i
    · subst e
      rw [if_pos rfl]
      simp only [rdS, List.getElem_map, List.getElem_range, Nat.lt_irrefl, if_false, if_true]
      exact rowB_set hc ha
    · rw [if_neg e]
      simp only [rdS, List.getElem_map, List.getElem_range, if_neg (fun h => e (Eq.symm h))]
theorem rdS_next {ps : List (List UInt8)} {k : Nat} (hk : k < ps.length) : rdS ps k ps[k] = rdS ps (k + 1) [] := by
  unfold rdS
  refine List.map_congr_left fun i hi => ?_
  have : (if i < k then ps.getD i [] else if i = k then ps[k] else []) = (if i < k + 1 then ps.getD i [] else if i = k + 1 then [] else []) := by
    by_cases h1 : i < k
    · rw [if_pos h1, if_pos (by omega)]
    · rw [if_neg h1]
      by_cases h2 : i = k
      · subst h2; rw [if_pos rfl, if_pos (by omega), getD_lt hk]
      · rw [if_neg h2, if_neg (by omega)]; split <;> rfl
  rw [this]
theorem rdS_all {s : List UInt8} : rdS (cutB 47 s) (cutB 47 s).length [] = rdM s := by
  apply List.ext_getElem
  · rw [rdS_len, rdM_len]
  · intro i h1 h2
    rw [rdM_len] at h2
    simp only [rdS, rdM, List.getElem_map, List.getElem_range, if_pos h2, getD_lt h2]
theorem readPicture_ok (w : World) (s : List UInt8) (hM : EMx gMx w (.bool true) ()) (hs : s.length ≤ 1048576) : Does Tryd.prog 73 [str s] w (RetOB w XR ((rdP s).getD []) (rdP s).isSome) := by
  obtain ⟨ps, hps⟩ : ∃ ps, ps = cutB 47 s := ⟨_, rfl⟩
  have k1 : Does Tryd.prog 92 [str s, str [47]] w (RetO w XS ps) := hps ▸ Split_ok w s hM hs
  have hpl : ps.length ≤ 1048577 := by rw [hps, cutB_len]; have := List.count_le_length (a := (47 : UInt8)) (l := s); omega
  have hp1 : 1 ≤ ps.length := by rw [hps, cutB_len]; omega
  have hpe : ∀ (k : Nat) (hk : k < ps.length), ps[k].length ≤ 1048576 := fun k hk => by
    have : ps[k] ∈ cutB 47 s := hps ▸ List.getElem_mem hk
    have := cutB_mem_len s.length s (Nat.le_refl _) _ this; omega
  refine fn_of_W2 Tryd.func73 rfl Tryd.results73 Tryd.ntmps73 rfl ?_
  by_cases h5 : 5 < ps.length
  · rw [rd_no4 (by rw [← hps]; exact h5)]
    focus
      refine W_seq ?_; refine W_region rfl ?_; refine Wo rfl (opv_assign (v := .slice _ _ _) rfl) ?_; refine Wo rfl (opv_assign (v := .bool _) rfl) ?_; refine Wo_nil ?_; refine W_seq ?_; refine W_region rfl ?_
      refine Wo rfl (opv_move (v := .string _) rfl) ?_; refine Wo_call rfl (opc2 (a := .string _) (b := .string _) Tryd.call92 rfl rfl) (k1) ?_; rintro u1 w1 ⟨E1, hO1⟩; have hs1 := E1.size; refine Wo rfl (opv_assign (v := u1) rfl) ?_
      refine Wo_nil ?_; refine W_seq ?_; refine W_seq ?_; refine W_region rfl ?_; refine Wo rfl (opv_move (v := u1) rfl) ?_; refine Wo rfl (opv_len Tryd.underlying65 rfl (Owned.read hO1)) ?_; refine Wo rfl (opv_gtr rfl rfl) ?_
      refine Wo_nil ?_; refine W_cond_dec rfl (fun h1 => ?_) (fun h1 => ?_); refine W_seq ?_; refine W_region rfl ?_; refine Wo rfl (opv_assign (v := .slice _ _ _) rfl) ?_; refine Wo rfl (opv_assign (v := .bool _) rfl) ?_
      refine Wo_nil ?_; refine W_ret ?_; refine at_ret (v := .tuple #[.slice _ _ _, .bool _]) rfl ?_; exact ⟨_, rfl, E1, Owned.nil⟩; (exfalso; omega)
  · have k2 : ∀ w, Does Tryd.prog 93 [.int .i64 (ps.length : Int)] w (RetO w XR (rdS ps 0 [])) := fun w => by
      rw [rdS_zero]; exact emptyPicture_ok w _ (by omega)
    focus
      refine W_seq ?_; refine W_region rfl ?_; refine Wo rfl (opv_assign (v := .slice _ _ _) rfl) ?_; refine Wo rfl (opv_assign (v := .bool _) rfl) ?_; refine Wo_nil ?_; refine W_seq ?_; refine W_region rfl ?_
      refine Wo rfl (opv_move (v := .string _) rfl) ?_; refine Wo_call rfl (opc2 (a := .string _) (b := .string _) Tryd.call92 rfl rfl) (k1) ?_; rintro u1 w1 ⟨E1, hO1⟩; have hs1 := E1.size; refine Wo rfl (opv_assign (v := u1) rfl) ?_
      refine Wo_nil ?_; refine W_seq ?_; refine W_seq ?_; refine W_region rfl ?_; refine Wo rfl (opv_move (v := u1) rfl) ?_; refine Wo rfl (opv_len Tryd.underlying65 rfl (Owned.read hO1)) ?_; refine Wo rfl (opv_gtr rfl rfl) ?_
      refine Wo_nil ?_; refine W_cond_dec rfl (fun h1 => ?_) (fun h1 => ?_); (exfalso; omega); refine W_skip ?_; refine W_seq ?_; refine W_region rfl ?_; refine Wo rfl (opv_move (v := u1) rfl) ?_
      refine Wo rfl (opv_len Tryd.underlying65 rfl (Owned.read hO1)) ?_; refine Wo_call rfl (opc1 (a := .int _ _) Tryd.call93 rfl) (k2 _) ?_; rintro u2 w2 ⟨E2, hO2⟩; have hs2 := E2.size; refine Wo rfl (opv_assign (v := u2) rfl) ?_
      refine Wo_nil ?_; refine W_seq ?_; refine W_seq ?_; refine W_region rfl ?_; refine Wo rfl (opv_move (v := u1) rfl) ?_; refine Wo rfl (opv_len Tryd.underlying65 rfl (Owned.read hO1)) ?_
      refine Wo rfl (opv_move (v := .int _ _) rfl) ?_; refine Wo_nil ?_; refine W_block ?_
    have hz0 : (rdS ps 0 []).length = ps.length := rdS_len
    obtain ⟨ub, uc, rfl, _⟩ := hO2.lit (by omega)
    rw [hz0] at hO2 ⊢
    refine W_loop [2, 3, 6, 7, 8, 9, 20, 21, 22, 23, 24, 25, 26, 27, 28, 29, 30, 31, 32, 33, 34, 35, 36, 37, 38, 39, 40, 41, 42, 43, 44, 45, 46, 47, 48, 49, 50] (fun (k : Nat) => [(20, .int .i64 (k : Nat))]) (fun k w' => Ext w1 w' ∧ k ≤ ps.length ∧ Owned w1.heap.size XR w' (.slice (some ⟨ub, 0, none⟩) ps.length uc) (rdS ps k [])) (fun k => ps.length - k) 0 (by repeat (first | exact trivial | refine And.intro rfl ?_)) ?_ ?_
    · exact ⟨by assumption, Nat.zero_le _, hO2⟩
    clear hO2
    rintro k ρj w3 ⟨E3, hk, hO3⟩
    by_cases hkl : k < ps.length
    · have hpk := hpe k hkl
      focus
        have szE3 := E3.size; have szE2 := E2.size; have szE1 := E1.size; refine W_seq ?_; refine W_region rfl ?_; refine Wo rfl (opv_lss rfl rfl) ?_; refine Wo_nil ?_; refine W_seq ?_; refine W_cond_dec rfl (fun h2 => ?_) (fun h2 => ?_)
        refine W_skip ?_; refine W_seq ?_; refine W_block ?_; refine W_seq ?_; refine W_region rfl ?_; refine Wo rfl (opv_move (v := .int _ _) rfl) ?_
        refine Wo_get Tryd.underlying65 Tryd.sizeOf9 Tryd.isAgg9 rfl (fun _ => rfl) rfl (Owned.read hO1) E3 rfl (by first | omega | (simp <;> omega)) ?_; rintro _ _ ⟨rfl, -⟩; refine Wo rfl (opv_assign (v := .int _ _) rfl) ?_
        refine Wo rfl (opv_assign (v := .string _) rfl) ?_; refine Wo_nil ?_; refine W_seq ?_; refine W_region rfl ?_; refine Wo rfl (opv_move (v := .string _) rfl) ?_; refine Wo rfl (opv_len_str Tryd.underlying9 rfl) ?_
        refine Wo rfl (opv_move (v := .int _ _) rfl) ?_; refine Wo_nil ?_; refine W_block ?_; rotate_left; (exfalso; omega)
      refine W_loop [2, 3, 8, 9, 27, 28, 29, 30, 31, 32, 33, 34, 35, 36, 37, 38, 39, 40, 41, 42, 43, 44, 45, 46, 47, 48, 49] (fun (j : Nat) => [(27, .int .i64 (j : Nat))]) (fun j w' => Ext w1 w' ∧ j ≤ ps[k].length ∧ Owned w1.heap.size XR w' (.slice (some ⟨ub, 0, none⟩) ps.length uc) (rdS ps k (ps[k].take j))) (fun j => ps[k].length - j) 0 (by repeat (first | exact trivial | refine And.intro rfl ?_)) ?_ ?_
      · exact ⟨E3, Nat.zero_le _, hO3⟩
      clear hO3
      rintro j ρk w5 ⟨E5, hj, hO5⟩
      by_cases hjl : j < ps[k].length
      · have hc8 : (ps[k].getD j 0).toNat < 256 := UInt8.toNat_lt _
        have hcd : ps[k].getD j 0 = ps[k][j] := getD_lt hjl
        have hts : ps[k].take (j + 1) = ps[k].take j ++ [ps[k].getD j 0] := by rw [hcd]; exact List.take_succ_eq_append_getElem hjl
        have hmem : ps[k] ∈ cutB 47 s := hps ▸ List.getElem_mem hkl
        have hnl : (ps.length : Int) = (cutB 47 s).length := by rw [hps]
        have hml : (rdS ps k (ps[k].take j)).length = ps.length := rdS_len
        have hmr : (rdS ps k (ps[k].take j))[k].length = ps.length := rdS_row (by omega)
        by_cases hr : 48 ≤ (ps[k].getD j 0).toNat ∧ (ps[k].getD j 0).toNat < 48 + ps.length
        · obtain ⟨br, cr, hR, _, _⟩ := hO5.rowAt (i := k) (by omega) (by omega)
          have hb2 := hO5.lt_own (k := ub) rfl
          focus
            have szE5 := E5.size; have szE3 := E3.size; have szE2 := E2.size; have szE1 := E1.size; refine W_seq ?_; refine W_region rfl ?_; refine Wo rfl (opv_lss rfl rfl) ?_; refine Wo_nil ?_; refine W_seq ?_
            refine W_cond_dec rfl (fun h3 => ?_) (fun h3 => ?_); refine W_skip ?_; refine W_seq ?_; refine W_block ?_; refine W_seq ?_; refine W_region rfl ?_; refine Wo rfl (opv_move (v := .int _ _) rfl) ?_
            refine Wo rfl (opv_assign (v := .int _ _) rfl) ?_; refine Wo_nil ?_; refine W_seq ?_; refine W_region rfl ?_; refine Wo rfl (opv_move (v := .string _) rfl) ?_; refine Wo rfl (opv_move (v := .int _ _) rfl) ?_
            refine Wo rfl (opv_index_str Tryd.underlying9 rfl rfl (by omega)) ?_; refine Wo rfl (opv_conv_int Tryd.underlying5 Tryd.underlying3 rfl (by omega)) ?_; refine Wo rfl (opv_sub rfl rfl (by omega)) ?_
            refine Wo rfl (opv_assign (v := .int _ _) rfl) ?_; refine Wo_nil ?_; refine W_seq ?_; refine W_seq ?_; refine W_region rfl ?_; refine Wo rfl (opv_move (v := .int _ _) rfl) ?_; refine Wo rfl (opv_lss rfl rfl) ?_
            refine Wo_split_dec rfl (opv_move (v := .bool _) rfl) (fun h4 => ?_) (fun h4 => ?_); (exfalso; omega); refine Wo rfl (opv_move (v := .int _ _) rfl) ?_; refine Wo rfl (opv_move (v := u1) rfl) ?_
            refine Wo rfl (opv_len Tryd.underlying65 rfl (Owned.read hO1)) ?_; refine Wo rfl (opv_geq rfl rfl) ?_; refine Wo rfl (opv_pick_f (v := .bool _) rfl rfl) ?_; refine Wo_nil ?_; refine W_cond_dec rfl (fun h6 => ?_) (fun h6 => ?_)
            (exfalso; omega); refine W_skip ?_; refine W_region rfl ?_; refine Wo rfl (opv_move (v := .slice _ _ _) rfl) ?_; refine Wo rfl (opv_move (v := .int _ _) rfl) ?_
            refine Wo_rowAt Tryd.underlying49 Tryd.sizeOf80 Tryd.isAgg80 rfl (fun _ => rfl) rfl ⟨_, _, rfl⟩ rfl hR (by first | omega | (simp <;> omega)) ?_; rintro _; refine Wo rfl (opv_move (v := .int _ _) rfl) ?_
            refine Wo rfl (opv_indexAddr_z Tryd.underlying80 Tryd.sizeOf3 rfl rfl (by omega)) ?_; refine Wo_gset rfl Tryd.sizeOf3 rfl rfl hO5.toB hR (by first | omega | (simp <;> omega)) (by first | omega | (simp <;> omega)) ?_
            rintro w4 hO5 hR On1 K1 hz1; have E4 := On1.ext1 (E1.trans E5) (by omega); have E6 := On1.ext1 E5 (by omega); have szE6 := E6.size; have hO1 := (hO1.toB.ext E5).wrote K1 (by omega); have hs3 := On1.size; refine Wo_nil ?_
            refine W_region rfl ?_; refine Wo rfl (opv_add rfl rfl (by omega)) ?_; refine Wo rfl (opv_move (v := .int _ _) rfl) ?_; refine Wo_nil ?_; rotate_left; (exfalso; omega)
          all_goals refine ⟨j + 1, ⟨rfl, trivial⟩, by repeat (first | with_reducible exact Same.refl | refine Same.upd rfl ?_ | refine Same.upds rfl ?_ | refine Same.mix rfl ?_), ⟨by assumption, by omega, (congrArg (Owned _ _ _ _) ?_).mp hO5⟩, by omega⟩
          all_goals (rw [hts]; exact rdS_set (by omega) (by omega) (by omega))
        · rw [rd_no1 hmem (List.getElem_mem hjl) (fun h => hr (by rw [hcd]; omega))]
          focus
            have szE5 := E5.size; have szE3 := E3.size; have szE2 := E2.size; have szE1 := E1.size; refine W_seq ?_; refine W_region rfl ?_; refine Wo rfl (opv_lss rfl rfl) ?_; refine Wo_nil ?_; refine W_seq ?_
            refine W_cond_dec rfl (fun h3 => ?_) (fun h3 => ?_); refine W_skip ?_; refine W_seq ?_; refine W_block ?_; refine W_seq ?_; refine W_region rfl ?_; refine Wo rfl (opv_move (v := .int _ _) rfl) ?_
            refine Wo rfl (opv_assign (v := .int _ _) rfl) ?_; refine Wo_nil ?_; refine W_seq ?_; refine W_region rfl ?_; refine Wo rfl (opv_move (v := .string _) rfl) ?_; refine Wo rfl (opv_move (v := .int _ _) rfl) ?_
            refine Wo rfl (opv_index_str Tryd.underlying9 rfl rfl (by omega)) ?_; refine Wo rfl (opv_conv_int Tryd.underlying5 Tryd.underlying3 rfl (by omega)) ?_; refine Wo rfl (opv_sub rfl rfl (by omega)) ?_
            refine Wo rfl (opv_assign (v := .int _ _) rfl) ?_; refine Wo_nil ?_; refine W_seq ?_; refine W_seq ?_; refine W_region rfl ?_; refine Wo rfl (opv_move (v := .int _ _) rfl) ?_; refine Wo rfl (opv_lss rfl rfl) ?_
            refine Wo_split_dec rfl (opv_move (v := .bool _) rfl) (fun h4 => ?_) (fun h4 => ?_); refine Wo_skip rfl ?_; refine Wo_skip rfl ?_; refine Wo_skip rfl ?_; refine Wo_skip rfl ?_; refine Wo rfl (opv_pick_t (v := .bool _) rfl rfl) ?_
            refine Wo_nil ?_; refine W_cond_true rfl ?_; refine W_seq ?_; refine W_region rfl ?_; refine Wo rfl (opv_assign (v := .slice _ _ _) rfl) ?_; refine Wo rfl (opv_assign (v := .bool _) rfl) ?_; refine Wo_nil ?_; refine W_ret ?_
            refine at_ret (v := .tuple #[.slice _ _ _, .bool _]) rfl ?_; exact ⟨_, rfl, (E1.trans E5), Owned.nil⟩; refine Wo rfl (opv_move (v := .int _ _) rfl) ?_; refine Wo rfl (opv_move (v := u1) rfl) ?_
            refine Wo rfl (opv_len Tryd.underlying65 rfl (Owned.read hO1)) ?_; refine Wo rfl (opv_geq rfl rfl) ?_; refine Wo rfl (opv_pick_f (v := .bool _) rfl rfl) ?_; refine Wo_nil ?_; refine W_cond_dec rfl (fun h6 => ?_) (fun h6 => ?_)
            refine W_seq ?_; refine W_region rfl ?_; refine Wo rfl (opv_assign (v := .slice _ _ _) rfl) ?_; refine Wo rfl (opv_assign (v := .bool _) rfl) ?_; refine Wo_nil ?_; refine W_ret ?_
            refine at_ret (v := .tuple #[.slice _ _ _, .bool _]) rfl ?_; exact ⟨_, rfl, (E1.trans E5), Owned.nil⟩; (exfalso; omega); (exfalso; omega)
          all_goals omega
      · obtain rfl : j = ps[k].length := by omega
        rw [List.take_length, rdS_next hkl] at hO5
        focus
          have szE5 := E5.size; have szE3 := E3.size; have szE2 := E2.size; have szE1 := E1.size; refine W_seq ?_; refine W_region rfl ?_; refine Wo rfl (opv_lss rfl rfl) ?_; refine Wo_nil ?_; refine W_seq ?_
          refine W_cond_dec rfl (fun h3 => ?_) (fun h3 => ?_); (exfalso; omega); refine W_exit ?_; refine exitX_same ?_; refine W_region rfl ?_; refine Wo rfl (opv_add rfl rfl (by omega)) ?_; refine Wo rfl (opv_move (v := .int _ _) rfl) ?_
          refine Wo_nil ?_
        refine ⟨(k + 1), by repeat (first | exact trivial | refine And.intro rfl ?_), by repeat (first | with_reducible exact Same.refl | refine Same.upd rfl ?_ | refine Same.upds rfl ?_ | refine Same.mix rfl ?_), ?_, ?_⟩
        · exact ⟨by assumption, by omega, hO5⟩
        · omega
    · obtain rfl : k = ps.length := by omega
      have eM : rdS ps ps.length [] = rdM s := by rw [hps]; exact rdS_all
      rw [eM] at hO3
      have hP : Pic (rdM s) := rdM_pic (by rw [← hps]; omega)
      have hml : (rdM s).length = ps.length := by rw [hps]; exact rdM_len
      clear k1 k2
      have k3 : ∀ w v, ESl Ints w v (rdM s) → Does Tryd.prog 88 [v] w (Ret w (str (txt (rdM s)))) := fun w v h => pictureText_ok w v _ h hP
      by_cases hT : txt (rdM s) = s
      · rw [rd_yes hP hT]
        rw [hT] at k3
        focus
          have szE3 := E3.size; have szE2 := E2.size; have szE1 := E1.size; refine W_seq ?_; refine W_region rfl ?_; refine Wo rfl (opv_lss rfl rfl) ?_; refine Wo_nil ?_; refine W_seq ?_; refine W_cond_dec rfl (fun h2 => ?_) (fun h2 => ?_)
          (exfalso; omega); refine W_exit ?_; refine exitX_same ?_; refine W_seq ?_; refine W_seq ?_; refine W_region rfl ?_; refine Wo rfl (opv_move (v := .slice _ _ _) rfl) ?_
          refine Wo_call rfl (opc1 (a := .slice _ _ _) Tryd.call88 rfl) (k3 _ _ ((Owned.read hO3))) ?_; rintro _ w4 ⟨rfl, E4⟩; have hs3 := E4.size; refine Wo rfl (opv_move (v := .string _) rfl) ?_; refine Wo rfl (opv_neq_str rfl rfl) ?_
          refine Wo_nil ?_; refine W_cond_ndec rfl (fun h3 => ?_) (fun h3 => ?_); contradiction; refine W_skip ?_; refine W_seq ?_; refine W_region rfl ?_; refine Wo rfl (opv_move (v := .slice _ _ _) rfl) ?_
          refine Wo rfl (opv_assign (v := .slice _ _ _) rfl) ?_; refine Wo rfl (opv_assign (v := .bool _) rfl) ?_; refine Wo_nil ?_; refine W_ret ?_; refine at_ret (v := .tuple #[.slice _ _ _, .bool _]) rfl ?_
          exact ⟨_, rfl, ((E1.trans E3).trans E4), (hO3.toB.ext E4).o.mono (by omega)⟩
      · rw [rd_no3 hT]
        focus
          have szE3 := E3.size; have szE2 := E2.size; have szE1 := E1.size; refine W_seq ?_; refine W_region rfl ?_; refine Wo rfl (opv_lss rfl rfl) ?_; refine Wo_nil ?_; refine W_seq ?_; refine W_cond_dec rfl (fun h2 => ?_) (fun h2 => ?_)
          (exfalso; omega); refine W_exit ?_; refine exitX_same ?_; refine W_seq ?_; refine W_seq ?_; refine W_region rfl ?_; refine Wo rfl (opv_move (v := .slice _ _ _) rfl) ?_
          refine Wo_call rfl (opc1 (a := .slice _ _ _) Tryd.call88 rfl) (k3 _ _ ((Owned.read hO3))) ?_; rintro _ w4 ⟨rfl, E4⟩; have hs3 := E4.size; refine Wo rfl (opv_move (v := .string _) rfl) ?_; refine Wo rfl (opv_neq_str rfl rfl) ?_
          refine Wo_nil ?_; refine W_cond_ndec rfl (fun h3 => ?_) (fun h3 => ?_); refine W_seq ?_; refine W_region rfl ?_; refine Wo rfl (opv_assign (v := .slice _ _ _) rfl) ?_; refine Wo rfl (opv_assign (v := .bool _) rfl) ?_
          refine Wo_nil ?_; refine W_ret ?_; refine at_ret (v := .tuple #[.slice _ _ _, .bool _]) rfl ?_; exact ⟨_, rfl, ((E1.trans E3).trans E4), Owned.nil⟩; contradiction

end Go.Proofs.YtgphoihilheoeaaDoor
