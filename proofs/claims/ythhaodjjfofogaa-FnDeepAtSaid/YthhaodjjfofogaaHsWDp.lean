/- Walks: how deep, on both sides. -/
import Derived.Test.YthhaodjjfofogaaHsWCbL
import Derived.Test.YthhaodjjfofogaaHsWAl
import Derived.Test.YthhaodjjfofogaaHsFndR
namespace Go.Proofs.Ythhaodjjfofogaa
open Go.Hs
set_option maxRecDepth 10000
set_option maxHeartbeats 4000000
set_option linter.unusedVariables false
set_option linter.unusedSimpArgs false

theorem l6Arrows_ok (w : World) (v : Value) (p : List (List Int)) (h : ESl Ints w v p) (hp : Pic p) (i : Nat) (hi : i < p.length) : Does Try.prog 54 [v, .int .i64 (i : Int)] w (RetO w XI (ints (arr p i))) := by
  have hle := h.le
  have hrow := hp.row hi
  have hp5 := hp.2.1
  unfold arr
  rw [getD_lt hi]
  refine fn_of_W1 Try.func54 rfl Try.results54 Try.ntmps54 rfl ?_
  focus
    refine W_seq ?_; refine W_region rfl ?_; refine Wo rfl (opv_assign (v := .slice _ _ _) rfl) ?_; refine Wo_nil ?_; refine W_seq ?_; refine W_region rfl ?_; refine Wo_lit0 XInt rfl el24 Try.sizeOf3 ?_; rintro b1 w1 hb1 b1lt E1 hO1
    have hs1 := E1.size; refine Wo rfl (opv_assign (v := .slice _ _ _) rfl) ?_; refine Wo_nil ?_; refine W_seq ?_; refine W_seq ?_; refine W_region rfl ?_; refine Wo rfl (opv_assign (v := .int _ _) rfl) ?_; refine Wo_nil ?_
    refine W_block ?_
  refine W_loop [5, 6, 8, 9, 10, 11, 12, 13, 14, 15, 16, 17, 18, 19, 20, 21, 22, 23, 24, 25] (fun (k, u) => [(6, .int .i64 (k : Nat)), (5, u)]) (fun (k, u) w' => Ext w w' ∧ k ≤ p.length ∧ Owned w.heap.size XI w' u (ints ((List.range k).filter fun j => decide (p[i].getD j 0 = 1)))) (fun x => p.length - x.1) (0, .slice (some ⟨b1, 0, none⟩) 0 0) (by repeat (first | exact trivial | refine And.intro rfl ?_)) ?_ ?_
  · exact ⟨by assumption, Nat.zero_le _, by simpa [ints] using hO1⟩
  rintro ⟨k, u⟩ ρj w2 ⟨E2, hk, hO2⟩
  have hll : (ints ((List.range k).filter fun j => decide (p[i].getD j 0 = 1))).length ≤ k := by
    simp only [ints, List.length_map]; exact Nat.le_trans (List.length_filter_le _ _) (by simp)
  have hfs := filter_range_succ (fun j => decide (p[i].getD j 0 = 1)) k
  focus
    have szE2 := E2.size; have szE1 := E1.size; refine W_seq ?_; refine W_seq ?_; refine W_region rfl ?_; refine Wo rfl (opv_move (v := .int _ _) rfl) ?_; refine Wo rfl (opv_move (v := v) rfl) ?_
    refine Wo rfl (opv_len Try.underlying22 rfl h) ?_; refine Wo rfl (opv_lss rfl rfl) ?_; refine Wo_nil ?_; refine W_cond_dec rfl (fun h1 => ?_) (fun h1 => ?_); refine W_skip ?_; refine W_seq ?_; refine W_block ?_; refine W_seq ?_
    refine W_region rfl ?_; refine Wo rfl (opv_move (v := v) rfl) ?_; refine Wo rfl (opv_move (v := .int _ _) rfl) ?_
    refine Wo_get Try.underlying22 Try.sizeOf24 Try.isAgg24 rfl (fun _ => rfl) rfl h E2 rfl (by first | omega | (simp <;> omega)) ?_; rintro _ u1 hu1; refine Wo rfl (opv_move (v := .int _ _) rfl) ?_
    refine Wo_get Try.underlying24 Try.sizeOf3 Try.isAgg3 rfl (fun _ => rfl) rfl hu1 E2 rfl (by first | omega | (simp <;> omega)) ?_; rintro _ _ rfl; refine Wo rfl (opv_eql rfl rfl) ?_; refine Wo_nil ?_
    refine W_cond_dec rfl (fun h2 => ?_) (fun h2 => ?_); refine W_region rfl ?_; refine Wo rfl (opv_move (v := u) rfl) ?_; refine Wo rfl (opv_move (v := .int _ _) rfl) ?_
    refine Wo_buildSliceH (ps := [(0, .int _ _)]) (cs := [_]) rfl Try.underlying24 Try.sizeOf3 Try.zeroValue3 rfl rfl rfl rfl ?_; rintro b2 w3 hb2 E3 hB1 hHb2; have hlb2 := hB1.lt; have hs2 := E3.size
    refine Wo_app1 rfl el24 rfl rfl hB1 (hO2.toB.ext E3) Owned.int (Nat.le_refl _) (by first | omega | (simp <;> omega)) (by omega) (by omega) (E2.trans E3) (by omega) ?_; have hT1 := (hO2.toB.ext E3); rintro v1 w4 hO2 E4 M1
    have hB1 := hB1.moves M1 hT1 (by omega); have hs3 := E4.size; refine Wo rfl (opv_assign (v := v1) rfl) ?_; refine Wo_nil ?_; refine W_region rfl ?_; refine Wo rfl (opv_move (v := .int _ _) rfl) ?_
    refine Wo rfl (opv_add rfl rfl (by omega)) ?_; refine Wo rfl (opv_assign (v := .int _ _) rfl) ?_; refine Wo_nil ?_; rotate_left; refine W_skip ?_; refine W_region rfl ?_; refine Wo rfl (opv_move (v := .int _ _) rfl) ?_
    refine Wo rfl (opv_add rfl rfl (by omega)) ?_; refine Wo rfl (opv_assign (v := .int _ _) rfl) ?_; refine Wo_nil ?_; rotate_left; refine W_exit ?_; refine exitX_same ?_; refine W_seq ?_; refine W_region rfl ?_
    refine Wo rfl (opv_move (v := u) rfl) ?_; refine Wo rfl (opv_assign (v := u) rfl) ?_; refine Wo_nil ?_; refine W_ret ?_; refine ⟨E2, (congrArg (Owned _ _ _ _) ?_).mp (hO2.toB.o.mono (by omega))⟩; rotate_left
  · refine ⟨((k + 1, v1)), by repeat (first | exact trivial | refine And.intro rfl ?_), by repeat (first | with_reducible exact Same.refl | refine Same.upd rfl ?_ | refine Same.upds rfl ?_ | refine Same.mix rfl ?_), ?_, ?_⟩
    · refine ⟨by assumption, by omega, ?_⟩
      rw [hfs, getD_lt (by omega), if_pos (by simpa using by assumption)]
      simpa [ints] using hO2
    · simp only; omega
  · refine ⟨((k + 1, u)), by repeat (first | exact trivial | refine And.intro rfl ?_), by repeat (first | with_reducible exact Same.refl | refine Same.upd rfl ?_ | refine Same.upds rfl ?_ | refine Same.mix rfl ?_), ?_, ?_⟩
    · refine ⟨E2, by omega, ?_⟩
      rw [hfs, getD_lt (by omega), if_neg (by simpa using by assumption)]
      simpa [ints] using hO2
    · simp only; omega
  · obtain rfl : k = p[i].length := by omega
    rfl

theorem dpt_fold {p : List (List Int)} (hp : Pic p) {r k : Nat} (hk : k < p.length) (hc : cback p k = false) (hr : (rf p k).length ≤ r + 1) (j : Nat) :
    ((arr p k).take j).foldl (fun n j => max n (dpt p r j + 1)) 0 < p.length + 1 := by
  rw [fold_lt]
  refine ⟨by omega, fun i hi => ?_⟩
  have hi' := List.mem_of_mem_take hi
  have := rf_lt hp hk hc hi'
  exact dpt_lt hp ((mem_arr hp hk).1 hi').1 (by omega) (cback_arr hp hk hc hi')
theorem deepAt_ok (p : List (List Int)) (hp : Pic p) : ∀ (r : Nat) (w : World) (v : Value) (k : Nat), ESl Ints w v p → k < p.length → cback p k = false → (rf p k).length ≤ r →
    Does Try.prog 57 [v, .int .i64 (k : Int)] w (Ret w (.int .i64 (dpt p r k : Int))) := by
  have hp5 := hp.2.1
  have harr : ∀ (w : World) (pv : Value) (z : Nat), ESl Ints w pv p → z < p.length → Does Try.prog 50 [pv, .int .i64 (z : Int)] w (RetO w XI (ints (arr p z))) := fun w pv z h hz =>
    arrowsOf_ok w pv p h (z : Int) (by omega) (by rw [getD_lt (by omega), hp.row (by omega)]; omega)
  intro r
  induction r with
  | zero =>
    intro w v k h hk hc hr
    have hm := (mem_rf hp hk).2 (.refl k)
    rw [List.length_eq_zero_iff.1 (Nat.le_zero.1 hr)] at hm; cases hm
  | succ r ih =>
    intro w v k h hk hc hr
    have hle := h.le
    have hla := ints_len (arr p k)
    have ha5 := arr_lt5 hp hk
    refine fn_of_W1 Try.func57 rfl Try.results57 Try.ntmps57 rfl ?_
    focus
      refine W_seq ?_; refine W_region rfl ?_; refine Wo rfl (opv_assign (v := .int _ _) rfl) ?_; refine Wo_nil ?_; refine W_seq ?_; refine W_region rfl ?_; refine Wo rfl (opv_assign (v := .int _ _) rfl) ?_; refine Wo_nil ?_
      refine W_seq ?_; refine W_seq ?_; refine W_region rfl ?_; refine Wo rfl (opv_move (v := v) rfl) ?_; refine Wo rfl (opv_move (v := .int _ _) rfl) ?_
      refine Wo_call rfl (opc2 (a := v) (b := .int _ _) Try.call50 rfl rfl) (harr _ _ _ (h) (by assumption)) ?_; rintro u1 w1 ⟨E1, hO1⟩; have hs1 := E1.size; refine Wo rfl (opv_len Try.underlying24 rfl (Owned.read hO1)) ?_
      refine Wo rfl (opv_move (v := .int _ _) rfl) ?_; refine Wo_nil ?_; refine W_block ?_
    refine W_loop [5, 7, 12, 13, 14, 15, 16, 17, 18, 19, 20, 21, 22] (fun (j, m) => [(12, .int .i64 (j : Nat)), (5, .int .i64 m)]) (fun (j, (m : Int)) w' => Ext w1 w' ∧ j ≤ (arr p k).length ∧ m = ((((arr p k).take j).foldl (fun n j => max n (dpt p r j + 1)) 0 : Nat) : Int)) (fun x => (arr p k).length - x.1) (0, 0) (by repeat (first | exact trivial | refine And.intro rfl ?_)) ?_ ?_
    · exact ⟨Ext.refl _, Nat.zero_le _, by simp⟩
    rintro ⟨j, m⟩ ρj w2 ⟨E2, hj, hm⟩
    have hmb := dpt_fold hp hk hc hr j
    obtain ⟨q, hq⟩ : ∃ q, q = ((arr p k).take j).foldl (fun n j => max n (dpt p r j + 1)) 0 := ⟨_, rfl⟩
    rw [← hq] at hm hmb
    by_cases hjl : j < (arr p k).length
    · have hmm := List.getElem_mem hjl
      have hga := ints_get hjl
      have hts := take_snoc _ _ hjl
      have hxl := ((mem_arr hp hk).1 hmm).1
      have hrl := rf_lt hp hk hc hmm
      have hcb := cback_arr hp hk hc hmm
      have hdl := dpt_lt hp (r := r) hxl (by omega) hcb
      have k2 : ∀ (w : World) (pv : Value), ESl Ints w pv p → Does Try.prog 57 [pv, .int .i64 ((ints (arr p k))[j]'(by omega))] w (Ret w (.int .i64 (dpt p r (arr p k)[j] : Int))) := by
        rw [hga]; exact fun w pv h => ih w pv _ h hxl hcb (by omega)
      have hnew : max q (dpt p r (arr p k)[j] + 1) = ((arr p k).take (j + 1)).foldl (fun n j => max n (dpt p r j + 1)) 0 := by
        rw [hts, List.foldl_append, ← hq]; rfl
      subst hm
      generalize dpt p r (arr p k)[j] = d at *
      focus
        have szE2 := E2.size; have szE1 := E1.size; refine W_seq ?_; refine W_region rfl ?_; refine Wo rfl (opv_lss rfl rfl) ?_; refine Wo_nil ?_; refine W_seq ?_; refine W_cond_dec rfl (fun h1 => ?_) (fun h1 => ?_); refine W_skip ?_
        refine W_seq ?_; refine W_block ?_; refine W_seq ?_; refine W_region rfl ?_; refine Wo_get Try.underlying24 Try.sizeOf3 Try.isAgg3 rfl (fun _ => rfl) rfl (Owned.read hO1) E2 rfl (by first | omega | (simp <;> omega)) ?_
        rintro _ _ rfl; refine Wo rfl (opv_assign (v := .int _ _) rfl) ?_; refine Wo_nil ?_; refine W_region rfl ?_; refine Wo rfl (opv_move (v := .int _ _) rfl) ?_; refine Wo rfl (opv_move (v := v) rfl) ?_
        refine Wo rfl (opv_move (v := .int _ _) rfl) ?_; refine Wo_call rfl (opc2 (a := v) (b := .int _ _) Try.call57 rfl rfl) (k2 _ _ ((Mono.mono (E1.trans E2) h))) ?_; rintro _ w3 ⟨rfl, E3⟩; have hs2 := E3.size
        refine Wo rfl (opv_add rfl rfl (by omega)) ?_; refine Wo rfl (opv_max rfl rfl) ?_; refine Wo rfl (opv_assign (v := .int _ _) rfl) ?_; refine Wo_nil ?_; refine W_region rfl ?_; refine Wo rfl (opv_add rfl rfl (by omega)) ?_
        refine Wo rfl (opv_move (v := .int _ _) rfl) ?_; refine Wo_nil ?_; rotate_left; (exfalso; omega)
      refine ⟨((j + 1, max (q : Int) ((d : Int) + 1))), by repeat (first | exact trivial | refine And.intro rfl ?_), by repeat (first | with_reducible exact Same.refl | refine Same.upd rfl ?_ | refine Same.upds rfl ?_ | refine Same.mix rfl ?_), ?_, ?_⟩
      · exact ⟨E2.trans E3, by omega, by rw [← hnew]; omega⟩
      · simp only; omega
    · obtain rfl : j = (arr p k).length := by omega
      rw [List.take_length] at hq
      have hfin : dpt p (r + 1) k = q := hq.symm
      rw [hfin, ← hm]
      focus
        have szE2 := E2.size; have szE1 := E1.size; refine W_seq ?_; refine W_region rfl ?_; refine Wo rfl (opv_lss rfl rfl) ?_; refine Wo_nil ?_; refine W_seq ?_; refine W_cond_dec rfl (fun h1 => ?_) (fun h1 => ?_); (exfalso; omega)
        refine W_exit ?_; refine exitX_same ?_; refine W_seq ?_; refine W_region rfl ?_; refine Wo rfl (opv_move (v := .int _ _) rfl) ?_; refine Wo rfl (opv_assign (v := .int _ _) rfl) ?_; refine Wo_nil ?_; refine W_ret ?_
        exact ⟨rfl, (E1.trans E2)⟩

theorem spec_DeepAt_ok1 (p : List (List Int)) (hp : Pic p) : ∀ (r : Nat) (w : World) (v : Value) (k : Nat), ESl Ints w v p → k < p.length → cback p k = false → (rf p k).length ≤ r →
    Does Try.prog 22 [v, .int .i64 (k : Int)] w (Ret w (.int .i64 (dpt p r k : Int))) := by
  have hp5 := hp.2.1
  have hN : ∀ (k : Nat), k < p.length → ∀ (w : World) (pv : Value), ESl Ints w pv p → Does Try.prog 52 [pv, .int .i64 (k : Int)] w (Ret w (.bool true)) := fun k hk w pv h => by
    have := NodeOk_ok w pv p h (k : Int)
    rw [decide_eq_true (show Nod p (k : Int) from ⟨hp, by omega, by omega⟩)] at this; exact this
  intro r
  induction r with
  | zero =>
    intro w v k h hk hc hr
    have hm := (mem_rf hp hk).2 (.refl k)
    rw [List.length_eq_zero_iff.1 (Nat.le_zero.1 hr)] at hm; cases hm
  | succ r ih =>
    intro w v k h hk hc hr
    have hle := h.le
    have hla := ints_len (arr p k)
    have ha5 := arr_lt5 hp hk
    have k1 := hN k hk
    have k3 : ∀ (w : World) (pv : Value), ESl Ints w pv p → Does Try.prog 53 [pv, .int .i64 (k : Int)] w (Ret w (.bool false)) := fun w pv h => by
      have := ComesBack_ok w pv p h hp k hk
      rw [hc] at this; exact this
    have k4 : ∀ (w : World) (pv : Value), ESl Ints w pv p → Does Try.prog 54 [pv, .int .i64 (k : Int)] w (RetO w XI (ints (arr p k))) := fun w pv h => l6Arrows_ok w pv p h hp k hk
    refine fn_of_W1 Try.func22 rfl Try.results22 Try.ntmps22 rfl ?_
    focus
      refine W_seq ?_; refine W_region rfl ?_; refine Wo rfl (opv_assign (v := .int _ _) rfl) ?_; refine Wo_nil ?_; refine W_seq ?_; refine W_seq ?_; refine W_region rfl ?_; refine Wo rfl (opv_move (v := v) rfl) ?_
      refine Wo rfl (opv_move (v := .int _ _) rfl) ?_; refine Wo_call rfl (opc2 (a := v) (b := .int _ _) Try.call52 rfl rfl) (k1 _ _ (h)) ?_; rintro _ w1 ⟨rfl, E1⟩; have hs1 := E1.size; refine Wo rfl (opv_not rfl) ?_
      refine Wo_split rfl (opv_move (v := .bool _) rfl) (fun h1 => ?_) (fun h1 => ?_); contradiction; refine Wo rfl (opv_move (v := v) rfl) ?_; refine Wo rfl (opv_move (v := .int _ _) rfl) ?_
      refine Wo_call rfl (opc2 (a := v) (b := .int _ _) Try.call53 rfl rfl) (k3 _ _ ((Mono.mono E1 h))) ?_; rintro _ w2 ⟨rfl, E2⟩; have hs2 := E2.size; refine Wo rfl (opv_pick_f (v := .bool _) rfl rfl) ?_; refine Wo_nil ?_
      refine W_cond_false rfl ?_; refine W_skip ?_; refine W_seq ?_; refine W_region rfl ?_; refine Wo rfl (opv_assign (v := .int _ _) rfl) ?_; refine Wo_nil ?_; refine W_seq ?_; refine W_region rfl ?_
      refine Wo rfl (opv_move (v := v) rfl) ?_; refine Wo rfl (opv_move (v := .int _ _) rfl) ?_; refine Wo_call rfl (opc2 (a := v) (b := .int _ _) Try.call54 rfl rfl) (k4 _ _ ((Mono.mono (E1.trans E2) h))) ?_; rintro u1 w3 ⟨E3, hO1⟩
      have hs3 := E3.size; refine Wo rfl (opv_assign (v := u1) rfl) ?_; refine Wo_nil ?_; refine W_seq ?_; refine W_seq ?_; refine W_region rfl ?_; refine Wo rfl (opv_assign (v := .int _ _) rfl) ?_; refine Wo_nil ?_; refine W_block ?_
    refine W_loop [5, 7, 20, 21, 22, 23, 24, 25, 26, 27, 28, 29, 30, 31, 32, 33, 34] (fun (j, m) => [(7, .int .i64 (j : Nat)), (5, .int .i64 m)]) (fun (j, (m : Int)) w' => Ext w3 w' ∧ j ≤ (arr p k).length ∧ m = ((((arr p k).take j).foldl (fun n j => max n (dpt p r j + 1)) 0 : Nat) : Int)) (fun x => (arr p k).length - x.1) (0, 0) (by repeat (first | exact trivial | refine And.intro rfl ?_)) ?_ ?_
    · exact ⟨Ext.refl _, Nat.zero_le _, by simp⟩
    rintro ⟨j, m⟩ ρj w4 ⟨E4, hj, hm⟩
    have hmb := dpt_fold hp hk hc hr j
    obtain ⟨q, hq⟩ : ∃ q, q = ((arr p k).take j).foldl (fun n j => max n (dpt p r j + 1)) 0 := ⟨_, rfl⟩
    rw [← hq] at hm hmb
    by_cases hjl : j < (arr p k).length
    · have hmm := List.getElem_mem hjl
      have hga := ints_get hjl
      have hts := take_snoc _ _ hjl
      have hxl := ((mem_arr hp hk).1 hmm).1
      have hrl := rf_lt hp hk hc hmm
      have hcb := cback_arr hp hk hc hmm
      have hdl := dpt_lt hp (r := r) hxl (by omega) hcb
      have k2 : ∀ (w : World) (pv : Value), ESl Ints w pv p → Does Try.prog 22 [pv, .int .i64 ((ints (arr p k))[j]'(by omega))] w (Ret w (.int .i64 (dpt p r (arr p k)[j] : Int))) := by
        rw [hga]; exact fun w pv h => ih w pv _ h hxl hcb (by omega)
      have hnew : max q (dpt p r (arr p k)[j] + 1) = ((arr p k).take (j + 1)).foldl (fun n j => max n (dpt p r j + 1)) 0 := by
        rw [hts, List.foldl_append, ← hq]; rfl
      subst hm
      generalize dpt p r (arr p k)[j] = d at *
      focus
        have szE4 := E4.size; have szE3 := E3.size; have szE2 := E2.size; have szE1 := E1.size; refine W_seq ?_; refine W_seq ?_; refine W_region rfl ?_; refine Wo rfl (opv_move (v := .int _ _) rfl) ?_
        refine Wo rfl (opv_move (v := u1) rfl) ?_; refine Wo rfl (opv_len Try.underlying24 rfl (Owned.read hO1)) ?_; refine Wo rfl (opv_lss rfl rfl) ?_; refine Wo_nil ?_; refine W_cond_dec rfl (fun h2 => ?_) (fun h2 => ?_); refine W_skip ?_
        refine W_seq ?_; refine W_block ?_; refine W_region rfl ?_; refine Wo rfl (opv_move (v := .int _ _) rfl) ?_; refine Wo rfl (opv_move (v := v) rfl) ?_; refine Wo rfl (opv_move (v := u1) rfl) ?_
        refine Wo rfl (opv_move (v := .int _ _) rfl) ?_; refine Wo_get Try.underlying24 Try.sizeOf3 Try.isAgg3 rfl (fun _ => rfl) rfl (Owned.read hO1) E4 rfl (by first | omega | (simp <;> omega)) ?_; rintro _ _ rfl
        refine Wo_call rfl (opc2 (a := v) (b := .int _ _) Try.call22 rfl rfl) (k2 _ _ ((Mono.mono (((E1.trans E2).trans E3).trans E4) h))) ?_; rintro _ w5 ⟨rfl, E5⟩; have hs4 := E5.size; refine Wo rfl (opv_add rfl rfl (by omega)) ?_
        refine Wo rfl (opv_max rfl rfl) ?_; refine Wo rfl (opv_assign (v := .int _ _) rfl) ?_; refine Wo_nil ?_; refine W_region rfl ?_; refine Wo rfl (opv_move (v := .int _ _) rfl) ?_; refine Wo rfl (opv_add rfl rfl (by omega)) ?_
        refine Wo rfl (opv_assign (v := .int _ _) rfl) ?_; refine Wo_nil ?_; rotate_left; (exfalso; omega)
      refine ⟨((j + 1, max (q : Int) ((d : Int) + 1))), by repeat (first | exact trivial | refine And.intro rfl ?_), by repeat (first | with_reducible exact Same.refl | refine Same.upd rfl ?_ | refine Same.upds rfl ?_ | refine Same.mix rfl ?_), ?_, ?_⟩
      · exact ⟨E4.trans E5, by omega, by rw [← hnew]; omega⟩
      · simp only; omega
    · obtain rfl : j = (arr p k).length := by omega
      rw [List.take_length] at hq
      have hfin : dpt p (r + 1) k = q := hq.symm
      rw [hfin, ← hm]
      focus
        have szE4 := E4.size; have szE3 := E3.size; have szE2 := E2.size; have szE1 := E1.size; refine W_seq ?_; refine W_seq ?_; refine W_region rfl ?_; refine Wo rfl (opv_move (v := .int _ _) rfl) ?_
        refine Wo rfl (opv_move (v := u1) rfl) ?_; refine Wo rfl (opv_len Try.underlying24 rfl (Owned.read hO1)) ?_; refine Wo rfl (opv_lss rfl rfl) ?_; refine Wo_nil ?_; refine W_cond_dec rfl (fun h2 => ?_) (fun h2 => ?_); (exfalso; omega)
        refine W_exit ?_; refine exitX_same ?_; refine W_seq ?_; refine W_region rfl ?_; refine Wo rfl (opv_move (v := .int _ _) rfl) ?_; refine Wo rfl (opv_assign (v := .int _ _) rfl) ?_; refine Wo_nil ?_; refine W_ret ?_
        exact ⟨rfl, (((E1.trans E2).trans E3).trans E4)⟩
noncomputable def deepAtV (p : List (List Int)) (z : Int) : Int := if Nod p z ∧ cback p z.toNat = false then (dpt p p.length z.toNat : Int) else -1
theorem spec_DeepAt_ok (w : World) (v : Value) (p : List (List Int)) (h : ESl Ints w v p) (z : Int) : Does Try.prog 22 [v, .int .i64 z] w (Ret w (.int .i64 (deepAtV p z))) := by
  have hle := h.le
  have hnn : ∀ (x : Bool), decide (Nod p z) = x → ∀ (w : World) (pv : Value), ESl Ints w pv p → Does Try.prog 52 [pv, .int .i64 z] w (Ret w (.bool x)) := fun x e w pv h => by
    subst e; exact NodeOk_ok w pv p h z
  by_cases hz : Nod p z
  · have hp := hz.1
    have hz' := hz.2
    cases hc : cback p z.toNat with
    | false =>
      rw [show deepAtV p z = (dpt p p.length z.toNat : Int) from if_pos ⟨hz, hc⟩]
      have := spec_DeepAt_ok1 p hp p.length w v z.toNat h (by omega) hc rf_len
      rw [Int.toNat_of_nonneg hz'.1] at this; exact this
    | true =>
      rw [show deepAtV p z = -1 from if_neg (fun h => by rw [hc] at h; cases h.2)]
      have k1 := hnn true (decide_eq_true hz)
      have k2 : ∀ (w : World) (pv : Value), ESl Ints w pv p → Does Try.prog 53 [pv, .int .i64 z] w (Ret w (.bool true)) := fun w pv h => by
        have := ComesBack_ok w pv p h hp z.toNat (by omega)
        rw [hc, Int.toNat_of_nonneg hz'.1] at this; exact this
      clear hnn
      refine fn_of_W1 Try.func22 rfl Try.results22 Try.ntmps22 rfl ?_
      focus
        refine W_seq ?_; refine W_region rfl ?_; refine Wo rfl (opv_assign (v := .int _ _) rfl) ?_; refine Wo_nil ?_; refine W_seq ?_; refine W_seq ?_; refine W_region rfl ?_; refine Wo rfl (opv_move (v := v) rfl) ?_
        refine Wo rfl (opv_move (v := .int _ _) rfl) ?_; refine Wo_call rfl (opc2 (a := v) (b := .int _ _) Try.call52 rfl rfl) (k1 _ _ (h)) ?_; rintro _ w1 ⟨rfl, E1⟩; have hs1 := E1.size; refine Wo rfl (opv_not rfl) ?_
        refine Wo_split rfl (opv_move (v := .bool _) rfl) (fun h1 => ?_) (fun h1 => ?_); contradiction; refine Wo rfl (opv_move (v := v) rfl) ?_; refine Wo rfl (opv_move (v := .int _ _) rfl) ?_
        refine Wo_call rfl (opc2 (a := v) (b := .int _ _) Try.call53 rfl rfl) (k2 _ _ ((Mono.mono E1 h))) ?_; rintro _ w2 ⟨rfl, E2⟩; have hs2 := E2.size; refine Wo rfl (opv_pick_f (v := .bool _) rfl rfl) ?_; refine Wo_nil ?_
        refine W_cond_true rfl ?_; refine W_seq ?_; refine W_region rfl ?_; refine Wo rfl (opv_assign (v := .int _ _) rfl) ?_; refine Wo_nil ?_; refine W_ret ?_; exact ⟨rfl, (E1.trans E2)⟩
  · rw [show deepAtV p z = -1 from if_neg (fun h => hz h.1)]
    have k1 := hnn false (decide_eq_false hz)
    clear hnn
    refine fn_of_W1 Try.func22 rfl Try.results22 Try.ntmps22 rfl ?_
    focus
      refine W_seq ?_; refine W_region rfl ?_; refine Wo rfl (opv_assign (v := .int _ _) rfl) ?_; refine Wo_nil ?_; refine W_seq ?_; refine W_seq ?_; refine W_region rfl ?_; refine Wo rfl (opv_move (v := v) rfl) ?_
      refine Wo rfl (opv_move (v := .int _ _) rfl) ?_; refine Wo_call rfl (opc2 (a := v) (b := .int _ _) Try.call52 rfl rfl) (k1 _ _ (h)) ?_; rintro _ w1 ⟨rfl, E1⟩; have hs1 := E1.size; refine Wo rfl (opv_not rfl) ?_
      refine Wo_split rfl (opv_move (v := .bool _) rfl) (fun h1 => ?_) (fun h1 => ?_); refine Wo_skip rfl ?_; refine Wo_skip rfl ?_; refine Wo_skip rfl ?_; refine Wo rfl (opv_pick_t (v := .bool _) rfl rfl) ?_; refine Wo_nil ?_
      refine W_cond_true rfl ?_; refine W_seq ?_; refine W_region rfl ?_; refine Wo rfl (opv_assign (v := .int _ _) rfl) ?_; refine Wo_nil ?_; refine W_ret ?_; exact ⟨rfl, E1⟩; contradiction

theorem impl_DeepAt_ok (w : World) (v : Value) (p : List (List Int)) (h : ESl Ints w v p) (z : Int) : Does Try.prog 23 [v, .int .i64 z] w (Ret w (.int .i64 (deepAtV p z))) := by
  have hle := h.le
  have hnn : ∀ (x : Bool), decide (Nod p z) = x → ∀ (w : World) (pv : Value), ESl Ints w pv p → Does Try.prog 55 [pv, .int .i64 z] w (Ret w (.bool x)) := fun x e w pv h => by
    subst e; exact hasNode_ok w pv p h z
  by_cases hz : Nod p z
  · have hp := hz.1
    have hz' := hz.2
    have k1 := hnn true (decide_eq_true hz)
    have hcb : ∀ x, cback p z.toNat = x → ∀ (w : World) (pv : Value), ESl Ints w pv p → Does Try.prog 56 [pv, .int .i64 z] w (Ret w (.bool x)) := fun x e w pv h => by
      subst e
      have := comesBack_ok w pv p h hp z.toNat (by omega)
      rw [Int.toNat_of_nonneg hz'.1] at this; exact this
    clear hnn
    cases hc : cback p z.toNat with
    | false =>
      rw [show deepAtV p z = (dpt p p.length z.toNat : Int) from if_pos ⟨hz, hc⟩]
      have k2 := hcb _ hc
      have k3 : ∀ (w : World) (pv : Value), ESl Ints w pv p → Does Try.prog 57 [pv, .int .i64 z] w (Ret w (.int .i64 (dpt p p.length z.toNat : Int))) := fun w pv h => by
        have := deepAt_ok p hp p.length w pv z.toNat h (by omega) hc rf_len
        rw [Int.toNat_of_nonneg hz'.1] at this; exact this
      clear hcb
      refine fn_of_W1 Try.func23 rfl Try.results23 Try.ntmps23 rfl ?_
      focus
        refine W_seq ?_; refine W_region rfl ?_; refine Wo rfl (opv_assign (v := .int _ _) rfl) ?_; refine Wo_nil ?_; refine W_seq ?_; refine W_seq ?_; refine W_region rfl ?_; refine Wo rfl (opv_move (v := v) rfl) ?_
        refine Wo rfl (opv_move (v := .int _ _) rfl) ?_; refine Wo_call rfl (opc2 (a := v) (b := .int _ _) Try.call55 rfl rfl) (k1 _ _ (h)) ?_; rintro _ w1 ⟨rfl, E1⟩; have hs1 := E1.size; refine Wo rfl (opv_not rfl) ?_
        refine Wo_split rfl (opv_move (v := .bool _) rfl) (fun h1 => ?_) (fun h1 => ?_); contradiction; refine Wo rfl (opv_move (v := v) rfl) ?_; refine Wo rfl (opv_move (v := .int _ _) rfl) ?_
        refine Wo_call rfl (opc2 (a := v) (b := .int _ _) Try.call56 rfl rfl) (k2 _ _ ((Mono.mono E1 h))) ?_; rintro _ w2 ⟨rfl, E2⟩; have hs2 := E2.size; refine Wo rfl (opv_pick_f (v := .bool _) rfl rfl) ?_; refine Wo_nil ?_
        refine W_cond_false rfl ?_; refine W_skip ?_; refine W_seq ?_; refine W_region rfl ?_; refine Wo rfl (opv_move (v := v) rfl) ?_; refine Wo rfl (opv_move (v := .int _ _) rfl) ?_
        refine Wo_call rfl (opc2 (a := v) (b := .int _ _) Try.call57 rfl rfl) (k3 _ _ ((Mono.mono (E1.trans E2) h))) ?_; rintro _ w3 ⟨rfl, E3⟩; have hs3 := E3.size; refine Wo rfl (opv_assign (v := .int _ _) rfl) ?_; refine Wo_nil ?_
        refine W_ret ?_; exact ⟨rfl, ((E1.trans E2).trans E3)⟩
    | true =>
      rw [show deepAtV p z = -1 from if_neg (fun h => by rw [hc] at h; cases h.2)]
      have k2 := hcb _ hc
      clear hcb
      refine fn_of_W1 Try.func23 rfl Try.results23 Try.ntmps23 rfl ?_
      focus
        refine W_seq ?_; refine W_region rfl ?_; refine Wo rfl (opv_assign (v := .int _ _) rfl) ?_; refine Wo_nil ?_; refine W_seq ?_; refine W_seq ?_; refine W_region rfl ?_; refine Wo rfl (opv_move (v := v) rfl) ?_
        refine Wo rfl (opv_move (v := .int _ _) rfl) ?_; refine Wo_call rfl (opc2 (a := v) (b := .int _ _) Try.call55 rfl rfl) (k1 _ _ (h)) ?_; rintro _ w1 ⟨rfl, E1⟩; have hs1 := E1.size; refine Wo rfl (opv_not rfl) ?_
        refine Wo_split rfl (opv_move (v := .bool _) rfl) (fun h1 => ?_) (fun h1 => ?_); contradiction; refine Wo rfl (opv_move (v := v) rfl) ?_; refine Wo rfl (opv_move (v := .int _ _) rfl) ?_
        refine Wo_call rfl (opc2 (a := v) (b := .int _ _) Try.call56 rfl rfl) (k2 _ _ ((Mono.mono E1 h))) ?_; rintro _ w2 ⟨rfl, E2⟩; have hs2 := E2.size; refine Wo rfl (opv_pick_f (v := .bool _) rfl rfl) ?_; refine Wo_nil ?_
        refine W_cond_true rfl ?_; refine W_seq ?_; refine W_region rfl ?_; refine Wo rfl (opv_assign (v := .int _ _) rfl) ?_; refine Wo_nil ?_; refine W_ret ?_; exact ⟨rfl, (E1.trans E2)⟩
  · rw [show deepAtV p z = -1 from if_neg (fun h => hz h.1)]
    have k1 := hnn false (decide_eq_false hz)
    clear hnn
    refine fn_of_W1 Try.func23 rfl Try.results23 Try.ntmps23 rfl ?_
    focus
      refine W_seq ?_; refine W_region rfl ?_; refine Wo rfl (opv_assign (v := .int _ _) rfl) ?_; refine Wo_nil ?_; refine W_seq ?_; refine W_seq ?_; refine W_region rfl ?_; refine Wo rfl (opv_move (v := v) rfl) ?_
      refine Wo rfl (opv_move (v := .int _ _) rfl) ?_; refine Wo_call rfl (opc2 (a := v) (b := .int _ _) Try.call55 rfl rfl) (k1 _ _ (h)) ?_; rintro _ w1 ⟨rfl, E1⟩; have hs1 := E1.size; refine Wo rfl (opv_not rfl) ?_
      refine Wo_split rfl (opv_move (v := .bool _) rfl) (fun h1 => ?_) (fun h1 => ?_); refine Wo_skip rfl ?_; refine Wo_skip rfl ?_; refine Wo_skip rfl ?_; refine Wo rfl (opv_pick_t (v := .bool _) rfl rfl) ?_; refine Wo_nil ?_
      refine W_cond_true rfl ?_; refine W_seq ?_; refine W_region rfl ?_; refine Wo rfl (opv_assign (v := .int _ _) rfl) ?_; refine Wo_nil ?_; refine W_ret ?_; exact ⟨rfl, E1⟩; contradiction

theorem FnExactDeepAt_walk (w : World) (v : Value) (p : List (List Int)) (h : ESl Ints w v p) (z : Int) (hz : -9223372036854775808 ≤ z ∧ z ≤ 9223372036854775807) :
    Does Try.prog 4 [v, .int .i64 z] w (Ret w (.bool true)) := by
  refine fn_of_W1 Try.func4 rfl Try.results4 Try.ntmps4 rfl ?_
  focus
    refine W_seq ?_; refine W_region rfl ?_; refine Wo rfl (opv_assign (v := .bool _) rfl) ?_; refine Wo_nil ?_; refine W_seq ?_; refine W_region rfl ?_; refine Wo rfl (opv_assign (v := .int _ _) rfl) ?_; refine Wo_nil ?_
    refine W_seq ?_; refine W_region rfl ?_; refine Wo rfl (opv_move (v := v) rfl) ?_; refine Wo rfl (opv_move (v := .int _ _) rfl) ?_
    refine Wo_call rfl (opc2 (a := v) (b := .int _ _) Try.call13 rfl rfl) (szIntSS_ok _ _ _ (h) _ (by omega)) ?_; rintro _ w1 ⟨E1, y1, rfl, hy1⟩; have hs1 := E1.size; refine Wo rfl (opv_assign (v := .int _ _) rfl) ?_; refine Wo_nil ?_
    refine W_seq ?_; refine W_seq ?_; refine W_region rfl ?_; refine Wo rfl (opv_move (v := .int _ _) rfl) ?_; refine Wo rfl (opv_lss rfl rfl) ?_; refine Wo_nil ?_; refine W_cond_dec rfl (fun h1 => ?_) (fun h1 => ?_); refine W_seq ?_
    refine W_region rfl ?_; refine Wo rfl (opv_assign (v := .bool _) rfl) ?_; refine Wo_nil ?_; refine W_ret ?_; exact ⟨rfl, E1⟩; refine W_skip ?_; refine W_seq ?_; refine W_region rfl ?_; refine Wo rfl (opv_move (v := v) rfl) ?_
  rcases hy1 with h9 | ⟨h5, h6, h7, h7', h8⟩
  · omega
  focus
    have szE1 := E1.size; refine Wo_call rfl (opc1 (a := v) Try.call15 rfl) (toIntSS_ok _ _ _ ((Mono.mono E1 h)) (by assumption) (by assumption)) ?_; rintro u1 w2 ⟨E2, hO1⟩; have hs2 := E2.size
    refine Wo rfl (opv_move (v := .int _ _) rfl) ?_; refine Wo_call rfl (opc2 (a := u1) (b := .int _ _) Try.call22 rfl rfl) (spec_DeepAt_ok _ _ _ ((Owned.read hO1)) _) ?_; rintro _ w3 ⟨rfl, E3⟩; have hs3 := E3.size
    refine Wo rfl (opv_assign (v := .int _ _) rfl) ?_; refine Wo_nil ?_; refine W_seq ?_; refine W_region rfl ?_; refine Wo rfl (opv_move (v := v) rfl) ?_
    refine Wo_call rfl (opc1 (a := v) Try.call15 rfl) (toIntSS_ok _ _ _ ((Mono.mono ((E1.trans E2).trans E3) h)) (by assumption) (by assumption)) ?_; rintro u2 w4 ⟨E4, hO2⟩; have hs4 := E4.size
    refine Wo rfl (opv_assign (v := u2) rfl) ?_; refine Wo_nil ?_; refine W_seq ?_; refine W_region rfl ?_; refine Wo rfl (opv_move (v := u2) rfl) ?_; refine Wo rfl (opv_move (v := .int _ _) rfl) ?_
    refine Wo_call rfl (opc2 (a := u2) (b := .int _ _) Try.call23 rfl rfl) (impl_DeepAt_ok _ _ _ ((Owned.read hO2)) _) ?_; rintro _ w5 ⟨rfl, E5⟩; have hs5 := E5.size; refine Wo rfl (opv_assign (v := .int _ _) rfl) ?_; refine Wo_nil ?_
    refine W_seq ?_; refine W_seq ?_; refine W_region rfl ?_; refine Wo rfl (opv_move (v := .int _ _) rfl) ?_; refine Wo rfl (opv_move (v := .int _ _) rfl) ?_; refine Wo rfl (opv_neq rfl rfl) ?_; refine Wo_nil ?_
    refine W_cond_ndec rfl (fun h2 => ?_) (fun h2 => ?_); contradiction; refine W_skip ?_; refine W_seq ?_; refine W_seq ?_; refine W_region rfl ?_; refine Wo rfl (opv_move (v := u2) rfl) ?_; refine Wo rfl (opv_move (v := v) rfl) ?_
    refine Wo_call rfl (opc1 (a := v) Try.call15 rfl) (toIntSS_ok _ _ _ ((Mono.mono ((((E1.trans E2).trans E3).trans E4).trans E5) h)) (by assumption) (by assumption)) ?_; rintro u3 w6 ⟨E6, hO3⟩; have hs6 := E6.size
    refine Wo_call rfl (opc2 (a := u2) (b := u3) Try.call18 rfl rfl) (eqIntSS_ok _ _ _ _ _ ((Mono.mono (E5.trans E6) (Owned.read hO2))) ((Owned.read hO3))) ?_; rintro _ w7 ⟨rfl, E7⟩; have hs7 := E7.size; refine Wo rfl (opv_not rfl) ?_
    refine Wo_nil ?_; refine W_cond_ndec rfl (fun h3 => ?_) (fun h3 => ?_); contradiction; refine W_skip ?_; refine W_seq ?_; refine W_region rfl ?_; refine Wo rfl (opv_assign (v := .bool _) rfl) ?_; refine Wo_nil ?_; refine W_ret ?_
    exact ⟨rfl, ((((((E1.trans E2).trans E3).trans E4).trans E5).trans E6).trans E7)⟩

end Go.Proofs.Ythhaodjjfofogaa
