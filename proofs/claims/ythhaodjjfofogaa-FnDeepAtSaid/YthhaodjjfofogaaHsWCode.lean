/- Walks: codes at nodes, how deep codes are, and the law on DeepAt. -/
import Derived.Test.YthhaodjjfofogaaHsWDp
import Derived.Test.YthhaodjjfofogaaHsWFndQ
import Derived.Test.YthhaodjjfofogaaHsCode
namespace Go.Proofs.Ythhaodjjfofogaa
open Go.Hs
set_option maxRecDepth 10000
set_option maxHeartbeats 4000000
set_option linter.unusedVariables false
set_option linter.unusedSimpArgs false

theorem shr_zero {c k : Nat} (h : c >>> k = 0) (m : Nat) (hm : k ≤ m) : c.testBit m = false := by
  rw [Nat.shiftRight_eq_div_pow, Nat.div_eq_zero_iff] at h
  rcases h with h | h
  · have := Nat.two_pow_pos k; omega
  · exact Nat.testBit_lt_two_pow (Nat.lt_of_lt_of_le h (Nat.pow_le_pow_right (by omega) hm))
theorem shr_pos {c k : Nat} (hc : c < 65536) (h : ¬ c >>> k = 0) : k < 16 := by
  rcases Nat.lt_or_ge k 16 with h1 | h1
  · exact h1
  · exfalso; apply h
    rw [Nat.shiftRight_eq_div_pow]
    have : 2 ^ 16 ≤ 2 ^ k := Nat.pow_le_pow_right (by omega) h1
    exact Nat.div_eq_of_lt (by omega)
theorem bts_cut {c k : Nat} (hk : k ≤ 16) (h : c >>> k = 0) : (List.range k).filter c.testBit = bts c := by
  unfold bts
  have e : List.range 16 = List.range k ++ (List.range (16 - k)).map fun x => k + x := by rw [← List.range_add]; congr 1; omega
  rw [e, List.filter_append]
  have : ((List.range (16 - k)).map fun x => k + x).filter c.testBit = [] := by
    rw [List.filter_eq_nil_iff]
    intro x hx
    obtain ⟨y, _, rfl⟩ := List.mem_map.1 hx
    rw [shr_zero h _ (by omega)]; decide
  rw [this, List.append_nil]
theorem and_one' (x : Nat) (k : Nat) : (((x >>> k) &&& 1 : Nat) : Int) = 1 ↔ x.testBit k = true := and_one x k
theorem membersOf_ok (w : World) (c : Nat) (hc : c < 65536) : Does Try.prog 78 [.int .i64 (c : Int)] w (RetO w XI (ints (bts c))) := by
  refine fn_of_W1 Try.func78 rfl Try.results78 Try.ntmps78 rfl ?_
  focus
    refine W_seq ?_; refine W_region rfl ?_; refine Wo rfl (opv_assign (v := .slice _ _ _) rfl) ?_; refine Wo_nil ?_; refine W_seq ?_; refine W_region rfl ?_; refine Wo_lit0 XInt rfl el24 Try.sizeOf3 ?_; rintro b1 w1 hb1 b1lt E1 hO1
    have hs1 := E1.size; refine Wo rfl (opv_assign (v := .slice _ _ _) rfl) ?_; refine Wo_nil ?_; refine W_seq ?_; refine W_seq ?_; refine W_region rfl ?_; refine Wo rfl (opv_assign (v := .int _ _) rfl) ?_; refine Wo_nil ?_
    refine W_block ?_
  refine W_loop [3, 4, 6, 7, 8, 9, 10, 11, 12, 13, 14, 15, 16, 17, 18, 19, 20] (fun (k, u) => [(4, .int .i64 (k : Nat)), (3, u)]) (fun (k, u) w' => Ext w w' ∧ k ≤ 16 ∧ Owned w.heap.size XI w' u (ints ((List.range k).filter c.testBit))) (fun x => 16 - x.1) (0, .slice (some ⟨b1, 0, none⟩) 0 0) (by repeat (first | exact trivial | refine And.intro rfl ?_)) ?_ ?_
  · exact ⟨by assumption, Nat.zero_le _, by simpa [ints] using hO1⟩
  rintro ⟨k, u⟩ ρj w2 ⟨E2, hk, hO2⟩
  have hll : (ints ((List.range k).filter c.testBit)).length ≤ k := by
    rw [ints_len]; exact Nat.le_trans (List.length_filter_le _ _) (by simp)
  have hfs := filter_range_succ c.testBit k
  by_cases hz : c >>> k = 0
  · have hfin := bts_cut hk hz
    have hz' : (((c : Int).toNat >>> ((k : Nat) : Int).toNat : Nat) : Int) = 0 := by show ((c >>> k : Nat) : Int) = 0; rw [hz]; rfl
    rw [hfin] at hO2
    focus
      have szE2 := E2.size; have szE1 := E1.size; refine W_seq ?_; refine W_seq ?_; refine W_region rfl ?_; refine Wo rfl (opv_move (v := .int _ _) rfl) ?_; refine Wo rfl (opv_move (v := .int _ _) rfl) ?_
      refine Wo rfl (opv_shr rfl rfl (by omega)) ?_; refine Wo rfl (opv_gtr rfl rfl) ?_; refine Wo_nil ?_; refine W_cond_dec rfl (fun h1 => ?_) (fun h1 => ?_); (exfalso; omega); refine W_exit ?_; refine exitX_same ?_; refine W_seq ?_
      refine W_region rfl ?_; refine Wo rfl (opv_move (v := u) rfl) ?_; refine Wo rfl (opv_assign (v := u) rfl) ?_; refine Wo_nil ?_; refine W_ret ?_; exact ⟨E2, hO2.toB.o.mono (by omega)⟩
  · have hk16 := shr_pos hc hz
    have hpos : 0 < (((c : Int).toNat >>> ((k : Nat) : Int).toNat : Nat) : Int) := by show 0 < ((c >>> k : Nat) : Int); have := Nat.pos_of_ne_zero hz; exact Int.natCast_pos.2 this
    focus
      have szE2 := E2.size; have szE1 := E1.size; refine W_seq ?_; refine W_seq ?_; refine W_region rfl ?_; refine Wo rfl (opv_move (v := .int _ _) rfl) ?_; refine Wo rfl (opv_move (v := .int _ _) rfl) ?_
      refine Wo rfl (opv_shr rfl rfl (by omega)) ?_; refine Wo rfl (opv_gtr rfl rfl) ?_; refine Wo_nil ?_; refine W_cond_dec rfl (fun h1 => ?_) (fun h1 => ?_); refine W_skip ?_; refine W_seq ?_; refine W_block ?_; refine W_seq ?_
      refine W_region rfl ?_; refine Wo rfl (opv_move (v := .int _ _) rfl) ?_; refine Wo rfl (opv_move (v := .int _ _) rfl) ?_; refine Wo rfl (opv_shr rfl rfl (by omega)) ?_; refine Wo rfl (opv_and rfl rfl (by omega)) ?_
      refine Wo rfl (opv_eql rfl rfl) ?_; refine Wo_nil ?_; refine W_cond_dec rfl (fun h2 => ?_) (fun h2 => ?_); refine W_region rfl ?_; refine Wo rfl (opv_move (v := u) rfl) ?_; refine Wo rfl (opv_move (v := .int _ _) rfl) ?_
      refine Wo_buildSliceH (ps := [(0, .int _ _)]) (cs := [_]) rfl Try.underlying24 Try.sizeOf3 Try.zeroValue3 rfl rfl rfl rfl ?_; rintro b2 w3 hb2 E3 hB1 hHb2; have hlb2 := hB1.lt; have hs2 := E3.size
      refine Wo_app1 rfl el24 rfl rfl hB1 (hO2.toB.ext E3) Owned.int (Nat.le_refl _) (by first | omega | (simp <;> omega)) (by omega) (by omega) (E2.trans E3) (by omega) ?_; have hT1 := (hO2.toB.ext E3); rintro v1 w4 hO2 E4 M1
      have hB1 := hB1.moves M1 hT1 (by omega); have hs3 := E4.size; refine Wo rfl (opv_assign (v := v1) rfl) ?_; refine Wo_nil ?_; refine W_region rfl ?_; refine Wo rfl (opv_move (v := .int _ _) rfl) ?_
      refine Wo rfl (opv_add rfl rfl (by omega)) ?_; refine Wo rfl (opv_assign (v := .int _ _) rfl) ?_; refine Wo_nil ?_; rotate_left; refine W_skip ?_; refine W_region rfl ?_; refine Wo rfl (opv_move (v := .int _ _) rfl) ?_
      refine Wo rfl (opv_add rfl rfl (by omega)) ?_; refine Wo rfl (opv_assign (v := .int _ _) rfl) ?_; refine Wo_nil ?_; rotate_left; contradiction
    · have hb := (and_one' c k).1 (by assumption)
      refine ⟨((k + 1, v1)), by repeat (first | exact trivial | refine And.intro rfl ?_), by repeat (first | with_reducible exact Same.refl | refine Same.upd rfl ?_ | refine Same.upds rfl ?_ | refine Same.mix rfl ?_), ?_, ?_⟩
      · exact ⟨by assumption, by omega, by rw [hfs, if_pos hb, ints_append]; assumption⟩
      · simp only; omega
    · have hb : ¬ c.testBit k = true := fun h => absurd ((and_one' c k).2 h) (by assumption)
      refine ⟨((k + 1, u)), by repeat (first | exact trivial | refine And.intro rfl ?_), by repeat (first | with_reducible exact Same.refl | refine Same.upd rfl ?_ | refine Same.upds rfl ?_ | refine Same.mix rfl ?_), ?_, ?_⟩
      · exact ⟨E2, by omega, by rw [hfs, if_neg hb, List.append_nil]; exact hO2⟩
      · simp only; omega

theorem deepOf_ok : ∀ (r : Nat) (w : World) (c : Nat), c < r → c < 65536 → Does Try.prog 69 [.int .i64 (c : Int)] w (Ret w (.int .i64 (cdp r c : Int))) := by
  intro r
  induction r with
  | zero => intro w c h; omega
  | succ r ih =>
    intro w c hcr hc
    have hbl : (bts c).length ≤ 16 := Nat.le_trans (List.length_filter_le _ _) (by simp)
    have hla := ints_len (bts c)
    have k1 : ∀ w, Does Try.prog 78 [.int .i64 (c : Int)] w (RetO w XI (ints (bts c))) := fun w => membersOf_ok w c hc
    refine fn_of_W1 Try.func69 rfl Try.results69 Try.ntmps69 rfl ?_
    focus
      refine W_seq ?_; refine W_region rfl ?_; refine Wo rfl (opv_assign (v := .int _ _) rfl) ?_; refine Wo_nil ?_; refine W_seq ?_; refine W_region rfl ?_; refine Wo rfl (opv_assign (v := .int _ _) rfl) ?_; refine Wo_nil ?_
      refine W_seq ?_; refine W_seq ?_; refine W_region rfl ?_; refine Wo rfl (opv_move (v := .int _ _) rfl) ?_; refine Wo_call rfl (opc1 (a := .int _ _) Try.call78 rfl) (k1 _) ?_; rintro u1 w1 ⟨E1, hO1⟩; have hs1 := E1.size
      refine Wo rfl (opv_len Try.underlying24 rfl (Owned.read hO1)) ?_; refine Wo rfl (opv_move (v := .int _ _) rfl) ?_; refine Wo_nil ?_; refine W_block ?_
    refine W_loop [3, 5, 9, 10, 11, 12, 13, 14, 15, 16, 17, 18] (fun (j, m) => [(9, .int .i64 (j : Nat)), (3, .int .i64 m)]) (fun (j, (m : Int)) w' => Ext w1 w' ∧ j ≤ (bts c).length ∧ m = ((((bts c).take j).foldl (fun n j => max n (cdp r j + 1)) 0 : Nat) : Int)) (fun x => (bts c).length - x.1) (0, 0) (by repeat (first | exact trivial | refine And.intro rfl ?_)) ?_ ?_
    · exact ⟨Ext.refl _, Nat.zero_le _, by simp⟩
    rintro ⟨j, m⟩ ρj w2 ⟨E2, hj, hm⟩
    obtain ⟨q, hq⟩ : ∃ q, q = ((bts c).take j).foldl (fun n j => max n (cdp r j + 1)) 0 := ⟨_, rfl⟩
    have hqb : q < 65537 + 1 := by
      rw [hq, fold_lt]
      refine ⟨by omega, fun i hi => ?_⟩
      have := cdp_le r i
      have := (mem_bts.1 (List.mem_of_mem_take hi)).1
      omega
    rw [← hq] at hm
    by_cases hjl : j < (bts c).length
    · have hmm := List.getElem_mem hjl
      have hga := ints_get hjl
      have hts := take_snoc _ _ hjl
      obtain ⟨x, hx⟩ : ∃ x, x = (bts c)[j] := ⟨_, rfl⟩
      rw [← hx] at hmm hga hts
      obtain ⟨h16, hbit⟩ := mem_bts.1 hmm
      have hlt := bit_lt' hbit
      have hdl := cdp_le r x
      have k2 : ∀ (w : World), Does Try.prog 69 [.int .i64 ((ints (bts c))[j]'(by omega))] w (Ret w (.int .i64 (cdp r x : Int))) := by
        rw [hga]; exact fun w => ih w x (by omega) (by omega)
      have hnew : max q (cdp r x + 1) = ((bts c).take (j + 1)).foldl (fun n j => max n (cdp r j + 1)) 0 := by
        rw [hts, List.foldl_append, ← hq]; rfl
      subst hm
      generalize cdp r x = d at *
      focus
        have szE2 := E2.size; have szE1 := E1.size; refine W_seq ?_; refine W_region rfl ?_; refine Wo rfl (opv_lss rfl rfl) ?_; refine Wo_nil ?_; refine W_seq ?_; refine W_cond_dec rfl (fun h1 => ?_) (fun h1 => ?_); refine W_skip ?_
        refine W_seq ?_; refine W_block ?_; refine W_seq ?_; refine W_region rfl ?_; refine Wo_get Try.underlying24 Try.sizeOf3 Try.isAgg3 rfl (fun _ => rfl) rfl (Owned.read hO1) E2 rfl (by first | omega | (simp <;> omega)) ?_
        rintro _ _ rfl; refine Wo rfl (opv_assign (v := .int _ _) rfl) ?_; refine Wo_nil ?_; refine W_region rfl ?_; refine Wo rfl (opv_move (v := .int _ _) rfl) ?_; refine Wo rfl (opv_move (v := .int _ _) rfl) ?_
        refine Wo_call rfl (opc1 (a := .int _ _) Try.call69 rfl) (k2 _) ?_; rintro _ w3 ⟨rfl, E3⟩; have hs2 := E3.size; refine Wo rfl (opv_add rfl rfl (by omega)) ?_; refine Wo rfl (opv_max rfl rfl) ?_
        refine Wo rfl (opv_assign (v := .int _ _) rfl) ?_; refine Wo_nil ?_; refine W_region rfl ?_; refine Wo rfl (opv_add rfl rfl (by omega)) ?_; refine Wo rfl (opv_move (v := .int _ _) rfl) ?_; refine Wo_nil ?_; rotate_left
        (exfalso; omega)
      refine ⟨((j + 1, max (q : Int) ((d : Int) + 1))), by repeat (first | exact trivial | refine And.intro rfl ?_), by repeat (first | with_reducible exact Same.refl | refine Same.upd rfl ?_ | refine Same.upds rfl ?_ | refine Same.mix rfl ?_), ?_, ?_⟩
      · exact ⟨E2.trans E3, by omega, by rw [← hnew]; omega⟩
      · simp only; omega
    · obtain rfl : j = (bts c).length := by omega
      rw [List.take_length] at hq
      have hfin : cdp (r + 1) c = q := hq.symm
      rw [hfin, ← hm]
      focus
        have szE2 := E2.size; have szE1 := E1.size; refine W_seq ?_; refine W_region rfl ?_; refine Wo rfl (opv_lss rfl rfl) ?_; refine Wo_nil ?_; refine W_seq ?_; refine W_cond_dec rfl (fun h1 => ?_) (fun h1 => ?_); (exfalso; omega)
        refine W_exit ?_; refine exitX_same ?_; refine W_seq ?_; refine W_region rfl ?_; refine Wo rfl (opv_move (v := .int _ _) rfl) ?_; refine Wo rfl (opv_assign (v := .int _ _) rfl) ?_; refine Wo_nil ?_; refine W_ret ?_
        exact ⟨rfl, (E1.trans E2)⟩

theorem DeepOf_ok (w : World) (c : Nat) (hc : c < 65536) : Does Try.prog 44 [.int .i64 (c : Int)] w (Ret w (.int .i64 (cdp 65536 c : Int))) := by
  have k1 : ∀ w, Does Try.prog 69 [.int .i64 (c : Int)] w (Ret w (.int .i64 (cdp 65536 c : Int))) := fun w => deepOf_ok 65536 w c hc hc
  have k2 : ∀ w, Does Try.prog 68 [.int .i64 (c : Int)] w (Ret w (.bool true)) := fun w => by
    have := isCode_ok (c : Int) w
    rw [decide_eq_true (show 0 ≤ (c : Int) ∧ (c : Int) ≤ 65535 by omega)] at this; exact this
  refine fn_of_W1 Try.func44 rfl Try.results44 Try.ntmps44 rfl ?_
  focus
    refine W_seq ?_; refine W_region rfl ?_; refine Wo rfl (opv_assign (v := .int _ _) rfl) ?_; refine Wo_nil ?_; refine W_seq ?_; refine W_seq ?_; refine W_region rfl ?_; refine Wo rfl (opv_move (v := .int _ _) rfl) ?_
    refine Wo_call rfl (opc1 (a := .int _ _) Try.call68 rfl) (k2 _) ?_; rintro _ w1 ⟨rfl, E1⟩; have hs1 := E1.size; refine Wo rfl (opv_not rfl) ?_; refine Wo_nil ?_; refine W_cond rfl (fun h1 => ?_) (fun h1 => ?_); contradiction
    refine W_skip ?_; refine W_seq ?_; refine W_region rfl ?_; refine Wo rfl (opv_move (v := .int _ _) rfl) ?_; refine Wo_call rfl (opc1 (a := .int _ _) Try.call69 rfl) (k1 _) ?_; rintro _ w2 ⟨rfl, E2⟩; have hs2 := E2.size
    refine Wo rfl (opv_assign (v := .int _ _) rfl) ?_; refine Wo_nil ?_; refine W_ret ?_; exact ⟨rfl, (E1.trans E2)⟩

def codP (o : Option Nat) : Nat × Bool := match o with
  | some c => (c, true)
  | none => (0, false)
theorem codeAt_ok (p : List (List Int)) (hp : Pic p) : ∀ (r : Nat) (w : World) (v : Value) (k : Nat), ESl Ints w v p → k < p.length → cback p k = false → (rf p k).length ≤ r →
    Does Try.prog 67 [v, .int .i64 (k : Int)] w (Ret w (.tuple #[.int .i64 ((codP (cod p r k)).1 : Int), .bool (codP (cod p r k)).2])) := by
  have hp5 := hp.2.1
  have harr : ∀ (w : World) (pv : Value) (z : Nat), ESl Ints w pv p → z < p.length → Does Try.prog 50 [pv, .int .i64 (z : Int)] w (RetO w XI (ints (arr p z))) := fun w pv z h hz =>
    arrowsOf_ok w pv p h (z : Int) (by omega) (by rw [getD_lt (by omega), hp.row (by omega)]; omega)
  intro r
  induction r with
  | zero =>
    intro w v k h hk hc hr
    have hm := (mem_rf hp hk).2 (.refl k)
    rw [List.length_eq_zero_iff.1 (Nat.le_zero.1 hr)] at hm; cases hm
  | succ r ih =>
    intro w v k h hk hc hr
    have hle := h.le
    have hla := ints_len (arr p k)
    have ha5 := arr_lt5 hp hk
    refine fn_of_W2 Try.func67 rfl Try.results67 Try.ntmps67 rfl ?_
    focus
      refine W_seq ?_; refine W_region rfl ?_; refine Wo rfl (opv_assign (v := .int _ _) rfl) ?_; refine Wo rfl (opv_assign (v := .bool _) rfl) ?_; refine Wo_nil ?_; refine W_seq ?_; refine W_region rfl ?_
      refine Wo rfl (opv_assign (v := .int _ _) rfl) ?_; refine Wo_nil ?_; refine W_seq ?_; refine W_seq ?_; refine W_region rfl ?_; refine Wo rfl (opv_move (v := v) rfl) ?_; refine Wo rfl (opv_move (v := .int _ _) rfl) ?_
      refine Wo_call rfl (opc2 (a := v) (b := .int _ _) Try.call50 rfl rfl) (harr _ _ _ (h) (by assumption)) ?_; rintro u1 w1 ⟨E1, hO1⟩; have hs1 := E1.size; refine Wo rfl (opv_len Try.underlying24 rfl (Owned.read hO1)) ?_
      refine Wo rfl (opv_move (v := .int _ _) rfl) ?_; refine Wo_nil ?_; refine W_block ?_
    refine W_loop [4, 5, 6, 8, 9, 10, 15, 16, 17, 18, 19, 20, 21, 22, 23, 24, 25, 26, 27, 28, 29, 30, 31, 32, 33, 34, 35] (fun (j, s) => [(15, .int .i64 (j : Nat)), (6, .int .i64 (s : Nat))]) (fun (j, (s : Nat)) w' => Ext w1 w' ∧ j ≤ (arr p k).length ∧ s < 65536 ∧ ((arr p k).take j).foldl (fun o j => codS o (cod p r j)) (some 0) = some s) (fun x => (arr p k).length - x.1) (0, 0) (by repeat (first | exact trivial | refine And.intro rfl ?_)) ?_ ?_
    · exact ⟨Ext.refl _, Nat.zero_le _, by omega, by simp⟩
    rintro ⟨j, s⟩ ρj w2 ⟨E2, hj, hs, hf⟩
    by_cases hjl : j < (arr p k).length
    · have hmm := List.getElem_mem hjl
      have hga := ints_get hjl
      have hts := take_snoc _ _ hjl
      obtain ⟨x, hx⟩ : ∃ x, x = (arr p k)[j] := ⟨_, rfl⟩
      rw [← hx] at hmm hga hts
      have hxl := ((mem_arr hp hk).1 hmm).1
      have hrl := rf_lt hp hk hc hmm
      have hcb := cback_arr hp hk hc hmm
      have k2 : ∀ y, cod p r x = y → ∀ (w : World) (pv : Value), ESl Ints w pv p → Does Try.prog 67 [pv, .int .i64 ((ints (arr p k))[j]'(by omega))] w (Ret w (.tuple #[.int .i64 ((codP y).1 : Int), .bool (codP y).2])) := fun y e => by
        subst e
        rw [hga]; exact fun w pv h => ih w pv x h hxl hcb (by omega)
      have hstep : ((arr p k).take (j + 1)).foldl (fun o j => codS o (cod p r j)) (some 0) = codS (some s) (cod p r x) := by rw [hts, List.foldl_append, hf]; rfl
      have hdead : codS (some s) (cod p r x) = none → cod p (r + 1) k = none := fun e => by
        show (arr p k).foldl (fun o j => codS o (cod p r j)) (some 0) = none
        rw [← List.take_append_drop (j + 1) (arr p k), List.foldl_append, hstep, e, cod_none]
      cases hy : cod p r x with
      | none =>
        have k3 : ∀ (w : World) (pv : Value), ESl Ints w pv p → Does Try.prog 67 [pv, .int .i64 ((ints (arr p k))[j]'(by omega))] w (Ret w (.tuple #[.int .i64 0, .bool false])) := k2 none hy
        have hn := hdead (by rw [hy]; rfl)
        simp only [hn, codP]
        clear k2
        focus
          have szE2 := E2.size; have szE1 := E1.size; refine W_seq ?_; refine W_region rfl ?_; refine Wo rfl (opv_lss rfl rfl) ?_; refine Wo_nil ?_; refine W_seq ?_; refine W_cond_dec rfl (fun h1 => ?_) (fun h1 => ?_); refine W_skip ?_
          refine W_seq ?_; refine W_block ?_; refine W_seq ?_; refine W_region rfl ?_; refine Wo_get Try.underlying24 Try.sizeOf3 Try.isAgg3 rfl (fun _ => rfl) rfl (Owned.read hO1) E2 rfl (by first | omega | (simp <;> omega)) ?_
          rintro _ _ rfl; refine Wo rfl (opv_assign (v := .int _ _) rfl) ?_; refine Wo_nil ?_; refine W_seq ?_; refine W_region rfl ?_; refine Wo rfl (opv_move (v := v) rfl) ?_; refine Wo rfl (opv_move (v := .int _ _) rfl) ?_
          refine Wo_call rfl (opc2 (a := v) (b := .int _ _) Try.call67 rfl rfl) (k3 _ _ ((Mono.mono (E1.trans E2) h))) ?_; rintro _ w3 ⟨rfl, E3⟩; have hs2 := E3.size; refine Wo rfl (opv_move (v := .tuple _) rfl) ?_
          refine Wo rfl (opv_extract (v := .int _ _) rfl rfl) ?_; refine Wo rfl (opv_extract (v := .bool _) rfl rfl) ?_; refine Wo rfl (opv_assign (v := .int _ _) rfl) ?_; refine Wo rfl (opv_assign (v := .bool _) rfl) ?_; refine Wo_nil ?_
          refine W_seq ?_; refine W_seq ?_; refine W_region rfl ?_; refine Wo rfl (opv_move (v := .bool _) rfl) ?_; refine Wo rfl (opv_not rfl) ?_; refine Wo_split rfl (opv_move (v := .bool _) rfl) (fun h2 => ?_) (fun h2 => ?_)
          refine Wo_skip rfl ?_; refine Wo_skip rfl ?_; refine Wo rfl (opv_pick_t (v := .bool _) rfl rfl) ?_; refine Wo_nil ?_; refine W_cond_true rfl ?_; refine W_seq ?_; refine W_region rfl ?_
          refine Wo rfl (opv_assign (v := .int _ _) rfl) ?_; refine Wo rfl (opv_assign (v := .bool _) rfl) ?_; refine Wo_nil ?_; refine W_ret ?_; exact ⟨rfl, ((E1.trans E2).trans E3)⟩; contradiction; (exfalso; omega)
      | some m =>
        have k3 : ∀ (w : World) (pv : Value), ESl Ints w pv p → Does Try.prog 67 [pv, .int .i64 ((ints (arr p k))[j]'(by omega))] w (Ret w (.tuple #[.int .i64 (m : Int), .bool true])) := k2 (some m) hy
        have hm6 := cod_lt hy
        clear k2
        by_cases hm15 : m ≤ 15
        · rw [hy, show codS (some s) (some m) = some (s ||| 1 <<< m) from if_pos hm15] at hstep
          have hsh : (1 : Int).toNat <<< ((m : Nat) : Int).toNat ≤ 32768 := by
            show 1 <<< m ≤ 32768
            rw [Nat.one_shiftLeft]; exact Nat.pow_le_pow_right (show 2 > 0 by omega) hm15
          have hns : s ||| 1 <<< m < 65536 := Nat.or_lt_two_pow (n := 16) hs (by have : 1 <<< m ≤ 32768 := hsh; omega)
          focus
            have szE2 := E2.size; have szE1 := E1.size; refine W_seq ?_; refine W_region rfl ?_; refine Wo rfl (opv_lss rfl rfl) ?_; refine Wo_nil ?_; refine W_seq ?_; refine W_cond_dec rfl (fun h1 => ?_) (fun h1 => ?_); refine W_skip ?_
            refine W_seq ?_; refine W_block ?_; refine W_seq ?_; refine W_region rfl ?_; refine Wo_get Try.underlying24 Try.sizeOf3 Try.isAgg3 rfl (fun _ => rfl) rfl (Owned.read hO1) E2 rfl (by first | omega | (simp <;> omega)) ?_
            rintro _ _ rfl; refine Wo rfl (opv_assign (v := .int _ _) rfl) ?_; refine Wo_nil ?_; refine W_seq ?_; refine W_region rfl ?_; refine Wo rfl (opv_move (v := v) rfl) ?_; refine Wo rfl (opv_move (v := .int _ _) rfl) ?_
            refine Wo_call rfl (opc2 (a := v) (b := .int _ _) Try.call67 rfl rfl) (k3 _ _ ((Mono.mono (E1.trans E2) h))) ?_; rintro _ w3 ⟨rfl, E3⟩; have hs2 := E3.size; refine Wo rfl (opv_move (v := .tuple _) rfl) ?_
            refine Wo rfl (opv_extract (v := .int _ _) rfl rfl) ?_; refine Wo rfl (opv_extract (v := .bool _) rfl rfl) ?_; refine Wo rfl (opv_assign (v := .int _ _) rfl) ?_; refine Wo rfl (opv_assign (v := .bool _) rfl) ?_; refine Wo_nil ?_
            refine W_seq ?_; refine W_seq ?_; refine W_region rfl ?_; refine Wo rfl (opv_move (v := .bool _) rfl) ?_; refine Wo rfl (opv_not rfl) ?_; refine Wo_split rfl (opv_move (v := .bool _) rfl) (fun h2 => ?_) (fun h2 => ?_); contradiction
            refine Wo rfl (opv_move (v := .int _ _) rfl) ?_; refine Wo rfl (opv_gtr rfl rfl) ?_; refine Wo rfl (opv_pick_f (v := .bool _) rfl rfl) ?_; refine Wo_nil ?_; refine W_cond_dec rfl (fun h3 => ?_) (fun h3 => ?_); (exfalso; omega)
            refine W_skip ?_; refine W_region rfl ?_; refine Wo rfl (opv_move (v := .int _ _) rfl) ?_; refine Wo rfl (opv_move (v := .int _ _) rfl) ?_; refine Wo rfl (opv_shl rfl rfl (by omega)) ?_; rotate_left; (exfalso; omega)
          refine Wo rfl (opv_or rfl rfl ⟨Int.natCast_nonneg _, by omega, Int.natCast_nonneg _, Int.le_trans (Int.ofNat_le.2 (show _ ≤ 32768 by assumption)) (by decide)⟩) ?_
          focus
            have szE3 := E3.size; have szE2 := E2.size; have szE1 := E1.size; refine Wo rfl (opv_assign (v := .int _ _) rfl) ?_; refine Wo_nil ?_; refine W_region rfl ?_; refine Wo rfl (opv_add rfl rfl (by omega)) ?_
            refine Wo rfl (opv_move (v := .int _ _) rfl) ?_; refine Wo_nil ?_
          refine ⟨((j + 1, s ||| 1 <<< m)), by repeat (first | exact trivial | refine And.intro rfl ?_), by repeat (first | with_reducible exact Same.refl | refine Same.upd rfl ?_ | refine Same.upds rfl ?_ | refine Same.mix rfl ?_), ?_, ?_⟩
          · exact ⟨E2.trans E3, by omega, hns, hstep⟩
          · simp only; omega
        · have hn := hdead (by rw [hy]; exact if_neg hm15)
          simp only [hn, codP]
          focus
            have szE2 := E2.size; have szE1 := E1.size; refine W_seq ?_; refine W_region rfl ?_; refine Wo rfl (opv_lss rfl rfl) ?_; refine Wo_nil ?_; refine W_seq ?_; refine W_cond_dec rfl (fun h1 => ?_) (fun h1 => ?_); refine W_skip ?_
            refine W_seq ?_; refine W_block ?_; refine W_seq ?_; refine W_region rfl ?_; refine Wo_get Try.underlying24 Try.sizeOf3 Try.isAgg3 rfl (fun _ => rfl) rfl (Owned.read hO1) E2 rfl (by first | omega | (simp <;> omega)) ?_
            rintro _ _ rfl; refine Wo rfl (opv_assign (v := .int _ _) rfl) ?_; refine Wo_nil ?_; refine W_seq ?_; refine W_region rfl ?_; refine Wo rfl (opv_move (v := v) rfl) ?_; refine Wo rfl (opv_move (v := .int _ _) rfl) ?_
            refine Wo_call rfl (opc2 (a := v) (b := .int _ _) Try.call67 rfl rfl) (k3 _ _ ((Mono.mono (E1.trans E2) h))) ?_; rintro _ w3 ⟨rfl, E3⟩; have hs2 := E3.size; refine Wo rfl (opv_move (v := .tuple _) rfl) ?_
            refine Wo rfl (opv_extract (v := .int _ _) rfl rfl) ?_; refine Wo rfl (opv_extract (v := .bool _) rfl rfl) ?_; refine Wo rfl (opv_assign (v := .int _ _) rfl) ?_; refine Wo rfl (opv_assign (v := .bool _) rfl) ?_; refine Wo_nil ?_
            refine W_seq ?_; refine W_seq ?_; refine W_region rfl ?_; refine Wo rfl (opv_move (v := .bool _) rfl) ?_; refine Wo rfl (opv_not rfl) ?_; refine Wo_split rfl (opv_move (v := .bool _) rfl) (fun h2 => ?_) (fun h2 => ?_); contradiction
            refine Wo rfl (opv_move (v := .int _ _) rfl) ?_; refine Wo rfl (opv_gtr rfl rfl) ?_; refine Wo rfl (opv_pick_f (v := .bool _) rfl rfl) ?_; refine Wo_nil ?_; refine W_cond_dec rfl (fun h3 => ?_) (fun h3 => ?_); refine W_seq ?_
            refine W_region rfl ?_; refine Wo rfl (opv_assign (v := .int _ _) rfl) ?_; refine Wo rfl (opv_assign (v := .bool _) rfl) ?_; refine Wo_nil ?_; refine W_ret ?_; exact ⟨rfl, ((E1.trans E2).trans E3)⟩; (exfalso; omega)
            (exfalso; omega)
    · obtain rfl : j = (arr p k).length := by omega
      rw [List.take_length] at hf
      have hfin : cod p (r + 1) k = some s := hf
      simp only [hfin, codP]
      focus
        have szE2 := E2.size; have szE1 := E1.size; refine W_seq ?_; refine W_region rfl ?_; refine Wo rfl (opv_lss rfl rfl) ?_; refine Wo_nil ?_; refine W_seq ?_; refine W_cond_dec rfl (fun h1 => ?_) (fun h1 => ?_); (exfalso; omega)
        refine W_exit ?_; refine exitX_same ?_; refine W_seq ?_; refine W_region rfl ?_; refine Wo rfl (opv_move (v := .int _ _) rfl) ?_; refine Wo rfl (opv_assign (v := .int _ _) rfl) ?_; refine Wo rfl (opv_assign (v := .bool _) rfl) ?_
        refine Wo_nil ?_; refine W_ret ?_; exact ⟨rfl, (E1.trans E2)⟩

noncomputable def codeV (p : List (List Int)) (z : Int) : Int × Bool := if Nod p z ∧ cback p z.toNat = false then (match cod p p.length z.toNat with | some c => ((c : Int), true) | none => (-1, false)) else (-1, false)
theorem CodeAt_ok (w : World) (v : Value) (p : List (List Int)) (h : ESl Ints w v p) (z : Int) (hz : Nod p z) (hc : cback p z.toNat = false) : Does Try.prog 43 [v, .int .i64 z] w (Ret w (.tuple #[.int .i64 (codeV p z).1, .bool (codeV p z).2])) := by
  have hle := h.le
  have hp := hz.1
  have hz' := hz.2
  have k1 : ∀ (w : World) (pv : Value), ESl Ints w pv p → Does Try.prog 55 [pv, .int .i64 z] w (Ret w (.bool true)) := fun w pv h => by
    have := hasNode_ok w pv p h z
    rw [decide_eq_true hz] at this; exact this
  have k2 : ∀ (w : World) (pv : Value), ESl Ints w pv p → Does Try.prog 56 [pv, .int .i64 z] w (Ret w (.bool false)) := fun w pv h => by
    have := comesBack_ok w pv p h hp z.toNat (by omega)
    rw [hc, Int.toNat_of_nonneg hz'.1] at this; exact this
  have k3 : ∀ y, cod p p.length z.toNat = y → ∀ (w : World) (pv : Value), ESl Ints w pv p → Does Try.prog 67 [pv, .int .i64 z] w (Ret w (.tuple #[.int .i64 ((codP y).1 : Int), .bool (codP y).2])) := fun y e w pv h => by
    subst e
    have := codeAt_ok p hp p.length w pv z.toNat h (by omega) hc rf_len
    rw [Int.toNat_of_nonneg hz'.1] at this; exact this
  have hV : codeV p z = match cod p p.length z.toNat with | some c => ((c : Int), true) | none => (-1, false) := if_pos ⟨hz, hc⟩
  rw [hV]
  cases hy : cod p p.length z.toNat with
  | none =>
    have k4 : ∀ (w : World) (pv : Value), ESl Ints w pv p → Does Try.prog 67 [pv, .int .i64 z] w (Ret w (.tuple #[.int .i64 0, .bool false])) := k3 none hy
    clear k3
    refine fn_of_W2 Try.func43 rfl Try.results43 Try.ntmps43 rfl ?_
    focus
      refine W_seq ?_; refine W_region rfl ?_; refine Wo rfl (opv_assign (v := .int _ _) rfl) ?_; refine Wo rfl (opv_assign (v := .bool _) rfl) ?_; refine Wo_nil ?_; refine W_seq ?_; refine W_seq ?_; refine W_region rfl ?_
      refine Wo rfl (opv_move (v := v) rfl) ?_; refine Wo rfl (opv_move (v := .int _ _) rfl) ?_; refine Wo_call rfl (opc2 (a := v) (b := .int _ _) Try.call55 rfl rfl) (k1 _ _ (h)) ?_; rintro _ w1 ⟨rfl, E1⟩; have hs1 := E1.size
      refine Wo rfl (opv_not rfl) ?_; refine Wo_split rfl (opv_move (v := .bool _) rfl) (fun h1 => ?_) (fun h1 => ?_); contradiction; refine Wo rfl (opv_move (v := v) rfl) ?_; refine Wo rfl (opv_move (v := .int _ _) rfl) ?_
      refine Wo_call rfl (opc2 (a := v) (b := .int _ _) Try.call56 rfl rfl) (k2 _ _ ((Mono.mono E1 h))) ?_; rintro _ w2 ⟨rfl, E2⟩; have hs2 := E2.size; refine Wo rfl (opv_pick_f (v := .bool _) rfl rfl) ?_; refine Wo_nil ?_
      refine W_cond_false rfl ?_; refine W_skip ?_; refine W_seq ?_; refine W_region rfl ?_; refine Wo rfl (opv_move (v := v) rfl) ?_; refine Wo rfl (opv_move (v := .int _ _) rfl) ?_
      refine Wo_call rfl (opc2 (a := v) (b := .int _ _) Try.call67 rfl rfl) (k4 _ _ ((Mono.mono (E1.trans E2) h))) ?_; rintro _ w3 ⟨rfl, E3⟩; have hs3 := E3.size; refine Wo rfl (opv_move (v := .tuple _) rfl) ?_
      refine Wo rfl (opv_extract (v := .int _ _) rfl rfl) ?_; refine Wo rfl (opv_extract (v := .bool _) rfl rfl) ?_; refine Wo rfl (opv_assign (v := .int _ _) rfl) ?_; refine Wo rfl (opv_assign (v := .bool _) rfl) ?_; refine Wo_nil ?_
      refine W_seq ?_; refine W_seq ?_; refine W_region rfl ?_; refine Wo rfl (opv_move (v := .bool _) rfl) ?_; refine Wo rfl (opv_not rfl) ?_; refine Wo_nil ?_; refine W_cond rfl (fun h2 => ?_) (fun h2 => ?_); refine W_seq ?_
      refine W_region rfl ?_; refine Wo rfl (opv_assign (v := .int _ _) rfl) ?_; refine Wo rfl (opv_assign (v := .bool _) rfl) ?_; refine Wo_nil ?_; refine W_ret ?_; exact ⟨rfl, ((E1.trans E2).trans E3)⟩; contradiction
  | some c =>
    have k4 : ∀ (w : World) (pv : Value), ESl Ints w pv p → Does Try.prog 67 [pv, .int .i64 z] w (Ret w (.tuple #[.int .i64 (c : Int), .bool true])) := k3 (some c) hy
    clear k3
    refine fn_of_W2 Try.func43 rfl Try.results43 Try.ntmps43 rfl ?_
    focus
      refine W_seq ?_; refine W_region rfl ?_; refine Wo rfl (opv_assign (v := .int _ _) rfl) ?_; refine Wo rfl (opv_assign (v := .bool _) rfl) ?_; refine Wo_nil ?_; refine W_seq ?_; refine W_seq ?_; refine W_region rfl ?_
      refine Wo rfl (opv_move (v := v) rfl) ?_; refine Wo rfl (opv_move (v := .int _ _) rfl) ?_; refine Wo_call rfl (opc2 (a := v) (b := .int _ _) Try.call55 rfl rfl) (k1 _ _ (h)) ?_; rintro _ w1 ⟨rfl, E1⟩; have hs1 := E1.size
      refine Wo rfl (opv_not rfl) ?_; refine Wo_split rfl (opv_move (v := .bool _) rfl) (fun h1 => ?_) (fun h1 => ?_); contradiction; refine Wo rfl (opv_move (v := v) rfl) ?_; refine Wo rfl (opv_move (v := .int _ _) rfl) ?_
      refine Wo_call rfl (opc2 (a := v) (b := .int _ _) Try.call56 rfl rfl) (k2 _ _ ((Mono.mono E1 h))) ?_; rintro _ w2 ⟨rfl, E2⟩; have hs2 := E2.size; refine Wo rfl (opv_pick_f (v := .bool _) rfl rfl) ?_; refine Wo_nil ?_
      refine W_cond_false rfl ?_; refine W_skip ?_; refine W_seq ?_; refine W_region rfl ?_; refine Wo rfl (opv_move (v := v) rfl) ?_; refine Wo rfl (opv_move (v := .int _ _) rfl) ?_
      refine Wo_call rfl (opc2 (a := v) (b := .int _ _) Try.call67 rfl rfl) (k4 _ _ ((Mono.mono (E1.trans E2) h))) ?_; rintro _ w3 ⟨rfl, E3⟩; have hs3 := E3.size; refine Wo rfl (opv_move (v := .tuple _) rfl) ?_
      refine Wo rfl (opv_extract (v := .int _ _) rfl rfl) ?_; refine Wo rfl (opv_extract (v := .bool _) rfl rfl) ?_; refine Wo rfl (opv_assign (v := .int _ _) rfl) ?_; refine Wo rfl (opv_assign (v := .bool _) rfl) ?_; refine Wo_nil ?_
      refine W_seq ?_; refine W_seq ?_; refine W_region rfl ?_; refine Wo rfl (opv_move (v := .bool _) rfl) ?_; refine Wo rfl (opv_not rfl) ?_; refine Wo_nil ?_; refine W_cond rfl (fun h2 => ?_) (fun h2 => ?_); contradiction
      refine W_skip ?_; refine W_seq ?_; refine W_region rfl ?_; refine Wo rfl (opv_move (v := .int _ _) rfl) ?_; refine Wo rfl (opv_assign (v := .int _ _) rfl) ?_; refine Wo rfl (opv_assign (v := .bool _) rfl) ?_; refine Wo_nil ?_
      refine W_ret ?_; exact ⟨rfl, ((E1.trans E2).trans E3)⟩

theorem DrawDeepAt_ok (w : World) (v : Value) (xs : List UInt8) (h : Bytes w v xs) (hc : CapOk v) :
    Does Try.prog 42 [v] w (RetTN w XR (fun p z => p.length ≤ 5 ∧ (∀ r ∈ p, r.length ≤ 6) ∧ -1000 ≤ z ∧ z ≤ 1000)) := by
  refine fn_of_W2 Try.func42 rfl Try.results42 Try.ntmps42 rfl ?_
  have hle := h.le
  focus
    refine W_seq ?_; refine W_region rfl ?_; refine Wo rfl (opv_assign (v := .slice _ _ _) rfl) ?_; refine Wo rfl (opv_assign (v := .int _ _) rfl) ?_; refine Wo_nil ?_; refine W_seq ?_; refine W_region rfl ?_
    refine Wo rfl (opv_move (v := v) rfl) ?_; refine Wo_call rfl (opc1 (a := v) Try.call59 rfl) (open_ok _ _ _ (h) (by assumption)) ?_; rintro _ w1 ⟨E1, y1, rfl, hy1⟩; have hs1 := E1.size
    refine Wo_call rfl (opc2 (a := .pointer _) (b := .int _ _) Try.call66 rfl rfl) (Node_ok _ _ (by assumption) (by omega) (by omega)) ?_; rintro _ w2 ⟨u1, z1, x1, rfl, E2, hr1, hO1, hy2⟩; (try dsimp only at hy2); have hlhr1 := hr1.lt
    have Ehr1 := hr1.old; have hs2 := E2.size; refine Wo rfl (opv_extract (v := u1) rfl rfl) ?_; refine Wo rfl (opv_extract (v := .int _ _) rfl rfl) ?_; refine Wo rfl (opv_assign (v := u1) rfl) ?_
    refine Wo rfl (opv_assign (v := .int _ _) rfl) ?_; refine Wo_nil ?_; refine W_ret ?_; refine at_ret (v := .tuple #[u1, .int _ _]) rfl ?_
  exact ⟨_, _, _, rfl, Ehr1, hO1.mono (by omega), hy2⟩

theorem FnDeepAt_walk (w : World) (v : Value) (xs : List UInt8) (h : Bytes w v xs) (hc : CapOk v) : Does Try.prog 12 [v] w (Ret w (.bool true)) := by
  have hle := h.le
  refine fn_of_W1 Try.func12 rfl Try.results12 Try.ntmps12 rfl ?_
  focus
    refine W_seq ?_; refine W_region rfl ?_; refine Wo rfl (opv_assign (v := .bool _) rfl) ?_; refine Wo_nil ?_; refine W_seq ?_; refine W_seq ?_; refine W_region rfl ?_; refine Wo rfl (opv_move (v := v) rfl) ?_
    refine Wo rfl (opv_len Try.underlying33 rfl h) ?_; refine Wo rfl (opv_gtr rfl rfl) ?_; refine Wo_nil ?_; refine W_cond_dec rfl (fun h1 => ?_) (fun h1 => ?_); refine W_seq ?_; refine W_region rfl ?_
    refine Wo rfl (opv_assign (v := .bool _) rfl) ?_; refine Wo_nil ?_; refine W_ret ?_; exact ⟨rfl, (Ext.refl _)⟩; refine W_skip ?_; refine W_seq ?_; refine W_region rfl ?_; refine Wo rfl (opv_move (v := v) rfl) ?_
    refine Wo_call rfl (opc1 (a := v) Try.call42 rfl) (DrawDeepAt_ok _ _ _ (h) (by assumption)) ?_; rintro _ w1 ⟨u1, z1, x1, rfl, E1, hO1, hy1⟩; have hs1 := E1.size; refine Wo rfl (opv_move (v := .tuple _) rfl) ?_
    refine Wo rfl (opv_extract (v := u1) rfl rfl) ?_; refine Wo rfl (opv_extract (v := .int _ _) rfl rfl) ?_; refine Wo rfl (opv_assign (v := u1) rfl) ?_; refine Wo rfl (opv_assign (v := .int _ _) rfl) ?_; refine Wo_nil ?_
    refine W_seq ?_; refine W_region rfl ?_; refine Wo rfl (opv_move (v := u1) rfl) ?_; refine Wo rfl (opv_move (v := .int _ _) rfl) ?_
  have hD : ∀ y, deepAtV x1 z1 = y → (∀ (w : World) (pv : Value), ESl Ints w pv x1 → Does Try.prog 23 [pv, .int .i64 z1] w (Ret w (.int .i64 y))) ∧ (∀ (w : World) (pv : Value), ESl Ints w pv x1 → Does Try.prog 22 [pv, .int .i64 z1] w (Ret w (.int .i64 y))) := fun y e => by
    subst e
    exact ⟨fun w pv h => impl_DeepAt_ok w pv x1 h z1, fun w pv h => spec_DeepAt_ok w pv x1 h z1⟩
  by_cases hcc : Nod x1 z1 ∧ cback x1 z1.toNat = false
  · obtain ⟨hz, hcb⟩ := hcc
    have hp := hz.1
    have hz' := hz.2
    have hp5 := hp.2.1
    have hzl : z1.toNat < x1.length := by omega
    obtain ⟨n, hn⟩ : ∃ n, n = dpt x1 x1.length z1.toNat := ⟨_, rfl⟩
    have hnl := dpt_lt hp hzl rf_len hcb
    rw [← hn] at hnl
    obtain ⟨k1, k2⟩ := hD (n : Int) (by rw [hn]; exact if_pos ⟨hz, hcb⟩)
    have hfnd := dpt_fnd hp x1.length z1.toNat hzl rf_len hcb
    rw [← hn] at hfnd
    have hI : ∀ (w : World) (pv : Value) (z : Int), ESl Ints w pv x1 → Does Try.prog 16 [pv, .int .i64 z] w (RetO w XI (ints (foundedV x1 z))) := fun w pv z h => impl_FoundedIn_ok w pv x1 z h
    have k3 : ∀ (w : World) (pv : Value), ESl Ints w pv x1 → Does Try.prog 16 [pv, .int .i64 ((n : Int) + 1)] w (RetO w XI (ints (foundedV x1 ((n : Int) + 1)))) := fun w pv h => hI w pv _ h
    have k4 : ∀ (w : World) (pv : Value), ESl Ints w pv x1 → Does Try.prog 16 [pv, .int .i64 (n : Int)] w (RetO w XI (ints (foundedV x1 (n : Int)))) := fun w pv h => hI w pv _ h
    have hmem : ∀ (m : Nat), m ≤ 5 → (z1 ∈ ints (foundedV x1 (m : Int)) ↔ fnd x1 m z1.toNat = true) := fun m hm => by
      have e : z1 = ((z1.toNat : Nat) : Int) := by omega
      rw [e, mem_ints]
      unfold foundedV
      rw [if_pos ⟨hp, by omega, by omega⟩, List.mem_filter, List.mem_range]
      exact ⟨fun h => h.2, fun h => ⟨hzl, h⟩⟩
    have k5 : ∀ (w : World) (u : Value), Ints w u (ints (foundedV x1 ((n : Int) + 1))) → Does Try.prog 30 [u, .int .i64 z1] w (Ret w (.bool true)) := fun w u h => by
      have := hasInt_ok w u _ h z1
      rw [decide_eq_true (show z1 ∈ ints (foundedV x1 ((n : Int) + 1)) from (hmem (n + 1) (by omega)).2 ((hfnd (n + 1)).2 (by omega)))] at this
      exact this
    have k6 : ∀ (w : World) (u : Value), Ints w u (ints (foundedV x1 (n : Int))) → Does Try.prog 30 [u, .int .i64 z1] w (Ret w (.bool false)) := fun w u h => by
      have := hasInt_ok w u _ h z1
      rw [decide_eq_false (show ¬ z1 ∈ ints (foundedV x1 (n : Int)) from fun hm => absurd ((hfnd n).1 ((hmem n (by omega)).1 hm)) (by omega))] at this
      exact this
    have k7 : ∀ y, codeV x1 z1 = y → ∀ (w : World) (pv : Value), ESl Ints w pv x1 → Does Try.prog 43 [pv, .int .i64 z1] w (Ret w (.tuple #[.int .i64 y.1, .bool y.2])) := fun y e w pv h => by
      subst e; exact CodeAt_ok w pv x1 h z1 hz hcb
    have hV : codeV x1 z1 = match cod x1 x1.length z1.toNat with | some c => ((c : Int), true) | none => (-1, false) := if_pos ⟨hz, hcb⟩
    cases hy : cod x1 x1.length z1.toNat with
    | none =>
      rw [hy] at hV
      have k8 : ∀ (w : World) (pv : Value), ESl Ints w pv x1 → Does Try.prog 43 [pv, .int .i64 z1] w (Ret w (.tuple #[.int .i64 (-1), .bool false])) := k7 _ hV
      clear hD hI k7 hV hmem hfnd hn
      focus
        have szE1 := E1.size; refine Wo_call rfl (opc2 (a := u1) (b := .int _ _) Try.call23 rfl rfl) (k1 _ _ ((Owned.read hO1))) ?_; rintro _ w2 ⟨rfl, E2⟩; have hs2 := E2.size; refine Wo rfl (opv_assign (v := .int _ _) rfl) ?_
        refine Wo_nil ?_; refine W_seq ?_; refine W_seq ?_; refine W_region rfl ?_; refine Wo rfl (opv_move (v := .int _ _) rfl) ?_; refine Wo rfl (opv_move (v := u1) rfl) ?_; refine Wo rfl (opv_move (v := .int _ _) rfl) ?_
        refine Wo_call rfl (opc2 (a := u1) (b := .int _ _) Try.call22 rfl rfl) (k2 _ _ ((Mono.mono E2 (Owned.read hO1)))) ?_; rintro _ w3 ⟨rfl, E3⟩; have hs3 := E3.size; refine Wo rfl (opv_neq rfl rfl) ?_; refine Wo_nil ?_
        refine W_cond_ndec rfl (fun h2 => ?_) (fun h2 => ?_); contradiction; refine W_skip ?_; refine W_seq ?_; refine W_seq ?_; refine W_region rfl ?_; refine Wo rfl (opv_move (v := .int _ _) rfl) ?_; refine Wo rfl (opv_lss rfl rfl) ?_
        refine Wo_nil ?_; refine W_cond_dec rfl (fun h3 => ?_) (fun h3 => ?_); contradiction; refine W_skip ?_; refine W_seq ?_; refine W_region rfl ?_; refine Wo rfl (opv_move (v := u1) rfl) ?_
        refine Wo rfl (opv_move (v := .int _ _) rfl) ?_; refine Wo_call rfl (opc2 (a := u1) (b := .int _ _) Try.call43 rfl rfl) (k8 _ _ ((Mono.mono (E2.trans E3) (Owned.read hO1)))) ?_; rintro _ w4 ⟨rfl, E4⟩; have hs4 := E4.size
        refine Wo rfl (opv_move (v := .tuple _) rfl) ?_; refine Wo rfl (opv_extract (v := .int _ _) rfl rfl) ?_; refine Wo rfl (opv_extract (v := .bool _) rfl rfl) ?_; refine Wo rfl (opv_assign (v := .int _ _) rfl) ?_
        refine Wo rfl (opv_assign (v := .bool _) rfl) ?_; refine Wo_nil ?_; refine W_seq ?_; refine W_region rfl ?_; refine Wo rfl (opv_move (v := .bool _) rfl) ?_; refine Wo rfl (opv_not rfl) ?_
        refine Wo_split rfl (opv_move (v := .bool _) rfl) (fun h4 => ?_) (fun h4 => ?_); refine Wo_skip rfl ?_; refine Wo_skip rfl ?_; refine Wo_skip rfl ?_; refine Wo_skip rfl ?_; refine Wo rfl (opv_pick_t (v := .bool _) rfl rfl) ?_
        refine Wo rfl (opv_move (v := .bool _) rfl) ?_; refine Wo rfl (opv_move (v := u1) rfl) ?_; refine Wo rfl (opv_move (v := .int _ _) rfl) ?_; refine Wo rfl (opv_add rfl rfl (by omega)) ?_
        refine Wo_call rfl (opc2 (a := u1) (b := .int _ _) Try.call16 rfl rfl) (k3 _ _ ((Mono.mono ((E2.trans E3).trans E4) (Owned.read hO1)))) ?_; rintro u2 w5 ⟨E5, hO2⟩; have hs5 := E5.size; refine Wo rfl (opv_move (v := .int _ _) rfl) ?_
        refine Wo_call rfl (opc2 (a := u2) (b := .int _ _) Try.call30 rfl rfl) (k5 _ _ ((Owned.read hO2))) ?_; rintro _ w6 ⟨rfl, E6⟩; have hs6 := E6.size; refine Wo rfl (opv_pick_t (v := .bool _) rfl rfl) ?_
        refine Wo rfl (opv_move (v := .bool _) rfl) ?_; refine Wo rfl (opv_move (v := u1) rfl) ?_; refine Wo rfl (opv_move (v := .int _ _) rfl) ?_
        refine Wo_call rfl (opc2 (a := u1) (b := .int _ _) Try.call16 rfl rfl) (k4 _ _ ((Mono.mono ((((E2.trans E3).trans E4).trans E5).trans E6) (Owned.read hO1)))) ?_; rintro u3 w7 ⟨E7, hO3⟩; have hs7 := E7.size
        refine Wo rfl (opv_move (v := .int _ _) rfl) ?_; refine Wo_call rfl (opc2 (a := u3) (b := .int _ _) Try.call30 rfl rfl) (k6 _ _ ((Owned.read hO3))) ?_; rintro _ w8 ⟨rfl, E8⟩; have hs8 := E8.size; refine Wo rfl (opv_not rfl) ?_
        refine Wo rfl (opv_pick_t (v := .bool _) rfl rfl) ?_; refine Wo rfl (opv_assign (v := .bool _) rfl) ?_; refine Wo_nil ?_; refine W_ret ?_; exact ⟨rfl, (((((((E1.trans E2).trans E3).trans E4).trans E5).trans E6).trans E7).trans E8)⟩
        contradiction
    | some c =>
      rw [hy] at hV
      have k8 : ∀ (w : World) (pv : Value), ESl Ints w pv x1 → Does Try.prog 43 [pv, .int .i64 z1] w (Ret w (.tuple #[.int .i64 (c : Int), .bool true])) := k7 _ hV
      have hcl := cod_lt hy
      have k9 : ∀ (w : World), Does Try.prog 44 [.int .i64 (c : Int)] w (Ret w (.int .i64 (n : Int))) := fun w => by
        have := DeepOf_ok w c hcl
        rw [cdp_dpt hp hzl rf_len hcb hy hcl, ← hn] at this; exact this
      clear hD hI k7 hV hmem hfnd hn
      focus
        have szE1 := E1.size; refine Wo_call rfl (opc2 (a := u1) (b := .int _ _) Try.call23 rfl rfl) (k1 _ _ ((Owned.read hO1))) ?_; rintro _ w2 ⟨rfl, E2⟩; have hs2 := E2.size; refine Wo rfl (opv_assign (v := .int _ _) rfl) ?_
        refine Wo_nil ?_; refine W_seq ?_; refine W_seq ?_; refine W_region rfl ?_; refine Wo rfl (opv_move (v := .int _ _) rfl) ?_; refine Wo rfl (opv_move (v := u1) rfl) ?_; refine Wo rfl (opv_move (v := .int _ _) rfl) ?_
        refine Wo_call rfl (opc2 (a := u1) (b := .int _ _) Try.call22 rfl rfl) (k2 _ _ ((Mono.mono E2 (Owned.read hO1)))) ?_; rintro _ w3 ⟨rfl, E3⟩; have hs3 := E3.size; refine Wo rfl (opv_neq rfl rfl) ?_; refine Wo_nil ?_
        refine W_cond_ndec rfl (fun h2 => ?_) (fun h2 => ?_); contradiction; refine W_skip ?_; refine W_seq ?_; refine W_seq ?_; refine W_region rfl ?_; refine Wo rfl (opv_move (v := .int _ _) rfl) ?_; refine Wo rfl (opv_lss rfl rfl) ?_
        refine Wo_nil ?_; refine W_cond_dec rfl (fun h3 => ?_) (fun h3 => ?_); contradiction; refine W_skip ?_; refine W_seq ?_; refine W_region rfl ?_; refine Wo rfl (opv_move (v := u1) rfl) ?_
        refine Wo rfl (opv_move (v := .int _ _) rfl) ?_; refine Wo_call rfl (opc2 (a := u1) (b := .int _ _) Try.call43 rfl rfl) (k8 _ _ ((Mono.mono (E2.trans E3) (Owned.read hO1)))) ?_; rintro _ w4 ⟨rfl, E4⟩; have hs4 := E4.size
        refine Wo rfl (opv_move (v := .tuple _) rfl) ?_; refine Wo rfl (opv_extract (v := .int _ _) rfl rfl) ?_; refine Wo rfl (opv_extract (v := .bool _) rfl rfl) ?_; refine Wo rfl (opv_assign (v := .int _ _) rfl) ?_
        refine Wo rfl (opv_assign (v := .bool _) rfl) ?_; refine Wo_nil ?_; refine W_seq ?_; refine W_region rfl ?_; refine Wo rfl (opv_move (v := .bool _) rfl) ?_; refine Wo rfl (opv_not rfl) ?_
        refine Wo_split rfl (opv_move (v := .bool _) rfl) (fun h4 => ?_) (fun h4 => ?_); contradiction; refine Wo rfl (opv_move (v := .int _ _) rfl) ?_; refine Wo_call rfl (opc1 (a := .int _ _) Try.call44 rfl) (k9 _) ?_
        rintro _ w5 ⟨rfl, E5⟩; have hs5 := E5.size; refine Wo rfl (opv_move (v := .int _ _) rfl) ?_; refine Wo rfl (opv_eql rfl rfl) ?_; refine Wo rfl (opv_pick_f (v := .bool _) rfl rfl) ?_
        refine Wo_split_dec rfl (opv_move (v := .bool _) rfl) (fun h5 => ?_) (fun h5 => ?_); refine Wo rfl (opv_move (v := u1) rfl) ?_; refine Wo rfl (opv_move (v := .int _ _) rfl) ?_; refine Wo rfl (opv_add rfl rfl (by omega)) ?_
        refine Wo_call rfl (opc2 (a := u1) (b := .int _ _) Try.call16 rfl rfl) (k3 _ _ ((Mono.mono (((E2.trans E3).trans E4).trans E5) (Owned.read hO1)))) ?_; rintro u2 w6 ⟨E6, hO2⟩; have hs6 := E6.size
        refine Wo rfl (opv_move (v := .int _ _) rfl) ?_; refine Wo_call rfl (opc2 (a := u2) (b := .int _ _) Try.call30 rfl rfl) (k5 _ _ ((Owned.read hO2))) ?_; rintro _ w7 ⟨rfl, E7⟩; have hs7 := E7.size
        refine Wo rfl (opv_pick_t (v := .bool _) rfl rfl) ?_; refine Wo rfl (opv_move (v := .bool _) rfl) ?_; refine Wo rfl (opv_move (v := u1) rfl) ?_; refine Wo rfl (opv_move (v := .int _ _) rfl) ?_
        refine Wo_call rfl (opc2 (a := u1) (b := .int _ _) Try.call16 rfl rfl) (k4 _ _ ((Mono.mono (((((E2.trans E3).trans E4).trans E5).trans E6).trans E7) (Owned.read hO1)))) ?_; rintro u3 w8 ⟨E8, hO3⟩; have hs8 := E8.size
        refine Wo rfl (opv_move (v := .int _ _) rfl) ?_; refine Wo_call rfl (opc2 (a := u3) (b := .int _ _) Try.call30 rfl rfl) (k6 _ _ ((Owned.read hO3))) ?_; rintro _ w9 ⟨rfl, E9⟩; have hs9 := E9.size; refine Wo rfl (opv_not rfl) ?_
        refine Wo rfl (opv_pick_t (v := .bool _) rfl rfl) ?_; refine Wo rfl (opv_assign (v := .bool _) rfl) ?_; refine Wo_nil ?_; refine W_ret ?_
        exact ⟨rfl, ((((((((E1.trans E2).trans E3).trans E4).trans E5).trans E6).trans E7).trans E8).trans E9)⟩; contradiction
  · obtain ⟨k1, k2⟩ := hD (-1) (if_neg hcc)
    clear hD
    focus
      have szE1 := E1.size; refine Wo_call rfl (opc2 (a := u1) (b := .int _ _) Try.call23 rfl rfl) (k1 _ _ ((Owned.read hO1))) ?_; rintro _ w2 ⟨rfl, E2⟩; have hs2 := E2.size; refine Wo rfl (opv_assign (v := .int _ _) rfl) ?_
      refine Wo_nil ?_; refine W_seq ?_; refine W_seq ?_; refine W_region rfl ?_; refine Wo rfl (opv_move (v := .int _ _) rfl) ?_; refine Wo rfl (opv_move (v := u1) rfl) ?_; refine Wo rfl (opv_move (v := .int _ _) rfl) ?_
      refine Wo_call rfl (opc2 (a := u1) (b := .int _ _) Try.call22 rfl rfl) (k2 _ _ ((Mono.mono E2 (Owned.read hO1)))) ?_; rintro _ w3 ⟨rfl, E3⟩; have hs3 := E3.size; refine Wo rfl (opv_neq rfl rfl) ?_; refine Wo_nil ?_
      refine W_cond_ndec rfl (fun h2 => ?_) (fun h2 => ?_); contradiction; refine W_skip ?_; refine W_seq ?_; refine W_seq ?_; refine W_region rfl ?_; refine Wo rfl (opv_move (v := .int _ _) rfl) ?_; refine Wo rfl (opv_lss rfl rfl) ?_
      refine Wo_nil ?_; refine W_cond_dec rfl (fun h3 => ?_) (fun h3 => ?_); refine W_seq ?_; refine W_region rfl ?_; refine Wo rfl (opv_move (v := .int _ _) rfl) ?_; refine Wo rfl (opv_eql rfl rfl) ?_
      refine Wo_split_dec rfl (opv_move (v := .bool _) rfl) (fun h4 => ?_) (fun h4 => ?_); refine Wo_call rfl (opc0 Try.call29) (alive_ok _) ?_; rintro _ w4 ⟨rfl, E4⟩; have hs4 := E4.size
      refine Wo rfl (opv_pick_t (v := .bool _) rfl rfl) ?_; refine Wo rfl (opv_assign (v := .bool _) rfl) ?_; refine Wo_nil ?_; refine W_ret ?_; exact ⟨rfl, (((E1.trans E2).trans E3).trans E4)⟩; contradiction; contradiction

end Go.Proofs.Ythhaodjjfofogaa
