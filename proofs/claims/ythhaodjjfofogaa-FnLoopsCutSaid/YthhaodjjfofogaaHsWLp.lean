/- Walks: loops, on both sides. -/
import Derived.Test.YthhaodjjfofogaaHsWCbL
import Derived.Test.YthhaodjjfofogaaHsLoop
import Derived.Test.YthhaodjjfofogaaHsFnd
namespace Go.Proofs.Ythhaodjjfofogaa
open Go.Hs
set_option maxRecDepth 10000
set_option maxHeartbeats 4000000
set_option linter.unusedVariables false
set_option linter.unusedSimpArgs false

theorem rch_mem {p : List (List Int)} (hp : Pic p) {i j : Nat} (hi : i < p.length) : decide ((j : Int) ∈ ints (rf p i)) = rch p i j := by
  rw [Bool.eq_iff_iff, decide_eq_true_iff, mem_ints, mem_rf hp hi, rch_iff]
theorem l9Reaches_ok (w : World) (v : Value) (p : List (List Int)) (h : ESl Ints w v p) (hp : Pic p) (i j : Nat) (hi : i < p.length) (hj : j < p.length) : Does Try.prog 63 [v, .int .i64 (i : Int), .int .i64 (j : Int)] w (Ret w (.bool (rch p i j))) := by
  have k1 : ∀ (w : World) (pv : Value), ESl Ints w pv p → Does Try.prog 72 [pv, .int .i64 (i : Int)] w (RetO w XI (ints (rf p i))) := fun w pv h => by
    have := spec_ReachedFrom_ok w pv p (i : Int) h
    rw [show rfV p (i : Int) = rf p i by unfold rfV; rw [if_pos (show Nod p (i : Int) from ⟨hp, by omega, by omega⟩)]; rfl] at this
    exact this
  have hle := h.le
  have hp5 := hp.2.1
  have hl := ints_len (rf p i)
  have hl5 : (rf p i).length ≤ p.length := rf_len
  rw [← rch_mem hp hi]
  generalize ints (rf p i) = xs at *
  refine fn_of_W1 Try.func63 rfl Try.results63 Try.ntmps63 rfl ?_
  focus
    refine W_seq ?_; refine W_region rfl ?_; refine Wo rfl (opv_assign (v := .bool _) rfl) ?_; refine Wo_nil ?_; refine W_seq ?_; refine W_region rfl ?_; refine Wo rfl (opv_move (v := v) rfl) ?_
    refine Wo rfl (opv_move (v := .int _ _) rfl) ?_; refine Wo_call rfl (opc2 (a := v) (b := .int _ _) Try.call72 rfl rfl) (k1 _ _ (h)) ?_; rintro u1 w1 ⟨E1, hO1⟩; have hs1 := E1.size; refine Wo rfl (opv_assign (v := u1) rfl) ?_
    refine Wo_nil ?_; refine W_seq ?_; refine W_seq ?_; refine W_region rfl ?_; refine Wo rfl (opv_assign (v := .int _ _) rfl) ?_; refine Wo_nil ?_; refine W_block ?_
  refine W_loop [6, 8, 12, 13, 14, 15, 16, 17, 18, 19, 20, 21, 22, 23] (fun (k : Nat) => [(8, .int .i64 (k : Nat))]) (fun k w' => Ext w1 w' ∧ k ≤ xs.length ∧ (j : Int) ∉ xs.take k) (fun x => xs.length - x) 0 (by repeat (first | exact trivial | refine And.intro rfl ?_)) ?_ ?_
  · exact ⟨Ext.refl _, Nat.zero_le _, by simp⟩
  rintro k ρj w2 ⟨E2, hk, he⟩
  by_cases hkl : k < xs.length
  · have hts := take_snoc xs k hkl
    by_cases hz : xs[k] = (j : Int)
    · have hin : (j : Int) ∈ xs := hz ▸ List.getElem_mem hkl
      focus
        have szE2 := E2.size; have szE1 := E1.size; refine W_seq ?_; refine W_seq ?_; refine W_region rfl ?_; refine Wo rfl (opv_move (v := .int _ _) rfl) ?_; refine Wo rfl (opv_move (v := u1) rfl) ?_
        refine Wo rfl (opv_len Try.underlying24 rfl (Owned.read hO1)) ?_; refine Wo rfl (opv_lss rfl rfl) ?_; refine Wo_nil ?_; refine W_cond_dec rfl (fun h1 => ?_) (fun h1 => ?_); refine W_skip ?_; refine W_seq ?_; refine W_block ?_
        refine W_seq ?_; refine W_region rfl ?_; refine Wo rfl (opv_move (v := u1) rfl) ?_; refine Wo rfl (opv_move (v := .int _ _) rfl) ?_
        refine Wo_get Try.underlying24 Try.sizeOf3 Try.isAgg3 rfl (fun _ => rfl) rfl (Owned.read hO1) E2 rfl (by first | omega | (simp <;> omega)) ?_; rintro _ _ rfl; refine Wo rfl (opv_move (v := .int _ _) rfl) ?_
        refine Wo rfl (opv_eql rfl rfl) ?_; refine Wo_nil ?_; refine W_cond_dec rfl (fun h2 => ?_) (fun h2 => ?_); refine W_seq ?_; refine W_region rfl ?_; refine Wo rfl (opv_assign (v := .bool _) rfl) ?_; refine Wo_nil ?_; refine W_ret ?_
        refine at_ret (v := .bool _) rfl ?_; refine ⟨congrArg Value.bool ?_, (E1.trans E2)⟩; rotate_left; contradiction; (exfalso; omega)
      all_goals exact (decide_eq_true hin).symm
    · focus
        have szE2 := E2.size; have szE1 := E1.size; refine W_seq ?_; refine W_seq ?_; refine W_region rfl ?_; refine Wo rfl (opv_move (v := .int _ _) rfl) ?_; refine Wo rfl (opv_move (v := u1) rfl) ?_
        refine Wo rfl (opv_len Try.underlying24 rfl (Owned.read hO1)) ?_; refine Wo rfl (opv_lss rfl rfl) ?_; refine Wo_nil ?_; refine W_cond_dec rfl (fun h1 => ?_) (fun h1 => ?_); refine W_skip ?_; refine W_seq ?_; refine W_block ?_
        refine W_seq ?_; refine W_region rfl ?_; refine Wo rfl (opv_move (v := u1) rfl) ?_; refine Wo rfl (opv_move (v := .int _ _) rfl) ?_
        refine Wo_get Try.underlying24 Try.sizeOf3 Try.isAgg3 rfl (fun _ => rfl) rfl (Owned.read hO1) E2 rfl (by first | omega | (simp <;> omega)) ?_; rintro _ _ rfl; refine Wo rfl (opv_move (v := .int _ _) rfl) ?_
        refine Wo rfl (opv_eql rfl rfl) ?_; refine Wo_nil ?_; refine W_cond_dec rfl (fun h2 => ?_) (fun h2 => ?_); contradiction; refine W_skip ?_; refine W_region rfl ?_; refine Wo rfl (opv_move (v := .int _ _) rfl) ?_
        refine Wo rfl (opv_add rfl rfl (by omega)) ?_; refine Wo rfl (opv_assign (v := .int _ _) rfl) ?_; refine Wo_nil ?_; rotate_left; (exfalso; omega)
      refine ⟨(k + 1), by repeat (first | exact trivial | refine And.intro rfl ?_), by repeat (first | with_reducible exact Same.refl | refine Same.upd rfl ?_ | refine Same.upds rfl ?_ | refine Same.mix rfl ?_), ?_, ?_⟩
      · refine ⟨E2, by omega, ?_⟩
        rw [hts]; intro hm
        rcases List.mem_append.1 hm with hm | hm
        · exact he hm
        · exact hz (List.mem_singleton.1 hm).symm
      · omega
  · obtain rfl : k = xs.length := by omega
    rw [List.take_length] at he
    focus
      have szE2 := E2.size; have szE1 := E1.size; refine W_seq ?_; refine W_seq ?_; refine W_region rfl ?_; refine Wo rfl (opv_move (v := .int _ _) rfl) ?_; refine Wo rfl (opv_move (v := u1) rfl) ?_
      refine Wo rfl (opv_len Try.underlying24 rfl (Owned.read hO1)) ?_; refine Wo rfl (opv_lss rfl rfl) ?_; refine Wo_nil ?_; refine W_cond_dec rfl (fun h1 => ?_) (fun h1 => ?_); (exfalso; omega); refine W_exit ?_; refine exitX_same ?_
      refine W_seq ?_; refine W_region rfl ?_; refine Wo rfl (opv_assign (v := .bool _) rfl) ?_; refine Wo_nil ?_; refine W_ret ?_; refine at_ret (v := .bool _) rfl ?_; refine ⟨congrArg Value.bool ?_, (E1.trans E2)⟩
    all_goals exact (decide_eq_false he).symm

noncomputable def lpsV (p : List (List Int)) : List Int := if Pic p then (List.range p.length).map (lpV p) else []
theorem map_snoc (p : List (List Int)) (k : Nat) : (List.range (k + 1)).map (lpV p) = (List.range k).map (lpV p) ++ [lpV p k] := by rw [List.range_succ, List.map_append]; rfl
def isL (p : List (List Int)) (k : Nat) (best j : Int) : Prop := (best = -1 ∧ ∀ i, i < p.length → j < (i : Int) → lpB p k i = false) ∨ ∃ b : Nat, best = (b : Int) ∧ b < p.length ∧ j < (b : Int) ∧ lpB p k b = true ∧ ∀ i, i < b → j < (i : Int) → lpB p k i = false
theorem isL_end {p : List (List Int)} {k : Nat} {best : Int} (h : isL p k best (-1)) : best = lpV p k := by
  rcases h with ⟨h1, h2⟩ | ⟨b, h1, h2, h3, h4, h5⟩
  · rw [lpV_none fun i hi => h2 i hi (by omega)]; exact h1
  · rw [lpV_some h2 h4 fun i hi => h5 i hi (by omega)]; exact h1
theorem isL_yes {p : List (List Int)} {k j : Nat} {best : Int} (hj : j < p.length) (h : lpB p k j = true) : isL p k (j : Int) ((j : Int) - 1) :=
  .inr ⟨j, rfl, hj, by omega, h, fun i h1 h2 => by omega⟩
theorem isL_no {p : List (List Int)} {k j : Nat} {best : Int} (h : isL p k best (j : Int)) (hn : lpB p k j = false) : isL p k best ((j : Int) - 1) := by
  rcases h with ⟨h1, h2⟩ | ⟨b, h1, h2, h3, h4, h5⟩
  · refine .inl ⟨h1, fun i hi hl => ?_⟩
    by_cases e : i = j
    · subst e; exact hn
    · exact h2 i hi (by omega)
  · refine .inr ⟨b, h1, h2, by omega, h4, fun i hi hl => ?_⟩
    by_cases e : i = j
    · subst e; exact hn
    · exact h5 i hi (by omega)
theorem isL_rng {p : List (List Int)} {k : Nat} {best j : Int} (h : isL p k best j) : -1 ≤ best ∧ best < p.length ∨ best = -1 := by
  rcases h with ⟨h1, _⟩ | ⟨b, h1, h2, _⟩
  · exact .inr h1
  · left; omega
theorem thr_any {p : List (List Int)} (hp : Pic p) {k : Nat} (hk : k < p.length) (j : Nat) : thr p k j = (List.range p.length).any fun i => decide (p[k].getD i 0 = 1) && rch p i j := arr_any hp hk _
theorem spec_LoopsOf_ok (w : World) (v : Value) (p : List (List Int)) (h : ESl Ints w v p) : Does Try.prog 33 [v] w (RetO w XI (lpsV p)) := by
  have hle := h.le
  by_cases hp : Pic p
  · have hpic : ∀ (w : World) (pv : Value), ESl Ints w pv p → Does Try.prog 28 [pv] w (Ret w (.bool true)) := fun w pv h => by
      have := PictureOk_ok w pv p h
      rw [decide_eq_true hp] at this; exact this
    have hV : lpsV p = (List.range p.length).map (lpV p) := if_pos hp
    have hp5 := hp.2.1
    rw [hV]
    refine fn_of_W1 Try.func33 rfl Try.results33 Try.ntmps33 rfl ?_
    focus
      refine W_seq ?_; refine W_region rfl ?_; refine Wo rfl (opv_assign (v := .slice _ _ _) rfl) ?_; refine Wo_nil ?_; refine W_seq ?_; refine W_region rfl ?_; refine Wo_lit0 XInt rfl el24 Try.sizeOf3 ?_; rintro b1 w1 hb1 b1lt E1 hO1
      have hs1 := E1.size; refine Wo rfl (opv_assign (v := .slice _ _ _) rfl) ?_; refine Wo_nil ?_; refine W_seq ?_; refine W_seq ?_; refine W_region rfl ?_; refine Wo rfl (opv_assign (v := .int _ _) rfl) ?_; refine Wo_nil ?_
      refine W_block ?_
    refine W_loop [3, 4, 5, 6, 7, 8, 9, 11, 12, 13, 14, 15, 16, 17, 18, 19, 20, 21, 22, 23, 24, 25, 26, 27, 28, 29, 30, 31, 32, 33, 34, 35, 36, 37, 38, 39, 40, 41, 42, 43, 44, 45, 46, 47, 48, 49, 50, 51, 52, 53, 54, 55, 56, 57, 58, 59, 60, 61, 62, 63, 64, 65, 66, 67, 68, 69, 70] (fun (k, u) => [(4, .int .i64 (k : Nat)), (3, u)]) (fun (k, u) w' => Ext w w' ∧ k ≤ p.length ∧ Owned w.heap.size XI w' u ((List.range k).map (lpV p))) (fun x => p.length - x.1) (0, .slice (some ⟨b1, 0, none⟩) 0 0) (by repeat (first | exact trivial | refine And.intro rfl ?_)) ?_ ?_
    · exact ⟨by assumption, Nat.zero_le _, by simpa using hO1⟩
    rintro ⟨k, u⟩ ρj w2 ⟨E2, hk, hO2⟩
    have hll : ((List.range k).map (lpV p)).length = k := by simp
    by_cases hkl : k < p.length
    · have hsn := map_snoc p k
      have hrow := hp.row hkl
      focus
        have szE2 := E2.size; have szE1 := E1.size; refine W_seq ?_; refine W_seq ?_; refine W_region rfl ?_; refine Wo rfl (opv_move (v := .int _ _) rfl) ?_; refine Wo rfl (opv_move (v := v) rfl) ?_
        refine Wo rfl (opv_len Try.underlying22 rfl h) ?_; refine Wo rfl (opv_lss rfl rfl) ?_; refine Wo_split_dec rfl (opv_move (v := .bool _) rfl) (fun h1 => ?_) (fun h1 => ?_); refine Wo rfl (opv_move (v := v) rfl) ?_
        refine Wo_call rfl (opc1 (a := v) Try.call28 rfl) (hpic _ _ ((Mono.mono E2 h))) ?_; rintro _ w3 ⟨rfl, E3⟩; have hs2 := E3.size; refine Wo rfl (opv_pick_t (v := .bool _) rfl rfl) ?_; refine Wo_nil ?_; refine W_cond_true rfl ?_
        refine W_skip ?_; refine W_seq ?_; refine W_block ?_; refine W_seq ?_; refine W_region rfl ?_; refine Wo rfl (opv_assign (v := .int _ _) rfl) ?_; refine Wo_nil ?_; refine W_seq ?_; refine W_seq ?_; refine W_region rfl ?_
        refine Wo rfl (opv_move (v := v) rfl) ?_; refine Wo rfl (opv_len Try.underlying22 rfl h) ?_; refine Wo rfl (opv_sub rfl rfl (by omega)) ?_; refine Wo rfl (opv_assign (v := .int _ _) rfl) ?_; refine Wo_nil ?_; refine W_block ?_
        rotate_left; (exfalso; omega)
      refine W_loop [5, 6, 7, 8, 9, 24, 25, 26, 27, 28, 29, 30, 31, 32, 33, 34, 35, 36, 37, 38, 39, 40, 41, 42, 43, 44, 45, 46, 47, 48, 49, 50, 51, 52, 53, 54, 55, 56, 57, 58, 59, 60, 61, 62, 63, 64, 65, 66] (fun ((j : Int), (best : Int)) => [(6, .int .i64 j), (5, .int .i64 best)]) (fun (j, best) w' => Ext w3 w' ∧ -1 ≤ j ∧ j < p.length ∧ isL p k best j) (fun x => (x.1 + 1).toNat) ((p.length : Int) - 1, -1) (by repeat (first | exact trivial | refine And.intro rfl ?_)) ?_ ?_
      · exact ⟨Ext.refl _, by omega, by omega, .inl ⟨rfl, fun i h1 h2 => by omega⟩⟩
      rintro ⟨j, best⟩ ρk w4 ⟨E4, hj1, hj2, hL⟩
      have hbr := isL_rng hL
      by_cases hj0 : 0 ≤ j
      · obtain ⟨n, rfl⟩ : ∃ n : Nat, j = (n : Int) := ⟨j.toNat, by omega⟩
        have hn : n < p.length := by omega
        have hrown := hp.row hn
        focus
          have szE4 := E4.size; have szE3 := E3.size; have szE2 := E2.size; have szE1 := E1.size; refine W_seq ?_; refine W_seq ?_; refine W_region rfl ?_; refine Wo rfl (opv_move (v := .int _ _) rfl) ?_; refine Wo rfl (opv_geq rfl rfl) ?_
          refine Wo_nil ?_; refine W_cond_dec rfl (fun h2 => ?_) (fun h2 => ?_); refine W_skip ?_; refine W_seq ?_; refine W_block ?_; refine W_seq ?_; refine W_region rfl ?_; refine Wo rfl (opv_assign (v := .bool _) rfl) ?_; refine Wo_nil ?_
          refine W_seq ?_; refine W_region rfl ?_; refine Wo rfl (opv_assign (v := .bool _) rfl) ?_; refine Wo_nil ?_; refine W_seq ?_; refine W_seq ?_; refine W_region rfl ?_; refine Wo rfl (opv_assign (v := .int _ _) rfl) ?_
          refine Wo_nil ?_; refine W_block ?_; rotate_left; contradiction
        refine W_loop [7, 8, 9, 28, 29, 30, 31, 32, 33, 34, 35, 36, 37, 38, 39, 40, 41, 42, 43, 44, 45, 46, 47, 48, 49, 50, 51, 52, 53, 54, 55, 56, 57, 58, 59, 60, 61] (fun (m, t, b) => [(9, .int .i64 (m : Nat)), (7, .bool t), (8, .bool b)]) (fun (m, t, b) w' => Ext w3 w' ∧ m ≤ p.length ∧ t = ((List.range m).any fun i => decide (p[k].getD i 0 = 1) && rch p i n) ∧ b = ((List.range m).any fun i => decide (p[n].getD i 0 = 1) && rch p i k)) (fun x => p.length - x.1) (0, false, false) (by repeat (first | exact trivial | refine And.intro rfl ?_)) ?_ ?_
        · exact ⟨E4, Nat.zero_le _, by simp, by simp⟩
        rintro ⟨m, t, b⟩ ρl w5 ⟨E5, hm, ht, hb⟩
        by_cases hml : m < p.length
        · have hgt := any_range_succ (fun i => decide (p[k].getD i 0 = 1) && rch p i n) m
          have hgb := any_range_succ (fun i => decide (p[n].getD i 0 = 1) && rch p i k) m
          rw [← ht, getD_lt (by omega)] at hgt
          rw [← hb, getD_lt (by omega)] at hgb
          have hr1 := fun x (e : rch p m n = x) (w : World) (pv : Value) (h : ESl Ints w pv p) => e ▸ l9Reaches_ok w pv p h hp m n hml hn
          have hr2 := fun x (e : rch p m k = x) (w : World) (pv : Value) (h : ESl Ints w pv p) => e ▸ l9Reaches_ok w pv p h hp m k hml hkl
          clear ht hb
          by_cases ha : p[k][m] = 1
          · cases e1 : rch p m n with
            | true =>
              have k1 := hr1 _ e1
              by_cases hc : p[n][m] = 1
              · cases e2 : rch p m k with
                | true =>
                  have k2 := hr2 _ e2
                  focus
                    have szE5 := E5.size; have szE4 := E4.size; have szE3 := E3.size; have szE2 := E2.size; have szE1 := E1.size; refine W_seq ?_; refine W_seq ?_; refine W_region rfl ?_; refine Wo rfl (opv_move (v := .int _ _) rfl) ?_
                    refine Wo rfl (opv_move (v := v) rfl) ?_; refine Wo rfl (opv_len Try.underlying22 rfl h) ?_; refine Wo rfl (opv_lss rfl rfl) ?_; refine Wo_nil ?_; refine W_cond_dec rfl (fun h3 => ?_) (fun h3 => ?_); refine W_skip ?_
                    refine W_seq ?_; refine W_block ?_; refine W_seq ?_; refine W_seq ?_; refine W_region rfl ?_; refine Wo rfl (opv_move (v := v) rfl) ?_; refine Wo rfl (opv_move (v := .int _ _) rfl) ?_
                    refine Wo_get Try.underlying22 Try.sizeOf24 Try.isAgg24 rfl (fun _ => rfl) rfl h ((E2.trans E3).trans E5) rfl (by first | omega | (simp <;> omega)) ?_; rintro _ u1 hu1; refine Wo rfl (opv_move (v := .int _ _) rfl) ?_
                    refine Wo_get Try.underlying24 Try.sizeOf3 Try.isAgg3 rfl (fun _ => rfl) rfl hu1 ((E2.trans E3).trans E5) rfl (by first | omega | (simp <;> omega)) ?_; rintro _ _ rfl; refine Wo rfl (opv_eql rfl rfl) ?_
                    refine Wo_split_dec rfl (opv_move (v := .bool _) rfl) (fun h4 => ?_) (fun h4 => ?_); refine Wo rfl (opv_move (v := v) rfl) ?_; refine Wo rfl (opv_move (v := .int _ _) rfl) ?_; refine Wo rfl (opv_move (v := .int _ _) rfl) ?_
                    refine Wo_call rfl (opc3 (a := v) (b := .int _ _) (c := .int _ _) Try.call63 rfl rfl rfl) (k1 _ _ ((Mono.mono ((E2.trans E3).trans E5) h))) ?_; rintro _ w6 ⟨rfl, E6⟩; have hs3 := E6.size
                    refine Wo rfl (opv_pick_t (v := .bool _) rfl rfl) ?_; refine Wo_nil ?_; refine W_cond_true rfl ?_; refine W_region rfl ?_; refine Wo rfl (opv_assign (v := .bool _) rfl) ?_; refine Wo_nil ?_; refine W_seq ?_; refine W_region rfl ?_
                    refine Wo rfl (opv_move (v := v) rfl) ?_; refine Wo rfl (opv_move (v := .int _ _) rfl) ?_
                    refine Wo_get Try.underlying22 Try.sizeOf24 Try.isAgg24 rfl (fun _ => rfl) rfl h (((E2.trans E3).trans E5).trans E6) rfl (by first | omega | (simp <;> omega)) ?_; rintro _ u2 hu2; refine Wo rfl (opv_move (v := .int _ _) rfl) ?_
                    refine Wo_get Try.underlying24 Try.sizeOf3 Try.isAgg3 rfl (fun _ => rfl) rfl hu2 (((E2.trans E3).trans E5).trans E6) rfl (by first | omega | (simp <;> omega)) ?_; rintro _ _ rfl; refine Wo rfl (opv_eql rfl rfl) ?_
                    refine Wo_split_dec rfl (opv_move (v := .bool _) rfl) (fun h5 => ?_) (fun h5 => ?_); refine Wo rfl (opv_move (v := v) rfl) ?_; refine Wo rfl (opv_move (v := .int _ _) rfl) ?_; refine Wo rfl (opv_move (v := .int _ _) rfl) ?_
                    refine Wo_call rfl (opc3 (a := v) (b := .int _ _) (c := .int _ _) Try.call63 rfl rfl rfl) (k2 _ _ ((Mono.mono (((E2.trans E3).trans E5).trans E6) h))) ?_; rintro _ w7 ⟨rfl, E7⟩; have hs4 := E7.size
                    refine Wo rfl (opv_pick_t (v := .bool _) rfl rfl) ?_; refine Wo_nil ?_; refine W_cond_true rfl ?_; refine W_region rfl ?_; refine Wo rfl (opv_assign (v := .bool _) rfl) ?_; refine Wo_nil ?_; refine W_region rfl ?_
                    refine Wo rfl (opv_move (v := .int _ _) rfl) ?_; refine Wo rfl (opv_add rfl rfl (by omega)) ?_; refine Wo rfl (opv_assign (v := .int _ _) rfl) ?_; refine Wo_nil ?_; rotate_left; contradiction; contradiction; (exfalso; omega)
                  refine ⟨((m + 1, true, true)), by repeat (first | exact trivial | refine And.intro rfl ?_), by repeat (first | with_reducible exact Same.refl | refine Same.upd rfl ?_ | refine Same.upds rfl ?_ | refine Same.mix rfl ?_), ?_, ?_⟩
                  · refine ⟨E5.trans (E6.trans E7), by omega, ?_, ?_⟩
                    · rw [hgt, decide_eq_true ha, e1, Bool.and_true, Bool.or_true]
                    · rw [hgb, decide_eq_true hc, e2, Bool.and_true, Bool.or_true]
                  · simp only; omega
                | false =>
                  have k2 := hr2 _ e2
                  focus
                    have szE5 := E5.size; have szE4 := E4.size; have szE3 := E3.size; have szE2 := E2.size; have szE1 := E1.size; refine W_seq ?_; refine W_seq ?_; refine W_region rfl ?_; refine Wo rfl (opv_move (v := .int _ _) rfl) ?_
                    refine Wo rfl (opv_move (v := v) rfl) ?_; refine Wo rfl (opv_len Try.underlying22 rfl h) ?_; refine Wo rfl (opv_lss rfl rfl) ?_; refine Wo_nil ?_; refine W_cond_dec rfl (fun h3 => ?_) (fun h3 => ?_); refine W_skip ?_
                    refine W_seq ?_; refine W_block ?_; refine W_seq ?_; refine W_seq ?_; refine W_region rfl ?_; refine Wo rfl (opv_move (v := v) rfl) ?_; refine Wo rfl (opv_move (v := .int _ _) rfl) ?_
                    refine Wo_get Try.underlying22 Try.sizeOf24 Try.isAgg24 rfl (fun _ => rfl) rfl h ((E2.trans E3).trans E5) rfl (by first | omega | (simp <;> omega)) ?_; rintro _ u1 hu1; refine Wo rfl (opv_move (v := .int _ _) rfl) ?_
                    refine Wo_get Try.underlying24 Try.sizeOf3 Try.isAgg3 rfl (fun _ => rfl) rfl hu1 ((E2.trans E3).trans E5) rfl (by first | omega | (simp <;> omega)) ?_; rintro _ _ rfl; refine Wo rfl (opv_eql rfl rfl) ?_
                    refine Wo_split_dec rfl (opv_move (v := .bool _) rfl) (fun h4 => ?_) (fun h4 => ?_); refine Wo rfl (opv_move (v := v) rfl) ?_; refine Wo rfl (opv_move (v := .int _ _) rfl) ?_; refine Wo rfl (opv_move (v := .int _ _) rfl) ?_
                    refine Wo_call rfl (opc3 (a := v) (b := .int _ _) (c := .int _ _) Try.call63 rfl rfl rfl) (k1 _ _ ((Mono.mono ((E2.trans E3).trans E5) h))) ?_; rintro _ w6 ⟨rfl, E6⟩; have hs3 := E6.size
                    refine Wo rfl (opv_pick_t (v := .bool _) rfl rfl) ?_; refine Wo_nil ?_; refine W_cond_true rfl ?_; refine W_region rfl ?_; refine Wo rfl (opv_assign (v := .bool _) rfl) ?_; refine Wo_nil ?_; refine W_seq ?_; refine W_region rfl ?_
                    refine Wo rfl (opv_move (v := v) rfl) ?_; refine Wo rfl (opv_move (v := .int _ _) rfl) ?_
                    refine Wo_get Try.underlying22 Try.sizeOf24 Try.isAgg24 rfl (fun _ => rfl) rfl h (((E2.trans E3).trans E5).trans E6) rfl (by first | omega | (simp <;> omega)) ?_; rintro _ u2 hu2; refine Wo rfl (opv_move (v := .int _ _) rfl) ?_
                    refine Wo_get Try.underlying24 Try.sizeOf3 Try.isAgg3 rfl (fun _ => rfl) rfl hu2 (((E2.trans E3).trans E5).trans E6) rfl (by first | omega | (simp <;> omega)) ?_; rintro _ _ rfl; refine Wo rfl (opv_eql rfl rfl) ?_
                    refine Wo_split_dec rfl (opv_move (v := .bool _) rfl) (fun h5 => ?_) (fun h5 => ?_); refine Wo rfl (opv_move (v := v) rfl) ?_; refine Wo rfl (opv_move (v := .int _ _) rfl) ?_; refine Wo rfl (opv_move (v := .int _ _) rfl) ?_
                    refine Wo_call rfl (opc3 (a := v) (b := .int _ _) (c := .int _ _) Try.call63 rfl rfl rfl) (k2 _ _ ((Mono.mono (((E2.trans E3).trans E5).trans E6) h))) ?_; rintro _ w7 ⟨rfl, E7⟩; have hs4 := E7.size
                    refine Wo rfl (opv_pick_t (v := .bool _) rfl rfl) ?_; refine Wo_nil ?_; refine W_cond_false rfl ?_; refine W_skip ?_; refine W_region rfl ?_; refine Wo rfl (opv_move (v := .int _ _) rfl) ?_
                    refine Wo rfl (opv_add rfl rfl (by omega)) ?_; refine Wo rfl (opv_assign (v := .int _ _) rfl) ?_; refine Wo_nil ?_; rotate_left; contradiction; contradiction; (exfalso; omega)
                  refine ⟨((m + 1, true, b)), by repeat (first | exact trivial | refine And.intro rfl ?_), by repeat (first | with_reducible exact Same.refl | refine Same.upd rfl ?_ | refine Same.upds rfl ?_ | refine Same.mix rfl ?_), ?_, ?_⟩
                  · refine ⟨E5.trans (E6.trans E7), by omega, ?_, ?_⟩
                    · rw [hgt, decide_eq_true ha, e1, Bool.and_true, Bool.or_true]
                    · rw [hgb, e2, Bool.and_false, Bool.or_false]
                  · simp only; omega
              · skip
                focus
                  have szE5 := E5.size; have szE4 := E4.size; have szE3 := E3.size; have szE2 := E2.size; have szE1 := E1.size; refine W_seq ?_; refine W_seq ?_; refine W_region rfl ?_; refine Wo rfl (opv_move (v := .int _ _) rfl) ?_
                  refine Wo rfl (opv_move (v := v) rfl) ?_; refine Wo rfl (opv_len Try.underlying22 rfl h) ?_; refine Wo rfl (opv_lss rfl rfl) ?_; refine Wo_nil ?_; refine W_cond_dec rfl (fun h3 => ?_) (fun h3 => ?_); refine W_skip ?_
                  refine W_seq ?_; refine W_block ?_; refine W_seq ?_; refine W_seq ?_; refine W_region rfl ?_; refine Wo rfl (opv_move (v := v) rfl) ?_; refine Wo rfl (opv_move (v := .int _ _) rfl) ?_
                  refine Wo_get Try.underlying22 Try.sizeOf24 Try.isAgg24 rfl (fun _ => rfl) rfl h ((E2.trans E3).trans E5) rfl (by first | omega | (simp <;> omega)) ?_; rintro _ u1 hu1; refine Wo rfl (opv_move (v := .int _ _) rfl) ?_
                  refine Wo_get Try.underlying24 Try.sizeOf3 Try.isAgg3 rfl (fun _ => rfl) rfl hu1 ((E2.trans E3).trans E5) rfl (by first | omega | (simp <;> omega)) ?_; rintro _ _ rfl; refine Wo rfl (opv_eql rfl rfl) ?_
                  refine Wo_split_dec rfl (opv_move (v := .bool _) rfl) (fun h4 => ?_) (fun h4 => ?_); refine Wo rfl (opv_move (v := v) rfl) ?_; refine Wo rfl (opv_move (v := .int _ _) rfl) ?_; refine Wo rfl (opv_move (v := .int _ _) rfl) ?_
                  refine Wo_call rfl (opc3 (a := v) (b := .int _ _) (c := .int _ _) Try.call63 rfl rfl rfl) (k1 _ _ ((Mono.mono ((E2.trans E3).trans E5) h))) ?_; rintro _ w6 ⟨rfl, E6⟩; have hs3 := E6.size
                  refine Wo rfl (opv_pick_t (v := .bool _) rfl rfl) ?_; refine Wo_nil ?_; refine W_cond_true rfl ?_; refine W_region rfl ?_; refine Wo rfl (opv_assign (v := .bool _) rfl) ?_; refine Wo_nil ?_; refine W_seq ?_; refine W_region rfl ?_
                  refine Wo rfl (opv_move (v := v) rfl) ?_; refine Wo rfl (opv_move (v := .int _ _) rfl) ?_
                  refine Wo_get Try.underlying22 Try.sizeOf24 Try.isAgg24 rfl (fun _ => rfl) rfl h (((E2.trans E3).trans E5).trans E6) rfl (by first | omega | (simp <;> omega)) ?_; rintro _ u2 hu2; refine Wo rfl (opv_move (v := .int _ _) rfl) ?_
                  refine Wo_get Try.underlying24 Try.sizeOf3 Try.isAgg3 rfl (fun _ => rfl) rfl hu2 (((E2.trans E3).trans E5).trans E6) rfl (by first | omega | (simp <;> omega)) ?_; rintro _ _ rfl; refine Wo rfl (opv_eql rfl rfl) ?_
                  refine Wo_split_dec rfl (opv_move (v := .bool _) rfl) (fun h5 => ?_) (fun h5 => ?_); contradiction; refine Wo_skip rfl ?_; refine Wo_skip rfl ?_; refine Wo_skip rfl ?_; refine Wo_skip rfl ?_
                  refine Wo rfl (opv_pick_f (v := .bool _) rfl rfl) ?_; refine Wo_nil ?_; refine W_cond_false rfl ?_; refine W_skip ?_; refine W_region rfl ?_; refine Wo rfl (opv_move (v := .int _ _) rfl) ?_
                  refine Wo rfl (opv_add rfl rfl (by omega)) ?_; refine Wo rfl (opv_assign (v := .int _ _) rfl) ?_; refine Wo_nil ?_; rotate_left; contradiction; (exfalso; omega)
                refine ⟨((m + 1, true, b)), by repeat (first | exact trivial | refine And.intro rfl ?_), by repeat (first | with_reducible exact Same.refl | refine Same.upd rfl ?_ | refine Same.upds rfl ?_ | refine Same.mix rfl ?_), ?_, ?_⟩
                · refine ⟨E5.trans E6, by omega, ?_, ?_⟩
                  · rw [hgt, decide_eq_true ha, e1, Bool.and_true, Bool.or_true]
                  · rw [hgb, decide_eq_false hc, Bool.false_and, Bool.or_false]
                · simp only; omega
            | false =>
              have k1 := hr1 _ e1
              by_cases hc : p[n][m] = 1
              · cases e2 : rch p m k with
                | true =>
                  have k2 := hr2 _ e2
                  focus
                    have szE5 := E5.size; have szE4 := E4.size; have szE3 := E3.size; have szE2 := E2.size; have szE1 := E1.size; refine W_seq ?_; refine W_seq ?_; refine W_region rfl ?_; refine Wo rfl (opv_move (v := .int _ _) rfl) ?_
                    refine Wo rfl (opv_move (v := v) rfl) ?_; refine Wo rfl (opv_len Try.underlying22 rfl h) ?_; refine Wo rfl (opv_lss rfl rfl) ?_; refine Wo_nil ?_; refine W_cond_dec rfl (fun h3 => ?_) (fun h3 => ?_); refine W_skip ?_
                    refine W_seq ?_; refine W_block ?_; refine W_seq ?_; refine W_seq ?_; refine W_region rfl ?_; refine Wo rfl (opv_move (v := v) rfl) ?_; refine Wo rfl (opv_move (v := .int _ _) rfl) ?_
                    refine Wo_get Try.underlying22 Try.sizeOf24 Try.isAgg24 rfl (fun _ => rfl) rfl h ((E2.trans E3).trans E5) rfl (by first | omega | (simp <;> omega)) ?_; rintro _ u1 hu1; refine Wo rfl (opv_move (v := .int _ _) rfl) ?_
                    refine Wo_get Try.underlying24 Try.sizeOf3 Try.isAgg3 rfl (fun _ => rfl) rfl hu1 ((E2.trans E3).trans E5) rfl (by first | omega | (simp <;> omega)) ?_; rintro _ _ rfl; refine Wo rfl (opv_eql rfl rfl) ?_
                    refine Wo_split_dec rfl (opv_move (v := .bool _) rfl) (fun h4 => ?_) (fun h4 => ?_); refine Wo rfl (opv_move (v := v) rfl) ?_; refine Wo rfl (opv_move (v := .int _ _) rfl) ?_; refine Wo rfl (opv_move (v := .int _ _) rfl) ?_
                    refine Wo_call rfl (opc3 (a := v) (b := .int _ _) (c := .int _ _) Try.call63 rfl rfl rfl) (k1 _ _ ((Mono.mono ((E2.trans E3).trans E5) h))) ?_; rintro _ w6 ⟨rfl, E6⟩; have hs3 := E6.size
                    refine Wo rfl (opv_pick_t (v := .bool _) rfl rfl) ?_; refine Wo_nil ?_; refine W_cond_false rfl ?_; refine W_skip ?_; refine W_seq ?_; refine W_region rfl ?_; refine Wo rfl (opv_move (v := v) rfl) ?_
                    refine Wo rfl (opv_move (v := .int _ _) rfl) ?_; refine Wo_get Try.underlying22 Try.sizeOf24 Try.isAgg24 rfl (fun _ => rfl) rfl h (((E2.trans E3).trans E5).trans E6) rfl (by first | omega | (simp <;> omega)) ?_; rintro _ u2 hu2
                    refine Wo rfl (opv_move (v := .int _ _) rfl) ?_; refine Wo_get Try.underlying24 Try.sizeOf3 Try.isAgg3 rfl (fun _ => rfl) rfl hu2 (((E2.trans E3).trans E5).trans E6) rfl (by first | omega | (simp <;> omega)) ?_; rintro _ _ rfl
                    refine Wo rfl (opv_eql rfl rfl) ?_; refine Wo_split_dec rfl (opv_move (v := .bool _) rfl) (fun h5 => ?_) (fun h5 => ?_); refine Wo rfl (opv_move (v := v) rfl) ?_; refine Wo rfl (opv_move (v := .int _ _) rfl) ?_
                    refine Wo rfl (opv_move (v := .int _ _) rfl) ?_; refine Wo_call rfl (opc3 (a := v) (b := .int _ _) (c := .int _ _) Try.call63 rfl rfl rfl) (k2 _ _ ((Mono.mono (((E2.trans E3).trans E5).trans E6) h))) ?_; rintro _ w7 ⟨rfl, E7⟩
                    have hs4 := E7.size; refine Wo rfl (opv_pick_t (v := .bool _) rfl rfl) ?_; refine Wo_nil ?_; refine W_cond_true rfl ?_; refine W_region rfl ?_; refine Wo rfl (opv_assign (v := .bool _) rfl) ?_; refine Wo_nil ?_
                    refine W_region rfl ?_; refine Wo rfl (opv_move (v := .int _ _) rfl) ?_; refine Wo rfl (opv_add rfl rfl (by omega)) ?_; refine Wo rfl (opv_assign (v := .int _ _) rfl) ?_; refine Wo_nil ?_; rotate_left; contradiction; contradiction
                    (exfalso; omega)
                  refine ⟨((m + 1, t, true)), by repeat (first | exact trivial | refine And.intro rfl ?_), by repeat (first | with_reducible exact Same.refl | refine Same.upd rfl ?_ | refine Same.upds rfl ?_ | refine Same.mix rfl ?_), ?_, ?_⟩
                  · refine ⟨E5.trans (E6.trans E7), by omega, ?_, ?_⟩
                    · rw [hgt, e1, Bool.and_false, Bool.or_false]
                    · rw [hgb, decide_eq_true hc, e2, Bool.and_true, Bool.or_true]
                  · simp only; omega
                | false =>
                  have k2 := hr2 _ e2
                  focus
                    have szE5 := E5.size; have szE4 := E4.size; have szE3 := E3.size; have szE2 := E2.size; have szE1 := E1.size; refine W_seq ?_; refine W_seq ?_; refine W_region rfl ?_; refine Wo rfl (opv_move (v := .int _ _) rfl) ?_
                    refine Wo rfl (opv_move (v := v) rfl) ?_; refine Wo rfl (opv_len Try.underlying22 rfl h) ?_; refine Wo rfl (opv_lss rfl rfl) ?_; refine Wo_nil ?_; refine W_cond_dec rfl (fun h3 => ?_) (fun h3 => ?_); refine W_skip ?_
                    refine W_seq ?_; refine W_block ?_; refine W_seq ?_; refine W_seq ?_; refine W_region rfl ?_; refine Wo rfl (opv_move (v := v) rfl) ?_; refine Wo rfl (opv_move (v := .int _ _) rfl) ?_
                    refine Wo_get Try.underlying22 Try.sizeOf24 Try.isAgg24 rfl (fun _ => rfl) rfl h ((E2.trans E3).trans E5) rfl (by first | omega | (simp <;> omega)) ?_; rintro _ u1 hu1; refine Wo rfl (opv_move (v := .int _ _) rfl) ?_
                    refine Wo_get Try.underlying24 Try.sizeOf3 Try.isAgg3 rfl (fun _ => rfl) rfl hu1 ((E2.trans E3).trans E5) rfl (by first | omega | (simp <;> omega)) ?_; rintro _ _ rfl; refine Wo rfl (opv_eql rfl rfl) ?_
                    refine Wo_split_dec rfl (opv_move (v := .bool _) rfl) (fun h4 => ?_) (fun h4 => ?_); refine Wo rfl (opv_move (v := v) rfl) ?_; refine Wo rfl (opv_move (v := .int _ _) rfl) ?_; refine Wo rfl (opv_move (v := .int _ _) rfl) ?_
                    refine Wo_call rfl (opc3 (a := v) (b := .int _ _) (c := .int _ _) Try.call63 rfl rfl rfl) (k1 _ _ ((Mono.mono ((E2.trans E3).trans E5) h))) ?_; rintro _ w6 ⟨rfl, E6⟩; have hs3 := E6.size
                    refine Wo rfl (opv_pick_t (v := .bool _) rfl rfl) ?_; refine Wo_nil ?_; refine W_cond_false rfl ?_; refine W_skip ?_; refine W_seq ?_; refine W_region rfl ?_; refine Wo rfl (opv_move (v := v) rfl) ?_
                    refine Wo rfl (opv_move (v := .int _ _) rfl) ?_; refine Wo_get Try.underlying22 Try.sizeOf24 Try.isAgg24 rfl (fun _ => rfl) rfl h (((E2.trans E3).trans E5).trans E6) rfl (by first | omega | (simp <;> omega)) ?_; rintro _ u2 hu2
                    refine Wo rfl (opv_move (v := .int _ _) rfl) ?_; refine Wo_get Try.underlying24 Try.sizeOf3 Try.isAgg3 rfl (fun _ => rfl) rfl hu2 (((E2.trans E3).trans E5).trans E6) rfl (by first | omega | (simp <;> omega)) ?_; rintro _ _ rfl
                    refine Wo rfl (opv_eql rfl rfl) ?_; refine Wo_split_dec rfl (opv_move (v := .bool _) rfl) (fun h5 => ?_) (fun h5 => ?_); refine Wo rfl (opv_move (v := v) rfl) ?_; refine Wo rfl (opv_move (v := .int _ _) rfl) ?_
                    refine Wo rfl (opv_move (v := .int _ _) rfl) ?_; refine Wo_call rfl (opc3 (a := v) (b := .int _ _) (c := .int _ _) Try.call63 rfl rfl rfl) (k2 _ _ ((Mono.mono (((E2.trans E3).trans E5).trans E6) h))) ?_; rintro _ w7 ⟨rfl, E7⟩
                    have hs4 := E7.size; refine Wo rfl (opv_pick_t (v := .bool _) rfl rfl) ?_; refine Wo_nil ?_; refine W_cond_false rfl ?_; refine W_skip ?_; refine W_region rfl ?_; refine Wo rfl (opv_move (v := .int _ _) rfl) ?_
                    refine Wo rfl (opv_add rfl rfl (by omega)) ?_; refine Wo rfl (opv_assign (v := .int _ _) rfl) ?_; refine Wo_nil ?_; rotate_left; contradiction; contradiction; (exfalso; omega)
                  refine ⟨((m + 1, t, b)), by repeat (first | exact trivial | refine And.intro rfl ?_), by repeat (first | with_reducible exact Same.refl | refine Same.upd rfl ?_ | refine Same.upds rfl ?_ | refine Same.mix rfl ?_), ?_, ?_⟩
                  · refine ⟨E5.trans (E6.trans E7), by omega, ?_, ?_⟩
                    · rw [hgt, e1, Bool.and_false, Bool.or_false]
                    · rw [hgb, e2, Bool.and_false, Bool.or_false]
                  · simp only; omega
              · skip
                focus
                  have szE5 := E5.size; have szE4 := E4.size; have szE3 := E3.size; have szE2 := E2.size; have szE1 := E1.size; refine W_seq ?_; refine W_seq ?_; refine W_region rfl ?_; refine Wo rfl (opv_move (v := .int _ _) rfl) ?_
                  refine Wo rfl (opv_move (v := v) rfl) ?_; refine Wo rfl (opv_len Try.underlying22 rfl h) ?_; refine Wo rfl (opv_lss rfl rfl) ?_; refine Wo_nil ?_; refine W_cond_dec rfl (fun h3 => ?_) (fun h3 => ?_); refine W_skip ?_
                  refine W_seq ?_; refine W_block ?_; refine W_seq ?_; refine W_seq ?_; refine W_region rfl ?_; refine Wo rfl (opv_move (v := v) rfl) ?_; refine Wo rfl (opv_move (v := .int _ _) rfl) ?_
                  refine Wo_get Try.underlying22 Try.sizeOf24 Try.isAgg24 rfl (fun _ => rfl) rfl h ((E2.trans E3).trans E5) rfl (by first | omega | (simp <;> omega)) ?_; rintro _ u1 hu1; refine Wo rfl (opv_move (v := .int _ _) rfl) ?_
                  refine Wo_get Try.underlying24 Try.sizeOf3 Try.isAgg3 rfl (fun _ => rfl) rfl hu1 ((E2.trans E3).trans E5) rfl (by first | omega | (simp <;> omega)) ?_; rintro _ _ rfl; refine Wo rfl (opv_eql rfl rfl) ?_
                  refine Wo_split_dec rfl (opv_move (v := .bool _) rfl) (fun h4 => ?_) (fun h4 => ?_); refine Wo rfl (opv_move (v := v) rfl) ?_; refine Wo rfl (opv_move (v := .int _ _) rfl) ?_; refine Wo rfl (opv_move (v := .int _ _) rfl) ?_
                  refine Wo_call rfl (opc3 (a := v) (b := .int _ _) (c := .int _ _) Try.call63 rfl rfl rfl) (k1 _ _ ((Mono.mono ((E2.trans E3).trans E5) h))) ?_; rintro _ w6 ⟨rfl, E6⟩; have hs3 := E6.size
                  refine Wo rfl (opv_pick_t (v := .bool _) rfl rfl) ?_; refine Wo_nil ?_; refine W_cond_false rfl ?_; refine W_skip ?_; refine W_seq ?_; refine W_region rfl ?_; refine Wo rfl (opv_move (v := v) rfl) ?_
                  refine Wo rfl (opv_move (v := .int _ _) rfl) ?_; refine Wo_get Try.underlying22 Try.sizeOf24 Try.isAgg24 rfl (fun _ => rfl) rfl h (((E2.trans E3).trans E5).trans E6) rfl (by first | omega | (simp <;> omega)) ?_; rintro _ u2 hu2
                  refine Wo rfl (opv_move (v := .int _ _) rfl) ?_; refine Wo_get Try.underlying24 Try.sizeOf3 Try.isAgg3 rfl (fun _ => rfl) rfl hu2 (((E2.trans E3).trans E5).trans E6) rfl (by first | omega | (simp <;> omega)) ?_; rintro _ _ rfl
                  refine Wo rfl (opv_eql rfl rfl) ?_; refine Wo_split_dec rfl (opv_move (v := .bool _) rfl) (fun h5 => ?_) (fun h5 => ?_); contradiction; refine Wo_skip rfl ?_; refine Wo_skip rfl ?_; refine Wo_skip rfl ?_; refine Wo_skip rfl ?_
                  refine Wo rfl (opv_pick_f (v := .bool _) rfl rfl) ?_; refine Wo_nil ?_; refine W_cond_false rfl ?_; refine W_skip ?_; refine W_region rfl ?_; refine Wo rfl (opv_move (v := .int _ _) rfl) ?_
                  refine Wo rfl (opv_add rfl rfl (by omega)) ?_; refine Wo rfl (opv_assign (v := .int _ _) rfl) ?_; refine Wo_nil ?_; rotate_left; contradiction; (exfalso; omega)
                refine ⟨((m + 1, t, b)), by repeat (first | exact trivial | refine And.intro rfl ?_), by repeat (first | with_reducible exact Same.refl | refine Same.upd rfl ?_ | refine Same.upds rfl ?_ | refine Same.mix rfl ?_), ?_, ?_⟩
                · refine ⟨E5.trans E6, by omega, ?_, ?_⟩
                  · rw [hgt, e1, Bool.and_false, Bool.or_false]
                  · rw [hgb, decide_eq_false hc, Bool.false_and, Bool.or_false]
                · simp only; omega
          · skip
            by_cases hc : p[n][m] = 1
            · cases e2 : rch p m k with
              | true =>
                have k2 := hr2 _ e2
                focus
                  have szE5 := E5.size; have szE4 := E4.size; have szE3 := E3.size; have szE2 := E2.size; have szE1 := E1.size; refine W_seq ?_; refine W_seq ?_; refine W_region rfl ?_; refine Wo rfl (opv_move (v := .int _ _) rfl) ?_
                  refine Wo rfl (opv_move (v := v) rfl) ?_; refine Wo rfl (opv_len Try.underlying22 rfl h) ?_; refine Wo rfl (opv_lss rfl rfl) ?_; refine Wo_nil ?_; refine W_cond_dec rfl (fun h3 => ?_) (fun h3 => ?_); refine W_skip ?_
                  refine W_seq ?_; refine W_block ?_; refine W_seq ?_; refine W_seq ?_; refine W_region rfl ?_; refine Wo rfl (opv_move (v := v) rfl) ?_; refine Wo rfl (opv_move (v := .int _ _) rfl) ?_
                  refine Wo_get Try.underlying22 Try.sizeOf24 Try.isAgg24 rfl (fun _ => rfl) rfl h ((E2.trans E3).trans E5) rfl (by first | omega | (simp <;> omega)) ?_; rintro _ u1 hu1; refine Wo rfl (opv_move (v := .int _ _) rfl) ?_
                  refine Wo_get Try.underlying24 Try.sizeOf3 Try.isAgg3 rfl (fun _ => rfl) rfl hu1 ((E2.trans E3).trans E5) rfl (by first | omega | (simp <;> omega)) ?_; rintro _ _ rfl; refine Wo rfl (opv_eql rfl rfl) ?_
                  refine Wo_split_dec rfl (opv_move (v := .bool _) rfl) (fun h4 => ?_) (fun h4 => ?_); contradiction; refine Wo_skip rfl ?_; refine Wo_skip rfl ?_; refine Wo_skip rfl ?_; refine Wo_skip rfl ?_
                  refine Wo rfl (opv_pick_f (v := .bool _) rfl rfl) ?_; refine Wo_nil ?_; refine W_cond_false rfl ?_; refine W_skip ?_; refine W_seq ?_; refine W_region rfl ?_; refine Wo rfl (opv_move (v := v) rfl) ?_
                  refine Wo rfl (opv_move (v := .int _ _) rfl) ?_; refine Wo_get Try.underlying22 Try.sizeOf24 Try.isAgg24 rfl (fun _ => rfl) rfl h ((E2.trans E3).trans E5) rfl (by first | omega | (simp <;> omega)) ?_; rintro _ u2 hu2
                  refine Wo rfl (opv_move (v := .int _ _) rfl) ?_; refine Wo_get Try.underlying24 Try.sizeOf3 Try.isAgg3 rfl (fun _ => rfl) rfl hu2 ((E2.trans E3).trans E5) rfl (by first | omega | (simp <;> omega)) ?_; rintro _ _ rfl
                  refine Wo rfl (opv_eql rfl rfl) ?_; refine Wo_split_dec rfl (opv_move (v := .bool _) rfl) (fun h5 => ?_) (fun h5 => ?_); refine Wo rfl (opv_move (v := v) rfl) ?_; refine Wo rfl (opv_move (v := .int _ _) rfl) ?_
                  refine Wo rfl (opv_move (v := .int _ _) rfl) ?_; refine Wo_call rfl (opc3 (a := v) (b := .int _ _) (c := .int _ _) Try.call63 rfl rfl rfl) (k2 _ _ ((Mono.mono ((E2.trans E3).trans E5) h))) ?_; rintro _ w6 ⟨rfl, E6⟩
                  have hs3 := E6.size; refine Wo rfl (opv_pick_t (v := .bool _) rfl rfl) ?_; refine Wo_nil ?_; refine W_cond_true rfl ?_; refine W_region rfl ?_; refine Wo rfl (opv_assign (v := .bool _) rfl) ?_; refine Wo_nil ?_
                  refine W_region rfl ?_; refine Wo rfl (opv_move (v := .int _ _) rfl) ?_; refine Wo rfl (opv_add rfl rfl (by omega)) ?_; refine Wo rfl (opv_assign (v := .int _ _) rfl) ?_; refine Wo_nil ?_; rotate_left; contradiction
                  (exfalso; omega)
                refine ⟨((m + 1, t, true)), by repeat (first | exact trivial | refine And.intro rfl ?_), by repeat (first | with_reducible exact Same.refl | refine Same.upd rfl ?_ | refine Same.upds rfl ?_ | refine Same.mix rfl ?_), ?_, ?_⟩
                · refine ⟨E5.trans E6, by omega, ?_, ?_⟩
                  · rw [hgt, decide_eq_false ha, Bool.false_and, Bool.or_false]
                  · rw [hgb, decide_eq_true hc, e2, Bool.and_true, Bool.or_true]
                · simp only; omega
              | false =>
                have k2 := hr2 _ e2
                focus
                  have szE5 := E5.size; have szE4 := E4.size; have szE3 := E3.size; have szE2 := E2.size; have szE1 := E1.size; refine W_seq ?_; refine W_seq ?_; refine W_region rfl ?_; refine Wo rfl (opv_move (v := .int _ _) rfl) ?_
                  refine Wo rfl (opv_move (v := v) rfl) ?_; refine Wo rfl (opv_len Try.underlying22 rfl h) ?_; refine Wo rfl (opv_lss rfl rfl) ?_; refine Wo_nil ?_; refine W_cond_dec rfl (fun h3 => ?_) (fun h3 => ?_); refine W_skip ?_
                  refine W_seq ?_; refine W_block ?_; refine W_seq ?_; refine W_seq ?_; refine W_region rfl ?_; refine Wo rfl (opv_move (v := v) rfl) ?_; refine Wo rfl (opv_move (v := .int _ _) rfl) ?_
                  refine Wo_get Try.underlying22 Try.sizeOf24 Try.isAgg24 rfl (fun _ => rfl) rfl h ((E2.trans E3).trans E5) rfl (by first | omega | (simp <;> omega)) ?_; rintro _ u1 hu1; refine Wo rfl (opv_move (v := .int _ _) rfl) ?_
                  refine Wo_get Try.underlying24 Try.sizeOf3 Try.isAgg3 rfl (fun _ => rfl) rfl hu1 ((E2.trans E3).trans E5) rfl (by first | omega | (simp <;> omega)) ?_; rintro _ _ rfl; refine Wo rfl (opv_eql rfl rfl) ?_
                  refine Wo_split_dec rfl (opv_move (v := .bool _) rfl) (fun h4 => ?_) (fun h4 => ?_); contradiction; refine Wo_skip rfl ?_; refine Wo_skip rfl ?_; refine Wo_skip rfl ?_; refine Wo_skip rfl ?_
                  refine Wo rfl (opv_pick_f (v := .bool _) rfl rfl) ?_; refine Wo_nil ?_; refine W_cond_false rfl ?_; refine W_skip ?_; refine W_seq ?_; refine W_region rfl ?_; refine Wo rfl (opv_move (v := v) rfl) ?_
                  refine Wo rfl (opv_move (v := .int _ _) rfl) ?_; refine Wo_get Try.underlying22 Try.sizeOf24 Try.isAgg24 rfl (fun _ => rfl) rfl h ((E2.trans E3).trans E5) rfl (by first | omega | (simp <;> omega)) ?_; rintro _ u2 hu2
                  refine Wo rfl (opv_move (v := .int _ _) rfl) ?_; refine Wo_get Try.underlying24 Try.sizeOf3 Try.isAgg3 rfl (fun _ => rfl) rfl hu2 ((E2.trans E3).trans E5) rfl (by first | omega | (simp <;> omega)) ?_; rintro _ _ rfl
                  refine Wo rfl (opv_eql rfl rfl) ?_; refine Wo_split_dec rfl (opv_move (v := .bool _) rfl) (fun h5 => ?_) (fun h5 => ?_); refine Wo rfl (opv_move (v := v) rfl) ?_; refine Wo rfl (opv_move (v := .int _ _) rfl) ?_
                  refine Wo rfl (opv_move (v := .int _ _) rfl) ?_; refine Wo_call rfl (opc3 (a := v) (b := .int _ _) (c := .int _ _) Try.call63 rfl rfl rfl) (k2 _ _ ((Mono.mono ((E2.trans E3).trans E5) h))) ?_; rintro _ w6 ⟨rfl, E6⟩
                  have hs3 := E6.size; refine Wo rfl (opv_pick_t (v := .bool _) rfl rfl) ?_; refine Wo_nil ?_; refine W_cond_false rfl ?_; refine W_skip ?_; refine W_region rfl ?_; refine Wo rfl (opv_move (v := .int _ _) rfl) ?_
                  refine Wo rfl (opv_add rfl rfl (by omega)) ?_; refine Wo rfl (opv_assign (v := .int _ _) rfl) ?_; refine Wo_nil ?_; rotate_left; contradiction; (exfalso; omega)
                refine ⟨((m + 1, t, b)), by repeat (first | exact trivial | refine And.intro rfl ?_), by repeat (first | with_reducible exact Same.refl | refine Same.upd rfl ?_ | refine Same.upds rfl ?_ | refine Same.mix rfl ?_), ?_, ?_⟩
                · refine ⟨E5.trans E6, by omega, ?_, ?_⟩
                  · rw [hgt, decide_eq_false ha, Bool.false_and, Bool.or_false]
                  · rw [hgb, e2, Bool.and_false, Bool.or_false]
                · simp only; omega
            · skip
              focus
                have szE5 := E5.size; have szE4 := E4.size; have szE3 := E3.size; have szE2 := E2.size; have szE1 := E1.size; refine W_seq ?_; refine W_seq ?_; refine W_region rfl ?_; refine Wo rfl (opv_move (v := .int _ _) rfl) ?_
                refine Wo rfl (opv_move (v := v) rfl) ?_; refine Wo rfl (opv_len Try.underlying22 rfl h) ?_; refine Wo rfl (opv_lss rfl rfl) ?_; refine Wo_nil ?_; refine W_cond_dec rfl (fun h3 => ?_) (fun h3 => ?_); refine W_skip ?_
                refine W_seq ?_; refine W_block ?_; refine W_seq ?_; refine W_seq ?_; refine W_region rfl ?_; refine Wo rfl (opv_move (v := v) rfl) ?_; refine Wo rfl (opv_move (v := .int _ _) rfl) ?_
                refine Wo_get Try.underlying22 Try.sizeOf24 Try.isAgg24 rfl (fun _ => rfl) rfl h ((E2.trans E3).trans E5) rfl (by first | omega | (simp <;> omega)) ?_; rintro _ u1 hu1; refine Wo rfl (opv_move (v := .int _ _) rfl) ?_
                refine Wo_get Try.underlying24 Try.sizeOf3 Try.isAgg3 rfl (fun _ => rfl) rfl hu1 ((E2.trans E3).trans E5) rfl (by first | omega | (simp <;> omega)) ?_; rintro _ _ rfl; refine Wo rfl (opv_eql rfl rfl) ?_
                refine Wo_split_dec rfl (opv_move (v := .bool _) rfl) (fun h4 => ?_) (fun h4 => ?_); contradiction; refine Wo_skip rfl ?_; refine Wo_skip rfl ?_; refine Wo_skip rfl ?_; refine Wo_skip rfl ?_
                refine Wo rfl (opv_pick_f (v := .bool _) rfl rfl) ?_; refine Wo_nil ?_; refine W_cond_false rfl ?_; refine W_skip ?_; refine W_seq ?_; refine W_region rfl ?_; refine Wo rfl (opv_move (v := v) rfl) ?_
                refine Wo rfl (opv_move (v := .int _ _) rfl) ?_; refine Wo_get Try.underlying22 Try.sizeOf24 Try.isAgg24 rfl (fun _ => rfl) rfl h ((E2.trans E3).trans E5) rfl (by first | omega | (simp <;> omega)) ?_; rintro _ u2 hu2
                refine Wo rfl (opv_move (v := .int _ _) rfl) ?_; refine Wo_get Try.underlying24 Try.sizeOf3 Try.isAgg3 rfl (fun _ => rfl) rfl hu2 ((E2.trans E3).trans E5) rfl (by first | omega | (simp <;> omega)) ?_; rintro _ _ rfl
                refine Wo rfl (opv_eql rfl rfl) ?_; refine Wo_split_dec rfl (opv_move (v := .bool _) rfl) (fun h5 => ?_) (fun h5 => ?_); contradiction; refine Wo_skip rfl ?_; refine Wo_skip rfl ?_; refine Wo_skip rfl ?_; refine Wo_skip rfl ?_
                refine Wo rfl (opv_pick_f (v := .bool _) rfl rfl) ?_; refine Wo_nil ?_; refine W_cond_false rfl ?_; refine W_skip ?_; refine W_region rfl ?_; refine Wo rfl (opv_move (v := .int _ _) rfl) ?_
                refine Wo rfl (opv_add rfl rfl (by omega)) ?_; refine Wo rfl (opv_assign (v := .int _ _) rfl) ?_; refine Wo_nil ?_; rotate_left; (exfalso; omega)
              refine ⟨((m + 1, t, b)), by repeat (first | exact trivial | refine And.intro rfl ?_), by repeat (first | with_reducible exact Same.refl | refine Same.upd rfl ?_ | refine Same.upds rfl ?_ | refine Same.mix rfl ?_), ?_, ?_⟩
              · refine ⟨E5, by omega, ?_, ?_⟩
                · rw [hgt, decide_eq_false ha, Bool.false_and, Bool.or_false]
                · rw [hgb, decide_eq_false hc, Bool.false_and, Bool.or_false]
              · simp only; omega
        · obtain rfl : m = p.length := by omega
          rw [← thr_any hp hkl] at ht
          rw [← thr_any hp hn] at hb
          have hlb : lpB p k n = (t && b) := by unfold lpB; rw [← ht, ← hb]
          clear ht hb
          cases t with
          | true =>
            cases b with
            | true =>
              focus
                have szE5 := E5.size; have szE4 := E4.size; have szE3 := E3.size; have szE2 := E2.size; have szE1 := E1.size; refine W_seq ?_; refine W_seq ?_; refine W_region rfl ?_; refine Wo rfl (opv_move (v := .int _ _) rfl) ?_
                refine Wo rfl (opv_move (v := v) rfl) ?_; refine Wo rfl (opv_len Try.underlying22 rfl h) ?_; refine Wo rfl (opv_lss rfl rfl) ?_; refine Wo_nil ?_; refine W_cond_dec rfl (fun h3 => ?_) (fun h3 => ?_); (exfalso; omega)
                refine W_exit ?_; refine exitX_same ?_; refine W_seq ?_; refine W_region rfl ?_; refine Wo rfl (opv_move (v := .bool _) rfl) ?_; refine Wo rfl (opv_move (v := .bool _) rfl) ?_; refine Wo rfl (opv_move (v := .bool _) rfl) ?_
                refine Wo rfl (opv_pick_t (v := .bool _) rfl rfl) ?_; refine Wo_nil ?_; refine W_cond_true rfl ?_; refine W_region rfl ?_; refine Wo rfl (opv_move (v := .int _ _) rfl) ?_; refine Wo rfl (opv_assign (v := .int _ _) rfl) ?_
                refine Wo_nil ?_; refine W_region rfl ?_; refine Wo rfl (opv_move (v := .int _ _) rfl) ?_; refine Wo rfl (opv_sub rfl rfl (by omega)) ?_; refine Wo rfl (opv_assign (v := .int _ _) rfl) ?_; refine Wo_nil ?_
              refine ⟨(((n : Int) - 1, (n : Int))), by repeat (first | exact trivial | refine And.intro rfl ?_), by repeat (first | with_reducible exact Same.refl | refine Same.upd rfl ?_ | refine Same.upds rfl ?_ | refine Same.mix rfl ?_), ?_, ?_⟩
              · exact ⟨E5, by omega, by omega, isL_yes (best := best) hn hlb⟩
              · simp only; omega
            | false =>
              focus
                have szE5 := E5.size; have szE4 := E4.size; have szE3 := E3.size; have szE2 := E2.size; have szE1 := E1.size; refine W_seq ?_; refine W_seq ?_; refine W_region rfl ?_; refine Wo rfl (opv_move (v := .int _ _) rfl) ?_
                refine Wo rfl (opv_move (v := v) rfl) ?_; refine Wo rfl (opv_len Try.underlying22 rfl h) ?_; refine Wo rfl (opv_lss rfl rfl) ?_; refine Wo_nil ?_; refine W_cond_dec rfl (fun h3 => ?_) (fun h3 => ?_); (exfalso; omega)
                refine W_exit ?_; refine exitX_same ?_; refine W_seq ?_; refine W_region rfl ?_; refine Wo rfl (opv_move (v := .bool _) rfl) ?_; refine Wo rfl (opv_move (v := .bool _) rfl) ?_; refine Wo rfl (opv_move (v := .bool _) rfl) ?_
                refine Wo rfl (opv_pick_t (v := .bool _) rfl rfl) ?_; refine Wo_nil ?_; refine W_cond_false rfl ?_; refine W_skip ?_; refine W_region rfl ?_; refine Wo rfl (opv_move (v := .int _ _) rfl) ?_
                refine Wo rfl (opv_sub rfl rfl (by omega)) ?_; refine Wo rfl (opv_assign (v := .int _ _) rfl) ?_; refine Wo_nil ?_
              refine ⟨(((n : Int) - 1, best)), by repeat (first | exact trivial | refine And.intro rfl ?_), by repeat (first | with_reducible exact Same.refl | refine Same.upd rfl ?_ | refine Same.upds rfl ?_ | refine Same.mix rfl ?_), ?_, ?_⟩
              · exact ⟨E5, by omega, by omega, isL_no hL hlb⟩
              · simp only; omega
          | false =>
            focus
              have szE5 := E5.size; have szE4 := E4.size; have szE3 := E3.size; have szE2 := E2.size; have szE1 := E1.size; refine W_seq ?_; refine W_seq ?_; refine W_region rfl ?_; refine Wo rfl (opv_move (v := .int _ _) rfl) ?_
              refine Wo rfl (opv_move (v := v) rfl) ?_; refine Wo rfl (opv_len Try.underlying22 rfl h) ?_; refine Wo rfl (opv_lss rfl rfl) ?_; refine Wo_nil ?_; refine W_cond_dec rfl (fun h3 => ?_) (fun h3 => ?_); (exfalso; omega)
              refine W_exit ?_; refine exitX_same ?_; refine W_seq ?_; refine W_region rfl ?_; refine Wo rfl (opv_move (v := .bool _) rfl) ?_; refine Wo rfl (opv_move (v := .bool _) rfl) ?_; refine Wo_skip rfl ?_
              refine Wo rfl (opv_pick_f (v := .bool _) rfl rfl) ?_; refine Wo_nil ?_; refine W_cond_false rfl ?_; refine W_skip ?_; refine W_region rfl ?_; refine Wo rfl (opv_move (v := .int _ _) rfl) ?_
              refine Wo rfl (opv_sub rfl rfl (by omega)) ?_; refine Wo rfl (opv_assign (v := .int _ _) rfl) ?_; refine Wo_nil ?_
            refine ⟨(((n : Int) - 1, best)), by repeat (first | exact trivial | refine And.intro rfl ?_), by repeat (first | with_reducible exact Same.refl | refine Same.upd rfl ?_ | refine Same.upds rfl ?_ | refine Same.mix rfl ?_), ?_, ?_⟩
            · exact ⟨E5, by omega, by omega, isL_no hL hlb⟩
            · simp only; omega
      · obtain rfl : j = -1 := by omega
        have hbe := isL_end hL
        subst hbe
        focus
          have szE4 := E4.size; have szE3 := E3.size; have szE2 := E2.size; have szE1 := E1.size; refine W_seq ?_; refine W_seq ?_; refine W_region rfl ?_; refine Wo rfl (opv_move (v := .int _ _) rfl) ?_; refine Wo rfl (opv_geq rfl rfl) ?_
          refine Wo_nil ?_; refine W_cond_dec rfl (fun h2 => ?_) (fun h2 => ?_); contradiction; refine W_exit ?_; refine exitX_same ?_; refine W_region rfl ?_; refine Wo rfl (opv_move (v := u) rfl) ?_
          refine Wo rfl (opv_move (v := .int _ _) rfl) ?_; refine Wo_buildSliceH (ps := [(0, .int _ _)]) (cs := [_]) rfl Try.underlying24 Try.sizeOf3 Try.zeroValue3 rfl rfl rfl rfl ?_; rintro b2 w5 hb2 E5 hB1 hHb2; have hlb2 := hB1.lt
          have hs3 := E5.size; refine Wo_app1 rfl el24 rfl rfl hB1 (hO2.toB.ext ((E3.trans E4).trans E5)) Owned.int (Nat.le_refl _) (by first | omega | (simp <;> omega)) (by omega) (by omega) (((E2.trans E3).trans E4).trans E5) (by omega) ?_
          have hT1 := (hO2.toB.ext ((E3.trans E4).trans E5)); rintro v1 w6 hO2 E6 M1; have hB1 := hB1.moves M1 hT1 (by omega); have hs4 := E6.size; refine Wo rfl (opv_assign (v := v1) rfl) ?_; refine Wo_nil ?_; refine W_region rfl ?_
          refine Wo rfl (opv_move (v := .int _ _) rfl) ?_; refine Wo rfl (opv_add rfl rfl (by omega)) ?_; refine Wo rfl (opv_assign (v := .int _ _) rfl) ?_; refine Wo_nil ?_
        refine ⟨((k + 1, v1)), by repeat (first | exact trivial | refine And.intro rfl ?_), by repeat (first | with_reducible exact Same.refl | refine Same.upd rfl ?_ | refine Same.upds rfl ?_ | refine Same.mix rfl ?_), ?_, ?_⟩
        · exact ⟨by assumption, by omega, by rw [hsn]; assumption⟩
        · simp only; omega
    · obtain rfl : k = p.length := by omega
      focus
        have szE2 := E2.size; have szE1 := E1.size; refine W_seq ?_; refine W_seq ?_; refine W_region rfl ?_; refine Wo rfl (opv_move (v := .int _ _) rfl) ?_; refine Wo rfl (opv_move (v := v) rfl) ?_
        refine Wo rfl (opv_len Try.underlying22 rfl h) ?_; refine Wo rfl (opv_lss rfl rfl) ?_; refine Wo_split_dec rfl (opv_move (v := .bool _) rfl) (fun h1 => ?_) (fun h1 => ?_); (exfalso; omega); refine Wo_skip rfl ?_
        refine Wo_skip rfl ?_; refine Wo rfl (opv_pick_f (v := .bool _) rfl rfl) ?_; refine Wo_nil ?_; refine W_cond_false rfl ?_; refine W_exit ?_; refine exitX_same ?_; refine W_seq ?_; refine W_region rfl ?_
        refine Wo rfl (opv_move (v := u) rfl) ?_; refine Wo rfl (opv_assign (v := u) rfl) ?_; refine Wo_nil ?_; refine W_ret ?_; exact ⟨E2, hO2.toB.o.mono (by omega)⟩
  · have hpic : ∀ (w : World) (pv : Value), ESl Ints w pv p → Does Try.prog 28 [pv] w (Ret w (.bool false)) := fun w pv h => by
      have := PictureOk_ok w pv p h
      rw [decide_eq_false hp] at this; exact this
    have hV : lpsV p = [] := if_neg hp
    rw [hV]
    refine fn_of_W1 Try.func33 rfl Try.results33 Try.ntmps33 rfl ?_
    focus
      refine W_seq ?_; refine W_region rfl ?_; refine Wo rfl (opv_assign (v := .slice _ _ _) rfl) ?_; refine Wo_nil ?_; refine W_seq ?_; refine W_region rfl ?_; refine Wo_lit0 XInt rfl el24 Try.sizeOf3 ?_; rintro b1 w1 hb1 b1lt E1 hO1
      have hs1 := E1.size; refine Wo rfl (opv_assign (v := .slice _ _ _) rfl) ?_; refine Wo_nil ?_; refine W_seq ?_; refine W_seq ?_; refine W_region rfl ?_; refine Wo rfl (opv_assign (v := .int _ _) rfl) ?_; refine Wo_nil ?_
      refine W_block ?_
    refine W_loop [3, 4, 5, 6, 7, 8, 9, 11, 12, 13, 14, 15, 16, 17, 18, 19, 20, 21, 22, 23, 24, 25, 26, 27, 28, 29, 30, 31, 32, 33, 34, 35, 36, 37, 38, 39, 40, 41, 42, 43, 44, 45, 46, 47, 48, 49, 50, 51, 52, 53, 54, 55, 56, 57, 58, 59, 60, 61, 62, 63, 64, 65, 66, 67, 68, 69, 70] (fun ((k : Nat), u) => [(4, .int .i64 (k : Nat)), (3, u)]) (fun (k, u) w' => Ext w w' ∧ k = 0 ∧ Owned w.heap.size XI w' u []) (fun x => x.1) (0, .slice (some ⟨b1, 0, none⟩) 0 0) (by repeat (first | exact trivial | refine And.intro rfl ?_)) ?_ ?_
    · exact ⟨by assumption, rfl, hO1⟩
    rintro ⟨k, u⟩ ρj w2 ⟨E2, rfl, hO2⟩
    focus
      have szE2 := E2.size; have szE1 := E1.size; refine W_seq ?_; refine W_seq ?_; refine W_region rfl ?_; refine Wo rfl (opv_move (v := .int _ _) rfl) ?_; refine Wo rfl (opv_move (v := v) rfl) ?_
      refine Wo rfl (opv_len Try.underlying22 rfl h) ?_; refine Wo rfl (opv_lss rfl rfl) ?_; refine Wo_split_dec rfl (opv_move (v := .bool _) rfl) (fun h1 => ?_) (fun h1 => ?_); refine Wo rfl (opv_move (v := v) rfl) ?_
      refine Wo_call rfl (opc1 (a := v) Try.call28 rfl) (hpic _ _ ((Mono.mono E2 h))) ?_; rintro _ w3 ⟨rfl, E3⟩; have hs2 := E3.size; refine Wo rfl (opv_pick_t (v := .bool _) rfl rfl) ?_; refine Wo_nil ?_; refine W_cond_false rfl ?_
      refine W_exit ?_; refine exitX_same ?_; refine W_seq ?_; refine W_region rfl ?_; refine Wo rfl (opv_move (v := u) rfl) ?_; refine Wo rfl (opv_assign (v := u) rfl) ?_; refine Wo_nil ?_; refine W_ret ?_
      exact ⟨(E2.trans E3), (hO2.toB.ext E3).o.mono (by omega)⟩; refine Wo_skip rfl ?_; refine Wo_skip rfl ?_; refine Wo rfl (opv_pick_f (v := .bool _) rfl rfl) ?_; refine Wo_nil ?_; refine W_cond_false rfl ?_; refine W_exit ?_
      refine exitX_same ?_; refine W_seq ?_; refine W_region rfl ?_; refine Wo rfl (opv_move (v := u) rfl) ?_; refine Wo rfl (opv_assign (v := u) rfl) ?_; refine Wo_nil ?_; refine W_ret ?_; exact ⟨E2, hO2.toB.o.mono (by omega)⟩

theorem loopsOf_ok (w : World) (v : Value) (p : List (List Int)) (h : ESl Ints w v p) (hp : Pic p) : Does Try.prog 64 [v] w (RetO w XI (lpsV p)) := by
  have hle := h.le
  have hV : lpsV p = (List.range p.length).map (lpV p) := if_pos hp
  have hp5 := hp.2.1
  rw [hV]
  refine fn_of_W1 Try.func64 rfl Try.results64 Try.ntmps64 rfl ?_
  focus
    refine W_seq ?_; refine W_region rfl ?_; refine Wo rfl (opv_assign (v := .slice _ _ _) rfl) ?_; refine Wo_nil ?_; refine W_seq ?_; refine W_region rfl ?_; refine Wo_lit0 XInt rfl el24 Try.sizeOf3 ?_; rintro b1 w1 hb1 b1lt E1 hO1
    have hs1 := E1.size; refine Wo rfl (opv_assign (v := .slice _ _ _) rfl) ?_; refine Wo_nil ?_; refine W_seq ?_; refine W_seq ?_; refine W_region rfl ?_; refine Wo rfl (opv_move (v := v) rfl) ?_
    refine Wo rfl (opv_len Try.underlying22 rfl h) ?_; refine Wo rfl (opv_move (v := .int _ _) rfl) ?_; refine Wo_nil ?_; refine W_block ?_
  refine W_loop [3, 4, 5, 7, 11, 12, 13, 14, 15, 16, 17, 18, 19, 20, 21, 22, 23, 24, 25, 26, 27, 28, 29, 30, 31, 32, 33, 34, 35, 36] (fun (k, u) => [(11, .int .i64 (k : Nat)), (3, u)]) (fun (k, u) w' => Ext w w' ∧ k ≤ p.length ∧ Owned w.heap.size XI w' u ((List.range k).map (lpV p))) (fun x => p.length - x.1) (0, .slice (some ⟨b1, 0, none⟩) 0 0) (by repeat (first | exact trivial | refine And.intro rfl ?_)) ?_ ?_
  · exact ⟨by assumption, Nat.zero_le _, by simpa using hO1⟩
  rintro ⟨k, u⟩ ρj w2 ⟨E2, hk, hO2⟩
  have hll : ((List.range k).map (lpV p)).length = k := by simp
  by_cases hkl : k < p.length
  · have hsn := map_snoc p k
    have hon : ∀ x, onl p k = x → ∀ (w : World) (pv : Value), ESl Ints w pv p → Does Try.prog 75 [pv, .int .i64 (k : Int)] w (Ret w (.bool x)) := fun x e w pv h => e ▸ onLoop_ok w pv p h hp k hkl
    cases ho : onl p k with
    | false =>
      have k1 := hon _ ho
      have hz := lpV_off hp hkl ho
      rw [hz] at hsn
      focus
        have szE2 := E2.size; have szE1 := E1.size; refine W_seq ?_; refine W_region rfl ?_; refine Wo rfl (opv_lss rfl rfl) ?_; refine Wo_nil ?_; refine W_seq ?_; refine W_cond_dec rfl (fun h1 => ?_) (fun h1 => ?_); refine W_skip ?_
        refine W_seq ?_; refine W_block ?_; refine W_seq ?_; refine W_region rfl ?_; refine Wo rfl (opv_move (v := .int _ _) rfl) ?_; refine Wo rfl (opv_assign (v := .int _ _) rfl) ?_; refine Wo_nil ?_; refine W_seq ?_
        refine W_region rfl ?_; refine Wo rfl (opv_assign (v := .int _ _) rfl) ?_; refine Wo_nil ?_; refine W_seq ?_; refine W_seq ?_; refine W_region rfl ?_; refine Wo rfl (opv_move (v := v) rfl) ?_
        refine Wo rfl (opv_move (v := .int _ _) rfl) ?_; refine Wo_call rfl (opc2 (a := v) (b := .int _ _) Try.call75 rfl rfl) (k1 _ _ ((Mono.mono E2 h))) ?_; rintro _ w3 ⟨rfl, E3⟩; have hs2 := E3.size; refine Wo_nil ?_
        refine W_cond_false rfl ?_; refine W_skip ?_; refine W_region rfl ?_; refine Wo rfl (opv_move (v := u) rfl) ?_; refine Wo rfl (opv_move (v := .int _ _) rfl) ?_
        refine Wo_buildSliceH (ps := [(0, .int _ _)]) (cs := [_]) rfl Try.underlying24 Try.sizeOf3 Try.zeroValue3 rfl rfl rfl rfl ?_; rintro b2 w4 hb2 E4 hB1 hHb2; have hlb2 := hB1.lt; have hs3 := E4.size
        refine Wo_app1 rfl el24 rfl rfl hB1 (hO2.toB.ext (E3.trans E4)) Owned.int (Nat.le_refl _) (by first | omega | (simp <;> omega)) (by omega) (by omega) ((E2.trans E3).trans E4) (by omega) ?_; have hT1 := (hO2.toB.ext (E3.trans E4))
        rintro v1 w5 hO2 E5 M1; have hB1 := hB1.moves M1 hT1 (by omega); have hs4 := E5.size; refine Wo rfl (opv_assign (v := v1) rfl) ?_; refine Wo_nil ?_; refine W_region rfl ?_; refine Wo rfl (opv_add rfl rfl (by omega)) ?_
        refine Wo rfl (opv_move (v := .int _ _) rfl) ?_; refine Wo_nil ?_; rotate_left; (exfalso; omega)
      refine ⟨((k + 1, v1)), by repeat (first | exact trivial | refine And.intro rfl ?_), by repeat (first | with_reducible exact Same.refl | refine Same.upd rfl ?_ | refine Same.upds rfl ?_ | refine Same.mix rfl ?_), ?_, ?_⟩
      · exact ⟨by assumption, by omega, by rw [hsn]; assumption⟩
      · simp only; omega
    | true =>
      have k1 := hon _ ho
      have k2 : ∀ (w : World) (pv : Value), ESl Ints w pv p → Does Try.prog 73 [pv, .int .i64 (k : Int)] w (RetO w XI (ints (rf p k))) := fun w pv h => reachedFrom_ok w pv p h hp k hkl
      have hrl := ints_len (rf p k)
      have hrl5 : (rf p k).length ≤ p.length := rf_len
      focus
        have szE2 := E2.size; have szE1 := E1.size; refine W_seq ?_; refine W_region rfl ?_; refine Wo rfl (opv_lss rfl rfl) ?_; refine Wo_nil ?_; refine W_seq ?_; refine W_cond_dec rfl (fun h1 => ?_) (fun h1 => ?_); refine W_skip ?_
        refine W_seq ?_; refine W_block ?_; refine W_seq ?_; refine W_region rfl ?_; refine Wo rfl (opv_move (v := .int _ _) rfl) ?_; refine Wo rfl (opv_assign (v := .int _ _) rfl) ?_; refine Wo_nil ?_; refine W_seq ?_
        refine W_region rfl ?_; refine Wo rfl (opv_assign (v := .int _ _) rfl) ?_; refine Wo_nil ?_; refine W_seq ?_; refine W_seq ?_; refine W_region rfl ?_; refine Wo rfl (opv_move (v := v) rfl) ?_
        refine Wo rfl (opv_move (v := .int _ _) rfl) ?_; refine Wo_call rfl (opc2 (a := v) (b := .int _ _) Try.call75 rfl rfl) (k1 _ _ ((Mono.mono E2 h))) ?_; rintro _ w3 ⟨rfl, E3⟩; have hs2 := E3.size; refine Wo_nil ?_
        refine W_cond_true rfl ?_; refine W_seq ?_; refine W_region rfl ?_; refine Wo rfl (opv_move (v := v) rfl) ?_; refine Wo rfl (opv_move (v := .int _ _) rfl) ?_
        refine Wo_call rfl (opc2 (a := v) (b := .int _ _) Try.call73 rfl rfl) (k2 _ _ ((Mono.mono (E2.trans E3) h))) ?_; rintro u1 w4 ⟨E4, hO3⟩; have hs3 := E4.size; refine Wo rfl (opv_len Try.underlying24 rfl (Owned.read hO3)) ?_
        refine Wo rfl (opv_move (v := .int _ _) rfl) ?_; refine Wo_nil ?_; refine W_block ?_; rotate_left; (exfalso; omega)
      refine W_loop [5, 7, 21, 22, 23, 24, 25, 26, 27, 28, 29, 30, 31] (fun (i : Nat) => [(21, .int .i64 (i : Nat)), (5, .int .i64 (-1))]) (fun i w' => Ext w4 w' ∧ i ≤ (rf p k).length ∧ ∀ a ∈ (rf p k).take i, lpB p k a = false) (fun x => (rf p k).length - x) 0 (by repeat (first | exact trivial | refine And.intro rfl ?_)) ?_ ?_
      · exact ⟨Ext.refl _, Nat.zero_le _, by simp⟩
      rintro i ρk w5 ⟨E5, hi, hg⟩
      by_cases hil : i < (rf p k).length
      · have hmm := List.getElem_mem hil
        have hga := ints_get hil
        have hts := take_snoc _ _ hil
        obtain ⟨x, hx⟩ : ∃ x, x = (rf p k)[i] := ⟨_, rfl⟩
        rw [← hx] at hmm hga hts
        have hxr := (mem_rf hp hkl).1 hmm
        have hxl := hxr.lt hp hkl
        have hrx := ints_len (rf p x)
        have hrx5 : (rf p x).length ≤ p.length := rf_len
        have k3 : ∀ (w : World) (pv : Value), ESl Ints w pv p → Does Try.prog 73 [pv, .int .i64 ((ints (rf p k))[i]'(by omega))] w (RetO w XI (ints (rf p x))) := fun w pv h => by
          rw [hga]; exact reachedFrom_ok w pv p h hp x hxl
        have k4 : ∀ c, lpB p k x = c → ∀ (w : World) (u : Value), Ints w u (ints (rf p x)) → Does Try.prog 77 [u, .int .i64 (k : Int)] w (Ret w (.bool c)) := fun c e w u h => by
          subst e
          have := Contains_ok w u _ h (k : Int)
          rw [contains_ints, ← lpB_on hp hkl ho hmm] at this; exact this
        cases hb : lpB p k x with
        | true =>
          have k5 := k4 _ hb
          have hfin : lpV p k = (ints (rf p k))[i]'(by omega) := by
            rw [hga]
            refine lpV_some hxl hb fun a ha => ?_
            cases hc : lpB p k a with
            | false => rfl
            | true =>
              have har := lpB_rf hp hkl hc
              have hin : a ∈ (rf p k).take i := by
                obtain ⟨q, hq, rfl⟩ := List.getElem_of_mem har
                rw [List.mem_take_iff_getElem]
                have hs := List.pairwise_iff_getElem.1 (show (rf p k).Pairwise (· < ·) from range_filter_pw (rch p k) p.length)
                refine ⟨q, ?_, rfl⟩
                rcases Nat.lt_trichotomy q i with h | h | h
                · omega
                · subst h; omega
                · have := hs i q hil hq h
                  omega
              rw [hg a hin] at hc; cases hc
          rw [hfin] at hsn
          clear k4
          focus
            have szE5 := E5.size; have szE4 := E4.size; have szE3 := E3.size; have szE2 := E2.size; have szE1 := E1.size; refine W_seq ?_; refine W_region rfl ?_; refine Wo rfl (opv_lss rfl rfl) ?_; refine Wo_nil ?_; refine W_seq ?_
            refine W_cond_dec rfl (fun h2 => ?_) (fun h2 => ?_); refine W_skip ?_; refine W_seq ?_; refine W_block ?_; refine W_seq ?_; refine W_region rfl ?_
            refine Wo_get Try.underlying24 Try.sizeOf3 Try.isAgg3 rfl (fun _ => rfl) rfl (Owned.read hO3) E5 rfl (by first | omega | (simp <;> omega)) ?_; rintro _ _ rfl; refine Wo rfl (opv_assign (v := .int _ _) rfl) ?_; refine Wo_nil ?_
            refine W_seq ?_; refine W_region rfl ?_; refine Wo rfl (opv_move (v := v) rfl) ?_; refine Wo rfl (opv_move (v := .int _ _) rfl) ?_
            refine Wo_call rfl (opc2 (a := v) (b := .int _ _) Try.call73 rfl rfl) (k3 _ _ ((Mono.mono (((E2.trans E3).trans E4).trans E5) h))) ?_; rintro u2 w6 ⟨E6, hO4⟩; have hs4 := E6.size; refine Wo rfl (opv_move (v := .int _ _) rfl) ?_
            refine Wo_call rfl (opc2 (a := u2) (b := .int _ _) Try.call77 rfl rfl) (k5 _ _ ((Owned.read hO4))) ?_; rintro _ w7 ⟨rfl, E7⟩; have hs5 := E7.size; refine Wo_nil ?_; refine W_cond_true rfl ?_; refine W_seq ?_; refine W_region rfl ?_
            refine Wo rfl (opv_move (v := .int _ _) rfl) ?_; refine Wo rfl (opv_assign (v := .int _ _) rfl) ?_; refine Wo_nil ?_; refine W_exit ?_; refine exitX_other rfl ?_; refine exitX_same ?_; refine W_region rfl ?_
            refine Wo rfl (opv_move (v := u) rfl) ?_; refine Wo rfl (opv_move (v := .int _ _) rfl) ?_; refine Wo_buildSliceH (ps := [(0, .int _ _)]) (cs := [_]) rfl Try.underlying24 Try.sizeOf3 Try.zeroValue3 rfl rfl rfl rfl ?_
            rintro b2 w8 hb2 E8 hB1 hHb2; have hlb2 := hB1.lt; have hs6 := E8.size
            refine Wo_app1 rfl el24 rfl rfl hB1 (hO2.toB.ext (((((E3.trans E4).trans E5).trans E6).trans E7).trans E8)) Owned.int (Nat.le_refl _) (by first | omega | (simp <;> omega)) (by omega) (by omega) ((((((E2.trans E3).trans E4).trans E5).trans E6).trans E7).trans E8) (by omega) ?_
            have hT1 := (hO2.toB.ext (((((E3.trans E4).trans E5).trans E6).trans E7).trans E8)); rintro v1 w9 hO2 E9 M1; have hO3 := (hO3.toB.ext (((E5.trans E6).trans E7).trans E8)).moves M1 hT1 (by omega)
            have hO4 := (hO4.toB.ext (E7.trans E8)).moves M1 hT1 (by omega); have hB1 := hB1.moves M1 hT1 (by omega); have hs7 := E9.size; refine Wo rfl (opv_assign (v := v1) rfl) ?_; refine Wo_nil ?_; refine W_region rfl ?_
            refine Wo rfl (opv_add rfl rfl (by omega)) ?_; refine Wo rfl (opv_move (v := .int _ _) rfl) ?_; refine Wo_nil ?_; rotate_left; (exfalso; omega)
          refine ⟨((k + 1, v1)), by repeat (first | exact trivial | refine And.intro rfl ?_), by repeat (first | with_reducible exact Same.refl | refine Same.upd rfl ?_ | refine Same.upds rfl ?_ | refine Same.mix rfl ?_), ?_, ?_⟩
          · exact ⟨by assumption, by omega, by rw [hsn]; assumption⟩
          · simp only; omega
        | false =>
          have k5 := k4 _ hb
          clear k4
          focus
            have szE5 := E5.size; have szE4 := E4.size; have szE3 := E3.size; have szE2 := E2.size; have szE1 := E1.size; refine W_seq ?_; refine W_region rfl ?_; refine Wo rfl (opv_lss rfl rfl) ?_; refine Wo_nil ?_; refine W_seq ?_
            refine W_cond_dec rfl (fun h2 => ?_) (fun h2 => ?_); refine W_skip ?_; refine W_seq ?_; refine W_block ?_; refine W_seq ?_; refine W_region rfl ?_
            refine Wo_get Try.underlying24 Try.sizeOf3 Try.isAgg3 rfl (fun _ => rfl) rfl (Owned.read hO3) E5 rfl (by first | omega | (simp <;> omega)) ?_; rintro _ _ rfl; refine Wo rfl (opv_assign (v := .int _ _) rfl) ?_; refine Wo_nil ?_
            refine W_seq ?_; refine W_region rfl ?_; refine Wo rfl (opv_move (v := v) rfl) ?_; refine Wo rfl (opv_move (v := .int _ _) rfl) ?_
            refine Wo_call rfl (opc2 (a := v) (b := .int _ _) Try.call73 rfl rfl) (k3 _ _ ((Mono.mono (((E2.trans E3).trans E4).trans E5) h))) ?_; rintro u2 w6 ⟨E6, hO4⟩; have hs4 := E6.size; refine Wo rfl (opv_move (v := .int _ _) rfl) ?_
            refine Wo_call rfl (opc2 (a := u2) (b := .int _ _) Try.call77 rfl rfl) (k5 _ _ ((Owned.read hO4))) ?_; rintro _ w7 ⟨rfl, E7⟩; have hs5 := E7.size; refine Wo_nil ?_; refine W_cond_false rfl ?_; refine W_skip ?_
            refine W_region rfl ?_; refine Wo rfl (opv_add rfl rfl (by omega)) ?_; refine Wo rfl (opv_move (v := .int _ _) rfl) ?_; refine Wo_nil ?_; rotate_left; (exfalso; omega)
          refine ⟨(i + 1), by repeat (first | exact trivial | refine And.intro rfl ?_), by repeat (first | with_reducible exact Same.refl | refine Same.upd rfl ?_ | refine Same.upds rfl ?_ | refine Same.mix rfl ?_), ?_, ?_⟩
          · refine ⟨E5.trans (E6.trans E7), by omega, fun a ha => ?_⟩
            rw [hts] at ha
            rcases List.mem_append.1 ha with ha | ha
            · exact hg a ha
            · rw [List.mem_singleton.1 ha]; exact hb
          · omega
      · obtain rfl : i = (rf p k).length := by omega
        rw [List.take_length] at hg
        have h1 := hg k ((mem_rf hp hkl).2 (.refl _))
        rw [lpB_on hp hkl ho ((mem_rf hp hkl).2 (.refl _)), List.contains_iff_mem.2 ((mem_rf hp hkl).2 (.refl _))] at h1
        cases h1
  · obtain rfl : k = p.length := by omega
    focus
      have szE2 := E2.size; have szE1 := E1.size; refine W_seq ?_; refine W_region rfl ?_; refine Wo rfl (opv_lss rfl rfl) ?_; refine Wo_nil ?_; refine W_seq ?_; refine W_cond_dec rfl (fun h1 => ?_) (fun h1 => ?_); (exfalso; omega)
      refine W_exit ?_; refine exitX_same ?_; refine W_seq ?_; refine W_region rfl ?_; refine Wo rfl (opv_move (v := u) rfl) ?_; refine Wo rfl (opv_assign (v := u) rfl) ?_; refine Wo_nil ?_; refine W_ret ?_
      exact ⟨E2, hO2.toB.o.mono (by omega)⟩

theorem impl_LoopsOf_ok (w : World) (v : Value) (p : List (List Int)) (h : ESl Ints w v p) : Does Try.prog 34 [v] w (RetO w XI (lpsV p)) := by
  have hle := h.le
  by_cases hp : Pic p
  · have hpic : ∀ (w : World) (pv : Value), ESl Ints w pv p → Does Try.prog 48 [pv] w (Ret w (.bool true)) := fun w pv h => by
      have := isPicture_ok w pv p h
      rw [decide_eq_true hp] at this; exact this
    have k1 : ∀ (w : World) (pv : Value), ESl Ints w pv p → Does Try.prog 64 [pv] w (RetO w XI (lpsV p)) := fun w pv h => loopsOf_ok w pv p h hp
    refine fn_of_W1 Try.func34 rfl Try.results34 Try.ntmps34 rfl ?_
    focus
      refine W_seq ?_; refine W_region rfl ?_; refine Wo rfl (opv_assign (v := .slice _ _ _) rfl) ?_; refine Wo_nil ?_; refine W_seq ?_; refine W_seq ?_; refine W_region rfl ?_; refine Wo rfl (opv_move (v := v) rfl) ?_
      refine Wo_call rfl (opc1 (a := v) Try.call48 rfl) (hpic _ _ (h)) ?_; rintro _ w1 ⟨rfl, E1⟩; have hs1 := E1.size; refine Wo rfl (opv_not rfl) ?_; refine Wo_nil ?_; refine W_cond rfl (fun h1 => ?_) (fun h1 => ?_); contradiction
      refine W_skip ?_; refine W_seq ?_; refine W_region rfl ?_; refine Wo rfl (opv_move (v := v) rfl) ?_; refine Wo_call rfl (opc1 (a := v) Try.call64 rfl) (k1 _ _ ((Mono.mono E1 h))) ?_; rintro u1 w2 ⟨E2, hO1⟩; have hs2 := E2.size
      refine Wo rfl (opv_assign (v := u1) rfl) ?_; refine Wo_nil ?_; refine W_ret ?_; exact ⟨(E1.trans E2), hO1.toB.o.mono (by omega)⟩
  · have hpic : ∀ (w : World) (pv : Value), ESl Ints w pv p → Does Try.prog 48 [pv] w (Ret w (.bool false)) := fun w pv h => by
      have := isPicture_ok w pv p h
      rw [decide_eq_false hp] at this; exact this
    have hV : lpsV p = [] := if_neg hp
    rw [hV]
    refine fn_of_W1 Try.func34 rfl Try.results34 Try.ntmps34 rfl ?_
    focus
      refine W_seq ?_; refine W_region rfl ?_; refine Wo rfl (opv_assign (v := .slice _ _ _) rfl) ?_; refine Wo_nil ?_; refine W_seq ?_; refine W_seq ?_; refine W_region rfl ?_; refine Wo rfl (opv_move (v := v) rfl) ?_
      refine Wo_call rfl (opc1 (a := v) Try.call48 rfl) (hpic _ _ (h)) ?_; rintro _ w1 ⟨rfl, E1⟩; have hs1 := E1.size; refine Wo rfl (opv_not rfl) ?_; refine Wo_nil ?_; refine W_cond rfl (fun h1 => ?_) (fun h1 => ?_); refine W_seq ?_
      refine W_region rfl ?_; refine Wo rfl (opv_assign (v := .slice _ _ _) rfl) ?_; refine Wo_nil ?_; refine W_ret ?_; refine at_ret (v := .slice _ _ _) rfl ?_; rotate_left; contradiction
    exact ⟨by assumption, Owned.nil⟩

theorem lpsV_len (p : List (List Int)) : (lpsV p).length ≤ p.length := by
  unfold lpsV
  split <;> simp
theorem FnExactLoopsOf_walk (w : World) (v : Value) (p : List (List Int)) (h : ESl Ints w v p) :
    Does Try.prog 8 [v] w (Ret w (.bool true)) := by
  have hlen := lpsV_len p
  refine fn_of_W1 Try.func8 rfl Try.results8 Try.ntmps8 rfl ?_
  focus
    refine W_seq ?_; refine W_region rfl ?_; refine Wo rfl (opv_assign (v := .bool _) rfl) ?_; refine Wo_nil ?_; refine W_seq ?_; refine W_region rfl ?_; refine Wo rfl (opv_assign (v := .int _ _) rfl) ?_; refine Wo_nil ?_
    refine W_seq ?_; refine W_region rfl ?_; refine Wo rfl (opv_move (v := v) rfl) ?_; refine Wo rfl (opv_move (v := .int _ _) rfl) ?_
    refine Wo_call rfl (opc2 (a := v) (b := .int _ _) Try.call13 rfl rfl) (szIntSS_ok _ _ _ (h) _ (by omega)) ?_; rintro _ w1 ⟨E1, y1, rfl, hy1⟩; have hs1 := E1.size; refine Wo rfl (opv_assign (v := .int _ _) rfl) ?_; refine Wo_nil ?_
    refine W_seq ?_; refine W_seq ?_; refine W_region rfl ?_; refine Wo rfl (opv_move (v := .int _ _) rfl) ?_; refine Wo rfl (opv_lss rfl rfl) ?_; refine Wo_nil ?_; refine W_cond_dec rfl (fun h1 => ?_) (fun h1 => ?_); refine W_seq ?_
    refine W_region rfl ?_; refine Wo rfl (opv_assign (v := .bool _) rfl) ?_; refine Wo_nil ?_; refine W_ret ?_; exact ⟨rfl, E1⟩; refine W_skip ?_; refine W_seq ?_; refine W_region rfl ?_; refine Wo rfl (opv_move (v := v) rfl) ?_
  rcases hy1 with h9 | ⟨h5, h6, h7, h7', h8⟩
  · omega
  focus
    have szE1 := E1.size; refine Wo_call rfl (opc1 (a := v) Try.call15 rfl) (toIntSS_ok _ _ _ ((Mono.mono E1 h)) (by assumption) (by assumption)) ?_; rintro u1 w2 ⟨E2, hO1⟩; have hs2 := E2.size
    refine Wo_call rfl (opc1 (a := u1) Try.call33 rfl) (spec_LoopsOf_ok _ _ _ ((Owned.read hO1))) ?_; rintro u2 w3 ⟨E3, hO2⟩; have hs3 := E3.size; refine Wo rfl (opv_assign (v := u2) rfl) ?_; refine Wo_nil ?_; refine W_seq ?_
    refine W_region rfl ?_; refine Wo rfl (opv_move (v := v) rfl) ?_; refine Wo_call rfl (opc1 (a := v) Try.call15 rfl) (toIntSS_ok _ _ _ ((Mono.mono ((E1.trans E2).trans E3) h)) (by assumption) (by assumption)) ?_
    rintro u3 w4 ⟨E4, hO3⟩; have hs4 := E4.size; refine Wo rfl (opv_assign (v := u3) rfl) ?_; refine Wo_nil ?_; refine W_seq ?_; refine W_region rfl ?_; refine Wo rfl (opv_move (v := u3) rfl) ?_
    refine Wo_call rfl (opc1 (a := u3) Try.call34 rfl) (impl_LoopsOf_ok _ _ _ ((Owned.read hO3))) ?_; rintro u4 w5 ⟨E5, hO4⟩; have hs5 := E5.size; refine Wo rfl (opv_assign (v := u4) rfl) ?_; refine Wo_nil ?_; refine W_seq ?_
    refine W_seq ?_; refine W_region rfl ?_; refine Wo rfl (opv_move (v := u4) rfl) ?_; refine Wo rfl (opv_move (v := u2) rfl) ?_
    refine Wo_call rfl (opc2 (a := u4) (b := u2) Try.call17 rfl rfl) (eqIntS_ok _ _ _ _ _ ((Owned.read hO4)) ((Mono.mono (E4.trans E5) (Owned.read hO2)))) ?_; rintro _ w6 ⟨rfl, E6⟩; have hs6 := E6.size; refine Wo rfl (opv_not rfl) ?_
    refine Wo_nil ?_; refine W_cond_ndec rfl (fun h2 => ?_) (fun h2 => ?_); contradiction; refine W_skip ?_; refine W_seq ?_; refine W_seq ?_; refine W_region rfl ?_; refine Wo rfl (opv_move (v := u3) rfl) ?_
    refine Wo rfl (opv_move (v := v) rfl) ?_; refine Wo_call rfl (opc1 (a := v) Try.call15 rfl) (toIntSS_ok _ _ _ ((Mono.mono (((((E1.trans E2).trans E3).trans E4).trans E5).trans E6) h)) (by assumption) (by assumption)) ?_
    rintro u5 w7 ⟨E7, hO5⟩; have hs7 := E7.size; refine Wo_call rfl (opc2 (a := u3) (b := u5) Try.call18 rfl rfl) (eqIntSS_ok _ _ _ _ _ ((Mono.mono ((E5.trans E6).trans E7) (Owned.read hO3))) ((Owned.read hO5))) ?_
    rintro _ w8 ⟨rfl, E8⟩; have hs8 := E8.size; refine Wo rfl (opv_not rfl) ?_; refine Wo_nil ?_; refine W_cond_ndec rfl (fun h3 => ?_) (fun h3 => ?_); contradiction; refine W_skip ?_; refine W_seq ?_; refine W_region rfl ?_
    refine Wo rfl (opv_assign (v := .int _ _) rfl) ?_; refine Wo_nil ?_; refine W_seq ?_; refine W_region rfl ?_; refine Wo rfl (opv_move (v := u3) rfl) ?_; refine Wo rfl (opv_move (v := .int _ _) rfl) ?_
    refine Wo_call rfl (opc2 (a := u3) (b := .int _ _) Try.call19 rfl rfl) (markIntSS_ok _ _ _ ((hO3.toB.ext (((E5.trans E6).trans E7).trans E8))) _ (by omega) (by assumption) (by omega)) ?_; rintro _ w9 ⟨rfl, E9, hO6⟩
    have hO1 := (hO1.toB.ext (((((E3.trans E4).trans E5).trans E6).trans E7).trans E8)).span E9 (by omega); have hO2 := (hO2.toB.ext ((((E4.trans E5).trans E6).trans E7).trans E8)).span E9 (by omega)
    have hO4 := (hO4.toB.ext ((E6.trans E7).trans E8)).span E9 (by omega); have hO5 := (hO5.toB.ext E8).span E9 (by omega); have E10 := (((((((E1.trans E2).trans E3).trans E4).trans E5).trans E6).trans E7).trans E8).span E9 (by omega)
    have E11 := (((((((E2.trans E3).trans E4).trans E5).trans E6).trans E7).trans E8)).span E9 (by omega); have szE11 := E11.size; have E12 := ((((((E3.trans E4).trans E5).trans E6).trans E7).trans E8)).span E9 (by omega)
    have szE12 := E12.size; have E13 := (((((E4.trans E5).trans E6).trans E7).trans E8)).span E9 (by omega); have szE13 := E13.size; have hs9 := E9.size; refine Wo rfl (opv_assign (v := .int _ _) rfl) ?_; refine Wo_nil ?_
    refine W_seq ?_; refine W_seq ?_; refine W_region rfl ?_; refine Wo rfl (opv_move (v := .int _ _) rfl) ?_; refine Wo rfl (opv_lss rfl rfl) ?_; refine Wo_split_dec rfl (opv_move (v := .bool _) rfl) (fun h4 => ?_) (fun h4 => ?_)
    contradiction; refine Wo rfl (opv_move (v := u4) rfl) ?_; refine Wo rfl (opv_move (v := u2) rfl) ?_; refine Wo_call rfl (opc2 (a := u4) (b := u2) Try.call17 rfl rfl) (eqIntS_ok _ _ _ _ _ ((OwnedB.read hO4)) ((OwnedB.read hO2))) ?_
    rintro _ w10 ⟨rfl, E14⟩; have hs10 := E14.size; refine Wo rfl (opv_not rfl) ?_; refine Wo rfl (opv_pick_f (v := .bool _) rfl rfl) ?_; refine Wo_nil ?_; refine W_cond_ndec rfl (fun h9 => ?_) (fun h9 => ?_); contradiction
    refine W_skip ?_; refine W_seq ?_; refine W_region rfl ?_; refine Wo rfl (opv_assign (v := .int _ _) rfl) ?_; refine Wo_nil ?_; refine W_seq ?_; refine W_region rfl ?_; refine Wo rfl (opv_move (v := u4) rfl) ?_
    refine Wo rfl (opv_move (v := .int _ _) rfl) ?_; refine Wo_call rfl (opc2 (a := u4) (b := .int _ _) Try.call20 rfl rfl) (markIntS_ok _ _ _ ((hO4.ext E14)) _ (by omega) (by omega)) ?_; rintro _ w11 ⟨rfl, E15, hO7⟩
    have hO6 := (hO6.ext E14).span E15 (by omega); have hO1 := (hO1.ext E14).span E15 (by omega); have hO2 := (hO2.ext E14).span E15 (by omega); have hO5 := (hO5.ext E14).span E15 (by omega)
    have E16 := (E10.trans E14).span E15 (by omega); have E17 := ((E11.trans E14)).span E15 (by omega); have szE17 := E17.size; have E18 := ((E12.trans E14)).span E15 (by omega); have szE18 := E18.size
    have E19 := ((E13.trans E14)).span E15 (by omega); have szE19 := E19.size; have hs11 := E15.size; refine Wo rfl (opv_assign (v := .int _ _) rfl) ?_; refine Wo_nil ?_; refine W_seq ?_; refine W_region rfl ?_
    refine Wo rfl (opv_assign (v := .int _ _) rfl) ?_; refine Wo_nil ?_; refine W_seq ?_; refine W_region rfl ?_; refine Wo rfl (opv_move (v := u4) rfl) ?_; refine Wo rfl (opv_move (v := .int _ _) rfl) ?_
    refine Wo_call rfl (opc2 (a := u4) (b := .int _ _) Try.call21 rfl rfl) (heldIntS_ok _ _ _ _ ((OwnedB.read hO7)) (by omega) (by omega)) ?_; rintro _ w12 ⟨rfl, E20⟩; have hs12 := E20.size
    refine Wo rfl (opv_assign (v := .int _ _) rfl) ?_; refine Wo_nil ?_; refine W_seq ?_; refine W_seq ?_; refine W_region rfl ?_; refine Wo rfl (opv_move (v := .int _ _) rfl) ?_; refine Wo rfl (opv_lss rfl rfl) ?_; refine Wo_nil ?_
    refine W_cond_dec rfl (fun h10 => ?_) (fun h10 => ?_); contradiction; refine W_skip ?_; refine W_seq ?_; refine W_seq ?_; refine W_region rfl ?_; refine Wo rfl (opv_move (v := .int _ _) rfl) ?_
    refine Wo rfl (opv_move (v := .int _ _) rfl) ?_; refine Wo rfl (opv_neq rfl rfl) ?_; refine Wo_nil ?_; refine W_cond_ndec rfl (fun h11 => ?_) (fun h11 => ?_); contradiction; refine W_skip ?_; refine W_seq ?_; refine W_region rfl ?_
    refine Wo rfl (opv_move (v := v) rfl) ?_; refine Wo_call rfl (opc1 (a := v) Try.call15 rfl) (toIntSS_ok _ _ _ ((Mono.mono (E16.trans E20) h)) (by assumption) (by assumption)) ?_; rintro u6 w13 ⟨E21, hO8⟩; have hs13 := E21.size
    refine Wo_call rfl (opc1 (a := u6) Try.call34 rfl) (impl_LoopsOf_ok _ _ _ ((Owned.read hO8))) ?_; rintro u7 w14 ⟨E22, hO9⟩; have hs14 := E22.size; refine Wo rfl (opv_assign (v := u7) rfl) ?_; refine Wo_nil ?_; refine W_seq ?_
    refine W_seq ?_; refine W_region rfl ?_; refine Wo rfl (opv_move (v := u7) rfl) ?_; refine Wo rfl (opv_move (v := u2) rfl) ?_
    refine Wo_call rfl (opc2 (a := u7) (b := u2) Try.call17 rfl rfl) (eqIntS_ok _ _ _ _ _ ((Owned.read hO9)) ((Mono.mono ((E20.trans E21).trans E22) (OwnedB.read hO2)))) ?_; rintro _ w15 ⟨rfl, E23⟩; have hs15 := E23.size
    refine Wo rfl (opv_not rfl) ?_; refine Wo_nil ?_; refine W_cond_ndec rfl (fun h12 => ?_) (fun h12 => ?_); contradiction; refine W_skip ?_; refine W_seq ?_; refine W_region rfl ?_; refine Wo rfl (opv_assign (v := .int _ _) rfl) ?_
    refine Wo_nil ?_; refine W_seq ?_; refine W_region rfl ?_; refine Wo rfl (opv_move (v := u4) rfl) ?_; refine Wo rfl (opv_move (v := .int _ _) rfl) ?_
    refine Wo_call rfl (opc2 (a := u4) (b := .int _ _) Try.call21 rfl rfl) (heldIntS_ok _ _ _ _ ((Mono.mono (((E20.trans E21).trans E22).trans E23) (OwnedB.read hO7))) (by omega) (by omega)) ?_; rintro _ w16 ⟨rfl, E24⟩
    have hs16 := E24.size; refine Wo rfl (opv_assign (v := .int _ _) rfl) ?_; refine Wo_nil ?_; refine W_seq ?_; refine W_seq ?_; refine W_region rfl ?_; refine Wo rfl (opv_move (v := .int _ _) rfl) ?_
    refine Wo rfl (opv_lss rfl rfl) ?_; refine Wo_nil ?_; refine W_cond_dec rfl (fun h13 => ?_) (fun h13 => ?_); contradiction; refine W_skip ?_; refine W_seq ?_; refine W_seq ?_; refine W_region rfl ?_
    refine Wo rfl (opv_move (v := .int _ _) rfl) ?_; refine Wo rfl (opv_move (v := .int _ _) rfl) ?_; refine Wo rfl (opv_neq rfl rfl) ?_; refine Wo_nil ?_; refine W_cond_ndec rfl (fun h14 => ?_) (fun h14 => ?_); contradiction
    refine W_skip ?_; refine W_seq ?_; refine W_region rfl ?_; refine Wo rfl (opv_assign (v := .bool _) rfl) ?_; refine Wo_nil ?_; refine W_ret ?_; exact ⟨rfl, (((((E16.trans E20).trans E21).trans E22).trans E23).trans E24)⟩

end Go.Proofs.Ythhaodjjfofogaa
