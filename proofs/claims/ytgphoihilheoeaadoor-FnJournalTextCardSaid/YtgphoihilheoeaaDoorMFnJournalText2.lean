/- Lemmas for FnJournalText. -/
import Derived.Test.YtgphoihilheoeaaDoorMFnJournalText1
import Derived.Laws.BytesArg
import Derived.Lib.SplitLaws
import Derived.Lib.Join
import Derived.Lib.ItoaNum
import Derived.Shelf.Lay
import Derived.Ground.NamesProg
import Derived.Shelf.Strings.Split
import Derived.Shelf.Strings.OnBuilder
import Derived.Shelf.Strings.Cut
import Derived.Shelf.Strconv.Itoa3
namespace Go.Proofs.YtgphoihilheoeaaDoor
open Go.Hs
set_option maxRecDepth 10000
set_option maxHeartbeats 4000000
set_option linter.unusedVariables false
set_option linter.unusedSimpArgs false
noncomputable def rfV (p : List (List Int)) (z : Int) : List Nat := if Nod p z then rf p z.toNat else []

theorem spec_ReachedFrom_ok (w : World) (v : Value) (p : List (List Int)) (z : Int) (h : ESl Ints w v p) : Does Tryd.prog 99 [v, .int .i64 z] w (RetO w XI (ints (rfV p z))) := by
  have hle := h.le
  by_cases hp : Pic p
  · have hpic : ∀ (w : World) (pv : Value), ESl Ints w pv p → Does Tryd.prog 70 [pv] w (Ret w (.bool true)) := fun w pv h => by
      have := PictureOk_ok w pv p h
      rw [decide_eq_true hp] at this; exact this
    by_cases hz : 0 ≤ z ∧ z < p.length
    · have hV : rfV p z = rf p z.toNat := if_pos ⟨hp, hz⟩
      rw [hV]
      obtain ⟨i, rfl⟩ := Int.eq_ofNat_of_zero_le hz.1
      have hi : i < p.length := by omega
      have hp5 := hp.2.1
      have h2 := pow_le5 (k := p.length) (by omega)
      have hsli := shl_le (g := 1) (k := i) (by omega) (by omega)
      have e0 : ((i : Int)).toNat = i := rfl
      rw [e0]
      have h1p : ∀ j, j < p.length → 1 <<< j < 2 ^ p.length := fun j hj => by rw [Nat.one_shiftLeft]; exact Nat.pow_lt_pow_right (by omega) hj
      have h1b : ∀ j k, (1 <<< j).testBit k = decide (j = k) := fun j k => by rw [Nat.one_shiftLeft, Nat.testBit_two_pow]
      refine fn_of_W1 Tryd.func99 rfl Tryd.results99 Tryd.ntmps99 rfl ?_
      focus
        refine W_seq ?_; refine W_region rfl ?_; refine Wo rfl (opv_assign (v := .slice _ _ _) rfl) ?_; refine Wo_nil ?_; refine W_seq ?_; refine W_region rfl ?_; refine Wo_lit0 XInt rfl el80 Tryd.sizeOf3 ?_; rintro b1 w1 hb1 b1lt E1 hO1
        have hs1 := E1.size; refine Wo rfl (opv_assign (v := .slice _ _ _) rfl) ?_; refine Wo_nil ?_; refine W_seq ?_; refine W_seq ?_; refine W_region rfl ?_; refine Wo rfl (opv_move (v := v) rfl) ?_
        refine Wo_call rfl (opc1 (a := v) Tryd.call70 rfl) (hpic _ _ ((Mono.mono E1 h))) ?_; rintro _ w2 ⟨rfl, E2⟩; have hs2 := E2.size; refine Wo rfl (opv_not rfl) ?_
        refine Wo_split rfl (opv_move (v := .bool _) rfl) (fun h1 => ?_) (fun h1 => ?_); contradiction; refine Wo rfl (opv_move (v := .int _ _) rfl) ?_; refine Wo rfl (opv_move (v := v) rfl) ?_
        refine Wo rfl (opv_len Tryd.underlying49 rfl h) ?_; refine Wo rfl (opv_sub rfl rfl (by omega)) ?_; refine Wo_call rfl (opc3 (a := .int _ _) (b := .int _ _) (c := .int _ _) Tryd.call42 rfl rfl rfl) (l1In_ok _ _ _ _) ?_
        rintro _ w3 ⟨rfl, E3⟩; have hs3 := E3.size; refine Wo rfl (opv_not rfl) ?_; refine Wo rfl (opv_pick_f (v := .bool _) rfl rfl) ?_; refine Wo_nil ?_; refine W_cond_ndec rfl (fun h3 => ?_) (fun h3 => ?_); (exfalso; omega)
        refine W_skip ?_; refine W_seq ?_; refine W_region rfl ?_; refine Wo rfl (opv_move (v := .int _ _) rfl) ?_; refine Wo rfl (opv_shl rfl rfl (by omega)) ?_; refine Wo rfl (opv_assign (v := .int _ _) rfl) ?_; refine Wo_nil ?_
        refine W_seq ?_; refine W_seq ?_; refine W_region rfl ?_; refine Wo rfl (opv_assign (v := .int _ _) rfl) ?_; refine Wo_nil ?_; refine W_block ?_
      refine W_loop [6, 7, 8, 9, 26, 27, 28, 29, 30, 31, 32, 33, 34, 35, 36, 37, 38, 39, 40, 41, 42, 43, 44, 45, 46, 47, 48, 49, 50, 51, 52, 53, 54, 55, 56, 57, 58, 59, 60, 61, 62] (fun (n, M) => [(7, .int .i64 (n : Nat)), (6, .int .i64 (M : Nat))]) (fun (n, M) w' => w' = w3 ∧ n ≤ p.length ∧ M < 2 ^ p.length ∧ (∀ j, st p i n j → M.testBit j = true) ∧ (∀ j, M.testBit j = true → Rch p i j)) (fun x => p.length - x.1) (0, 1 <<< i) (by repeat (first | exact trivial | refine And.intro rfl ?_)) ?_ ?_
      · refine ⟨rfl, Nat.zero_le _, h1p i hi, fun j hj => ?_, fun j hj => ?_⟩
        · rw [show j = i from hj, h1b]; simp
        · rw [h1b] at hj; rw [← of_decide_eq_true hj]; exact .refl _
      rintro ⟨n, M⟩ ρj w4 ⟨rfl, hn, hM, hC, hS⟩
      by_cases hnl : n < p.length
      · focus
          have szE3 := E3.size; have szE2 := E2.size; have szE1 := E1.size; refine W_seq ?_; refine W_seq ?_; refine W_region rfl ?_; refine Wo rfl (opv_move (v := .int _ _) rfl) ?_; refine Wo rfl (opv_move (v := v) rfl) ?_
          refine Wo rfl (opv_len Tryd.underlying49 rfl h) ?_; refine Wo rfl (opv_lss rfl rfl) ?_; refine Wo_nil ?_; refine W_cond_dec rfl (fun h4 => ?_) (fun h4 => ?_); refine W_skip ?_; refine W_seq ?_; refine W_block ?_; refine W_seq ?_
          refine W_region rfl ?_; refine Wo rfl (opv_assign (v := .int _ _) rfl) ?_; refine Wo_nil ?_; refine W_block ?_; rotate_left; (exfalso; omega)
        refine W_loop [6, 8, 9, 32, 33, 34, 35, 36, 37, 38, 39, 40, 41, 42, 43, 44, 45, 46, 47, 48, 49, 50, 51, 52, 53, 54, 55, 56, 57, 58, 59, 60, 61, 62] (fun (k, M) => [(8, .int .i64 (k : Nat)), (6, .int .i64 (M : Nat))]) (fun (k, M) w' => w' = w4 ∧ k ≤ p.length ∧ M < 2 ^ p.length ∧ (∀ j, st p i n j → M.testBit j = true) ∧ (∀ j, M.testBit j = true → Rch p i j) ∧ ∀ k', k' < k → st p i n k' → ∀ j ∈ arr p k', M.testBit j = true) (fun x => p.length - x.1) (0, M) (by repeat (first | exact trivial | refine And.intro rfl ?_)) ?_ ?_
        · exact ⟨rfl, Nat.zero_le _, hM, hC, hS, fun k' hk' => by omega⟩
        clear hM hC hS
        rintro ⟨k, M⟩ ρk w5 ⟨rfl, hk, hM, hC, hS, hK⟩
        by_cases hkl : k < p.length
        · have hrow := hp.row hkl
          focus
            have szE3 := E3.size; have szE2 := E2.size; have szE1 := E1.size; refine W_seq ?_; refine W_seq ?_; refine W_region rfl ?_; refine Wo rfl (opv_move (v := .int _ _) rfl) ?_; refine Wo rfl (opv_move (v := v) rfl) ?_
            refine Wo rfl (opv_len Tryd.underlying49 rfl h) ?_; refine Wo rfl (opv_lss rfl rfl) ?_; refine Wo_nil ?_; refine W_cond_dec rfl (fun h5 => ?_) (fun h5 => ?_); refine W_skip ?_; refine W_seq ?_; refine W_block ?_; refine W_seq ?_
            refine W_region rfl ?_; refine Wo rfl (opv_assign (v := .int _ _) rfl) ?_; refine Wo_nil ?_; refine W_block ?_; rotate_left; (exfalso; omega)
          refine W_loop [6, 9, 38, 39, 40, 41, 42, 43, 44, 45, 46, 47, 48, 49, 50, 51, 52, 53, 54, 55, 56, 57, 58, 59, 60, 61, 62] (fun (j, M) => [(9, .int .i64 (j : Nat)), (6, .int .i64 (M : Nat))]) (fun (j, M) w' => w' = w5 ∧ j ≤ p.length ∧ M < 2 ^ p.length ∧ (∀ j, st p i n j → M.testBit j = true) ∧ (∀ j, M.testBit j = true → Rch p i j) ∧ (∀ k', k' < k → st p i n k' → ∀ j ∈ arr p k', M.testBit j = true) ∧ ∀ j', j' < j → st p i n k → j' ∈ arr p k → M.testBit j' = true) (fun x => p.length - x.1) (0, M) (by repeat (first | exact trivial | refine And.intro rfl ?_)) ?_ ?_
          · exact ⟨rfl, Nat.zero_le _, hM, hC, hS, hK, fun j' hj' => by omega⟩
          clear hM hC hS hK
          rintro ⟨j, M⟩ ρl w6 ⟨rfl, hj, hM, hC, hS, hK, hJ⟩
          by_cases hjl : j < p.length
          · have hgd := getD_lt (l := p[k]) (i := j) (d := 0) (by omega)
            have hsm := shr_mod M k
            have hsl := shl_le (g := 1) (k := j) (by omega) (by omega)
            have hsl0 : (0 : Int) ≤ ((1 <<< j : Nat) : Int) := Int.natCast_nonneg _
            have hma := mem_arr (j := j) hp hkl
            have hbit : bit p k j = p[k][j] := by unfold bit; rw [getD_lt hkl, hgd]
            rw [hbit] at hma
            focus
              have szE3 := E3.size; have szE2 := E2.size; have szE1 := E1.size; refine W_seq ?_; refine W_seq ?_; refine W_region rfl ?_; refine Wo rfl (opv_move (v := .int _ _) rfl) ?_; refine Wo rfl (opv_move (v := v) rfl) ?_
              refine Wo rfl (opv_len Tryd.underlying49 rfl h) ?_; refine Wo rfl (opv_lss rfl rfl) ?_; refine Wo_nil ?_; refine W_cond_dec rfl (fun h6 => ?_) (fun h6 => ?_); refine W_skip ?_; refine W_seq ?_; refine W_block ?_; refine W_seq ?_
              refine W_region rfl ?_; refine Wo rfl (opv_move (v := .int _ _) rfl) ?_; refine Wo rfl (opv_move (v := .int _ _) rfl) ?_; refine Wo rfl (opv_shr rfl rfl (by omega)) ?_
              refine Wo rfl (opv_rem rfl rfl ⟨Int.natCast_nonneg _, by omega⟩) ?_; refine Wo rfl (opv_eql rfl rfl) ?_; refine Wo_split_dec rfl (opv_move (v := .bool _) rfl) (fun h7 => ?_) (fun h7 => ?_); refine Wo rfl (opv_move (v := v) rfl) ?_
              refine Wo rfl (opv_move (v := .int _ _) rfl) ?_; refine Wo_get Tryd.underlying49 Tryd.sizeOf80 Tryd.isAgg80 rfl (fun _ => rfl) rfl h ((E1.trans E2).trans E3) rfl (by first | omega | (simp <;> omega)) ?_; rintro _ u1 hu1
              refine Wo rfl (opv_move (v := .int _ _) rfl) ?_; refine Wo_get Tryd.underlying80 Tryd.sizeOf3 Tryd.isAgg3 rfl (fun _ => rfl) rfl hu1 ((E1.trans E2).trans E3) rfl (by first | omega | (simp <;> omega)) ?_; rintro _ _ rfl
              refine Wo rfl (opv_eql rfl rfl) ?_; refine Wo rfl (opv_pick_t (v := .bool _) rfl rfl) ?_; refine Wo_nil ?_; refine W_cond_dec rfl (fun h8 => ?_) (fun h8 => ?_); refine W_region rfl ?_; refine Wo rfl (opv_move (v := .int _ _) rfl) ?_
              refine Wo rfl (opv_move (v := .int _ _) rfl) ?_; refine Wo rfl (opv_shl rfl rfl (by omega)) ?_
              refine Wo rfl (opv_or rfl rfl ⟨Int.natCast_nonneg _, by omega, Int.natCast_nonneg _, Int.le_trans (Int.ofNat_le.2 (show _ ≤ 4096 by assumption)) (by decide)⟩) ?_; refine Wo rfl (opv_assign (v := .int _ _) rfl) ?_; refine Wo_nil ?_
              refine W_region rfl ?_; refine Wo rfl (opv_move (v := .int _ _) rfl) ?_; refine Wo rfl (opv_add rfl rfl (by omega)) ?_; refine Wo rfl (opv_assign (v := .int _ _) rfl) ?_; refine Wo_nil ?_; rotate_left; refine W_skip ?_
              refine W_region rfl ?_; refine Wo rfl (opv_move (v := .int _ _) rfl) ?_; refine Wo rfl (opv_add rfl rfl (by omega)) ?_; refine Wo rfl (opv_assign (v := .int _ _) rfl) ?_; refine Wo_nil ?_; rotate_left; refine Wo_skip rfl ?_
              refine Wo_skip rfl ?_; refine Wo_skip rfl ?_; refine Wo_skip rfl ?_; refine Wo_skip rfl ?_; refine Wo_skip rfl ?_; refine Wo_skip rfl ?_; refine Wo_skip rfl ?_; refine Wo rfl (opv_pick_f (v := .bool _) rfl rfl) ?_; refine Wo_nil ?_
              refine W_cond_false rfl ?_; refine W_skip ?_; refine W_region rfl ?_; refine Wo rfl (opv_move (v := .int _ _) rfl) ?_; refine Wo rfl (opv_add rfl rfl (by omega)) ?_; refine Wo rfl (opv_assign (v := .int _ _) rfl) ?_
              refine Wo_nil ?_; rotate_left; (exfalso; omega)
            · have h9 : ((M >>> k : Nat) : Int) % 2 = 1 := by assumption
              have hb : p[k][j] = 1 := by assumption
              have hMk : M.testBit k = true := by
                cases hc : M.testBit k with
                | true => rfl
                | false => rw [hc, if_neg Bool.false_ne_true] at hsm; omega
              have hor : ∀ x, (M ||| 1 <<< j).testBit x = (M.testBit x || decide (j = x)) := fun x => by rw [Nat.testBit_or, h1b]
              refine ⟨((j + 1, M ||| 1 <<< j)), by repeat (first | exact trivial | refine And.intro rfl ?_), by repeat (first | with_reducible exact Same.refl | refine Same.upd rfl ?_ | refine Same.upds rfl ?_ | refine Same.mix rfl ?_), ?_, ?_⟩
              · refine ⟨rfl, by omega, Nat.or_lt_two_pow hM (h1p j hjl), fun x hx => by rw [hor, hC x hx]; rfl, fun x hx => ?_, fun k' hk' hs x hx => by rw [hor, hK k' hk' hs x hx]; rfl, fun x hx hs hm => ?_⟩
                · rw [hor] at hx
                  by_cases e : j = x
                  · subst e; exact (hS k hMk).step (hma.2 ⟨hjl, hb⟩)
                  · rw [decide_eq_false e, Bool.or_false] at hx; exact hS x hx
                · rw [hor]
                  by_cases e : j = x
                  · rw [decide_eq_true e]; simp
                  · rw [hJ x (by omega) hs hm]; rfl
              · simp only; omega
            · have hb : ¬ p[k][j] = 1 := by assumption
              refine ⟨((j + 1, M)), by repeat (first | exact trivial | refine And.intro rfl ?_), by repeat (first | with_reducible exact Same.refl | refine Same.upd rfl ?_ | refine Same.upds rfl ?_ | refine Same.mix rfl ?_), ?_, ?_⟩
              · refine ⟨rfl, by omega, hM, hC, hS, hK, fun x hx hs hm => ?_⟩
                by_cases e : j = x
                · subst e; exact absurd (hma.1 hm).2 hb
                · exact hJ x (by omega) hs hm
              · simp only; omega
            · have h9 : ¬ ((M >>> k : Nat) : Int) % 2 = 1 := by assumption
              have hMk : ¬ M.testBit k = true := fun hc => by
                rw [hc, if_pos rfl] at hsm; omega
              refine ⟨((j + 1, M)), by repeat (first | exact trivial | refine And.intro rfl ?_), by repeat (first | with_reducible exact Same.refl | refine Same.upd rfl ?_ | refine Same.upds rfl ?_ | refine Same.mix rfl ?_), ?_, ?_⟩
              · refine ⟨rfl, by omega, hM, hC, hS, hK, fun x hx hs hm => absurd (hC k hs) hMk⟩
              · simp only; omega
          · obtain rfl : j = p.length := by omega
            focus
              have szE3 := E3.size; have szE2 := E2.size; have szE1 := E1.size; refine W_seq ?_; refine W_seq ?_; refine W_region rfl ?_; refine Wo rfl (opv_move (v := .int _ _) rfl) ?_; refine Wo rfl (opv_move (v := v) rfl) ?_
              refine Wo rfl (opv_len Tryd.underlying49 rfl h) ?_; refine Wo rfl (opv_lss rfl rfl) ?_; refine Wo_nil ?_; refine W_cond_dec rfl (fun h6 => ?_) (fun h6 => ?_); (exfalso; omega); refine W_exit ?_; refine exitX_same ?_
              refine W_region rfl ?_; refine Wo rfl (opv_move (v := .int _ _) rfl) ?_; refine Wo rfl (opv_add rfl rfl (by omega)) ?_; refine Wo rfl (opv_assign (v := .int _ _) rfl) ?_; refine Wo_nil ?_
            refine ⟨((k + 1, M)), by repeat (first | exact trivial | refine And.intro rfl ?_), by repeat (first | with_reducible exact Same.refl | refine Same.upd rfl ?_ | refine Same.upds rfl ?_ | refine Same.mix rfl ?_), ?_, ?_⟩
            · refine ⟨rfl, by omega, hM, hC, hS, fun k' hk' hs x hx => ?_⟩
              by_cases e : k' = k
              · subst e; exact hJ x ((mem_arr hp hkl).1 hx).1 hs hx
              · exact hK k' (by omega) hs x hx
            · simp only; omega
        · obtain rfl : k = p.length := by omega
          focus
            have szE3 := E3.size; have szE2 := E2.size; have szE1 := E1.size; refine W_seq ?_; refine W_seq ?_; refine W_region rfl ?_; refine Wo rfl (opv_move (v := .int _ _) rfl) ?_; refine Wo rfl (opv_move (v := v) rfl) ?_
            refine Wo rfl (opv_len Tryd.underlying49 rfl h) ?_; refine Wo rfl (opv_lss rfl rfl) ?_; refine Wo_nil ?_; refine W_cond_dec rfl (fun h5 => ?_) (fun h5 => ?_); (exfalso; omega); refine W_exit ?_; refine exitX_same ?_
            refine W_region rfl ?_; refine Wo rfl (opv_move (v := .int _ _) rfl) ?_; refine Wo rfl (opv_add rfl rfl (by omega)) ?_; refine Wo rfl (opv_assign (v := .int _ _) rfl) ?_; refine Wo_nil ?_
          refine ⟨((n + 1, M)), by repeat (first | exact trivial | refine And.intro rfl ?_), by repeat (first | with_reducible exact Same.refl | refine Same.upd rfl ?_ | refine Same.upds rfl ?_ | refine Same.mix rfl ?_), ?_, ?_⟩
          · refine ⟨rfl, by omega, hM, fun x hx => ?_, hS⟩
            rcases hx with hx | ⟨k', h9, h10⟩
            · exact hC x hx
            · exact hK k' ((st_rch h9).lt hp hi) h9 x h10
          · simp only; omega
      · obtain rfl : n = p.length := by omega
        have hb : ∀ k, M.testBit k = rch p i k := fun k => by
          cases hc : rch p i k with
          | true => exact hC k (rch_st hp hi (rch_iff.1 hc))
          | false => cases hd : M.testBit k with
            | true => rw [rch_iff.2 (hS k hd)] at hc; cases hc
            | false => rfl
        clear hC hS
        focus
          have szE3 := E3.size; have szE2 := E2.size; have szE1 := E1.size; refine W_seq ?_; refine W_seq ?_; refine W_region rfl ?_; refine Wo rfl (opv_move (v := .int _ _) rfl) ?_; refine Wo rfl (opv_move (v := v) rfl) ?_
          refine Wo rfl (opv_len Tryd.underlying49 rfl h) ?_; refine Wo rfl (opv_lss rfl rfl) ?_; refine Wo_nil ?_; refine W_cond_dec rfl (fun h4 => ?_) (fun h4 => ?_); (exfalso; omega); refine W_exit ?_; refine exitX_same ?_; refine W_seq ?_
          refine W_seq ?_; refine W_region rfl ?_; refine Wo rfl (opv_assign (v := .int _ _) rfl) ?_; refine Wo_nil ?_; refine W_block ?_
        refine W_loop [5, 10, 63, 64, 65, 66, 67, 68, 69, 70, 71, 72, 73, 74, 75, 76, 77] (fun (k, u) => [(10, .int .i64 (k : Nat)), (5, u)]) (fun (k, u) w' => Ext w w' ∧ k ≤ p.length ∧ Owned w.heap.size XI w' u (ints ((List.range k).filter (rch p i)))) (fun x => p.length - x.1) (0, .slice (some ⟨b1, 0, none⟩) 0 0) (by repeat (first | exact trivial | refine And.intro rfl ?_)) ?_ ?_
        · exact ⟨(E1.trans E2).trans E3, Nat.zero_le _, by simpa [ints] using hO1.ext (E2.trans E3)⟩
        rintro ⟨k, u⟩ ρk w5 ⟨E5, hk, hO5⟩
        have hll : (ints ((List.range k).filter (rch p i))).length ≤ k := by
          rw [ints_len]; exact Nat.le_trans (List.length_filter_le _ _) (by simp)
        have hfs := filter_range_succ (rch p i) k
        have hsm := shr_mod M k
        by_cases hlt : k < p.length
        · rw [hb k] at hsm
          focus
            have szE5 := E5.size; have szE3 := E3.size; have szE2 := E2.size; have szE1 := E1.size; refine W_seq ?_; refine W_seq ?_; refine W_region rfl ?_; refine Wo rfl (opv_move (v := .int _ _) rfl) ?_
            refine Wo rfl (opv_move (v := v) rfl) ?_; refine Wo rfl (opv_len Tryd.underlying49 rfl h) ?_; refine Wo rfl (opv_lss rfl rfl) ?_; refine Wo_nil ?_; refine W_cond_dec rfl (fun h5 => ?_) (fun h5 => ?_); refine W_skip ?_
            refine W_seq ?_; refine W_block ?_; refine W_seq ?_; refine W_region rfl ?_; refine Wo rfl (opv_move (v := .int _ _) rfl) ?_; refine Wo rfl (opv_move (v := .int _ _) rfl) ?_; refine Wo rfl (opv_shr rfl rfl (by omega)) ?_
            refine Wo rfl (opv_rem rfl rfl ⟨Int.natCast_nonneg _, by omega⟩) ?_; refine Wo rfl (opv_eql rfl rfl) ?_; refine Wo_nil ?_; refine W_cond_dec rfl (fun h6 => ?_) (fun h6 => ?_); refine W_region rfl ?_
            refine Wo rfl (opv_move (v := u) rfl) ?_; refine Wo rfl (opv_move (v := .int _ _) rfl) ?_; refine Wo_buildSlice (ps := [(0, .int _ _)]) (cs := [_]) rfl Tryd.underlying80 Tryd.sizeOf3 Tryd.zeroValue3 rfl rfl rfl rfl ?_
            rintro b2 w3 hb2 E4 hB1; have hlb2 := hB1.lt; have hs4 := E4.size
            refine Wo_app1 rfl el80 rfl rfl hB1 (hO5.toB.ext E4) Owned.int (Nat.le_refl _) (by first | omega | (simp <;> omega)) (by omega) (by omega) (E5.trans E4) (by omega) ?_; have hT1 := (hO5.toB.ext E4); rintro v1 w6 hO5 E6 M1
            have hB1 := hB1.moves M1 hT1 (by omega); have hs5 := E6.size; refine Wo rfl (opv_assign (v := v1) rfl) ?_; refine Wo_nil ?_; refine W_region rfl ?_; refine Wo rfl (opv_move (v := .int _ _) rfl) ?_
            refine Wo rfl (opv_add rfl rfl (by omega)) ?_; refine Wo rfl (opv_assign (v := .int _ _) rfl) ?_; refine Wo_nil ?_; rotate_left; refine W_skip ?_; refine W_region rfl ?_; refine Wo rfl (opv_move (v := .int _ _) rfl) ?_
            refine Wo rfl (opv_add rfl rfl (by omega)) ?_; refine Wo rfl (opv_assign (v := .int _ _) rfl) ?_; refine Wo_nil ?_; rotate_left; (exfalso; omega)
          · have h1 : ((M >>> k : Nat) : Int) % 2 = 1 := by assumption
            have hf : rch p i k = true := by
              cases hc : rch p i k with
              | true => rfl
              | false => rw [hc, if_neg Bool.false_ne_true] at hsm; omega
            refine ⟨((k + 1, v1)), by repeat (first | exact trivial | refine And.intro rfl ?_), by repeat (first | with_reducible exact Same.refl | refine Same.upd rfl ?_ | refine Same.upds rfl ?_ | refine Same.mix rfl ?_), ?_, ?_⟩
            · refine ⟨by assumption, by omega, ?_⟩
              rw [hfs, if_pos hf, ints_append]
              assumption
            · simp only; omega
          · have h1 : ¬ ((M >>> k : Nat) : Int) % 2 = 1 := by assumption
            have hf : rch p i k = false := by
              cases hc : rch p i k with
              | false => rfl
              | true => rw [hc, if_pos rfl] at hsm; omega
            refine ⟨((k + 1, u)), by repeat (first | exact trivial | refine And.intro rfl ?_), by repeat (first | with_reducible exact Same.refl | refine Same.upd rfl ?_ | refine Same.upds rfl ?_ | refine Same.mix rfl ?_), ?_, ?_⟩
            · refine ⟨by assumption, by omega, ?_⟩
              rw [hfs, if_neg (by rw [hf]; exact Bool.false_ne_true), List.append_nil]
              assumption
            · simp only; omega
        · obtain rfl : k = p.length := by omega
          focus
            have szE5 := E5.size; have szE3 := E3.size; have szE2 := E2.size; have szE1 := E1.size; refine W_seq ?_; refine W_seq ?_; refine W_region rfl ?_; refine Wo rfl (opv_move (v := .int _ _) rfl) ?_
            refine Wo rfl (opv_move (v := v) rfl) ?_; refine Wo rfl (opv_len Tryd.underlying49 rfl h) ?_; refine Wo rfl (opv_lss rfl rfl) ?_; refine Wo_nil ?_; refine W_cond_dec rfl (fun h5 => ?_) (fun h5 => ?_); contradiction; refine W_exit ?_
            refine exitX_same ?_; refine W_seq ?_; refine W_region rfl ?_; refine Wo rfl (opv_move (v := u) rfl) ?_; refine Wo rfl (opv_assign (v := u) rfl) ?_; refine Wo_nil ?_; refine W_ret ?_; exact ⟨E5, hO5.toB.o.mono (by omega)⟩
    · have hV : rfV p z = [] := if_neg (fun h => hz h.2)
      rw [hV]
      refine fn_of_W1 Tryd.func99 rfl Tryd.results99 Tryd.ntmps99 rfl ?_
      focus
        refine W_seq ?_; refine W_region rfl ?_; refine Wo rfl (opv_assign (v := .slice _ _ _) rfl) ?_; refine Wo_nil ?_; refine W_seq ?_; refine W_region rfl ?_; refine Wo_lit0 XInt rfl el80 Tryd.sizeOf3 ?_; rintro b1 w1 hb1 b1lt E1 hO1
        have hs1 := E1.size; refine Wo rfl (opv_assign (v := .slice _ _ _) rfl) ?_; refine Wo_nil ?_; refine W_seq ?_; refine W_seq ?_; refine W_region rfl ?_; refine Wo rfl (opv_move (v := v) rfl) ?_
        refine Wo_call rfl (opc1 (a := v) Tryd.call70 rfl) (hpic _ _ ((Mono.mono E1 h))) ?_; rintro _ w2 ⟨rfl, E2⟩; have hs2 := E2.size; refine Wo rfl (opv_not rfl) ?_
        refine Wo_split rfl (opv_move (v := .bool _) rfl) (fun h1 => ?_) (fun h1 => ?_); contradiction; refine Wo rfl (opv_move (v := .int _ _) rfl) ?_; refine Wo rfl (opv_move (v := v) rfl) ?_
        refine Wo rfl (opv_len Tryd.underlying49 rfl h) ?_; refine Wo rfl (opv_sub rfl rfl (by omega)) ?_; refine Wo_call rfl (opc3 (a := .int _ _) (b := .int _ _) (c := .int _ _) Tryd.call42 rfl rfl rfl) (l1In_ok _ _ _ _) ?_
        rintro _ w3 ⟨rfl, E3⟩; have hs3 := E3.size; refine Wo rfl (opv_not rfl) ?_; refine Wo rfl (opv_pick_f (v := .bool _) rfl rfl) ?_; refine Wo_nil ?_; refine W_cond_ndec rfl (fun h2 => ?_) (fun h2 => ?_); refine W_seq ?_
        refine W_region rfl ?_; refine Wo rfl (opv_move (v := .slice _ _ _) rfl) ?_; refine Wo rfl (opv_assign (v := .slice _ _ _) rfl) ?_; refine Wo_nil ?_; refine W_ret ?_
        exact ⟨((E1.trans E2).trans E3), (hO1.toB.ext (E2.trans E3)).o.mono (by omega)⟩; (exfalso; omega)
  · have hpic : ∀ (w : World) (pv : Value), ESl Ints w pv p → Does Tryd.prog 70 [pv] w (Ret w (.bool false)) := fun w pv h => by
      have := PictureOk_ok w pv p h
      rw [decide_eq_false hp] at this; exact this
    have hV : rfV p z = [] := if_neg (fun h => hp h.1)
    rw [hV]
    refine fn_of_W1 Tryd.func99 rfl Tryd.results99 Tryd.ntmps99 rfl ?_
    focus
      refine W_seq ?_; refine W_region rfl ?_; refine Wo rfl (opv_assign (v := .slice _ _ _) rfl) ?_; refine Wo_nil ?_; refine W_seq ?_; refine W_region rfl ?_; refine Wo_lit0 XInt rfl el80 Tryd.sizeOf3 ?_; rintro b1 w1 hb1 b1lt E1 hO1
      have hs1 := E1.size; refine Wo rfl (opv_assign (v := .slice _ _ _) rfl) ?_; refine Wo_nil ?_; refine W_seq ?_; refine W_seq ?_; refine W_region rfl ?_; refine Wo rfl (opv_move (v := v) rfl) ?_
      refine Wo_call rfl (opc1 (a := v) Tryd.call70 rfl) (hpic _ _ ((Mono.mono E1 h))) ?_; rintro _ w2 ⟨rfl, E2⟩; have hs2 := E2.size; refine Wo rfl (opv_not rfl) ?_
      refine Wo_split rfl (opv_move (v := .bool _) rfl) (fun h1 => ?_) (fun h1 => ?_); refine Wo_skip rfl ?_; refine Wo_skip rfl ?_; refine Wo_skip rfl ?_; refine Wo_skip rfl ?_; refine Wo_skip rfl ?_; refine Wo_skip rfl ?_
      refine Wo rfl (opv_pick_t (v := .bool _) rfl rfl) ?_; refine Wo_nil ?_; refine W_cond_true rfl ?_; refine W_seq ?_; refine W_region rfl ?_; refine Wo rfl (opv_move (v := .slice _ _ _) rfl) ?_
      refine Wo rfl (opv_assign (v := .slice _ _ _) rfl) ?_; refine Wo_nil ?_; refine W_ret ?_; exact ⟨(E1.trans E2), (hO1.toB.ext E2).o.mono (by omega)⟩; contradiction

end Go.Proofs.YtgphoihilheoeaaDoor
namespace Go.Proofs.YtgphoihilheoeaaDoor
open Go.Hs
set_option maxRecDepth 10000
set_option maxHeartbeats 4000000
set_option linter.unusedVariables false
set_option linter.unusedSimpArgs false

end Go.Proofs.YtgphoihilheoeaaDoor
set_option linter.unusedVariables false
set_option linter.unusedSimpArgs false
namespace Go.Hs
section
variable {p : List (List Int)} {a b c d n m : Nat}
theorem mch_iff {S : Nat → Nat → Bool} : mch p S a b = true ↔ ∀ k ∈ arr p a, ∃ j ∈ arr p b, S k j = true := by simp [mch, List.all_eq_true, List.any_eq_true]
theorem bsm_succ : bsm p (n + 1) a b = true ↔ bsm p n a b = true ∧ (∀ k ∈ arr p a, ∃ j ∈ arr p b, bsm p n k j = true) ∧ (∀ k ∈ arr p b, ∃ j ∈ arr p a, bsm p n k j = true) := by
  simp only [bsm, Bool.and_eq_true, mch_iff]
theorem bsm_refl : ∀ (n a : Nat), bsm p n a a = true := by
  intro n
  induction n with
  | zero => intro a; rfl
  | succ n ih => intro a; exact bsm_succ.2 ⟨ih a, fun k hk => ⟨k, hk, ih k⟩, fun k hk => ⟨k, hk, ih k⟩⟩
theorem bsm_trans : ∀ (n : Nat) {a b c : Nat}, bsm p n a b = true → bsm p n b c = true → bsm p n a c = true := by
  intro n
  induction n with
  | zero => intro a b c _ _; rfl
  | succ n ih =>
    intro a b c h1 h2
    obtain ⟨h3, h4, h5⟩ := bsm_succ.1 h1
    obtain ⟨h6, h7, h8⟩ := bsm_succ.1 h2
    refine bsm_succ.2 ⟨ih h3 h6, fun k hk => ?_, fun k hk => ?_⟩
    · obtain ⟨j, hj, e⟩ := h4 k hk
      obtain ⟨i, hi, e2⟩ := h7 j hj
      exact ⟨i, hi, ih e e2⟩
    · obtain ⟨j, hj, e⟩ := h8 k hk
      obtain ⟨i, hi, e2⟩ := h5 j hj
      exact ⟨i, hi, ih e e2⟩
/-- the least of those it is not told apart from -/
def ldr (p : List (List Int)) (n a : Nat) : Prop := ∀ b, b < a → bsm p n b a = false
theorem ldr_ex (n : Nat) : ∀ a, ∃ c, c ≤ a ∧ ldr p n c ∧ bsm p n c a = true := by
  intro a
  induction a using Nat.strongRecOn with
  | ind a ih =>
    by_cases h : ldr p n a
    · exact ⟨a, Nat.le_refl _, h, bsm_refl _ _⟩
    · obtain ⟨b, hb⟩ := Classical.not_forall.1 h
      obtain ⟨hb, h2⟩ := Classical.not_imp.1 hb
      obtain ⟨c, hc, h3, h4⟩ := ih b hb
      exact ⟨c, by omega, h3, bsm_trans n h4 (by simpa using h2)⟩
theorem ldr_eq (h1 : ldr p n c) (h2 : ldr p n d) (h : bsm p n c d = true) : c = d := by
  rcases Nat.lt_trichotomy c d with hl | rfl | hl
  · rw [h2 c hl] at h; cases h
  · rfl
  · rw [bsm_sym, h1 d hl] at h; cases h
theorem ldr_up (h : ldr p n a) : ldr p (n + 1) a := fun b hb => by
  cases hc : bsm p (n + 1) b a with
  | false => rfl
  | true => have := bsm_le hc; rw [h b hb] at this; cases this
def stab (p : List (List Int)) (n : Nat) : Prop := ∀ a b, a < p.length → b < p.length → bsm p n a b = true → bsm p (n + 1) a b = true
theorem stab_of (h : ∀ a, a < p.length → ldr p (n + 1) a → ldr p n a) : stab p n := fun a b ha hb hab => by
  obtain ⟨c, hc, hc1, hc2⟩ := ldr_ex (p := p) (n + 1) a
  obtain ⟨d, hd, hd1, hd2⟩ := ldr_ex (p := p) (n + 1) b
  have e : c = d := by
    refine ldr_eq (h c (by omega) hc1) (h d (by omega) hd1) (bsm_trans n (bsm_le hc2) (bsm_trans n hab ?_))
    rw [bsm_sym]; exact bsm_le hd2
  subst e
  refine bsm_trans (n + 1) ?_ hd2
  rw [bsm_sym]; exact hc2
theorem arr_lt (hp : Gr p) (ha : a < p.length) (h : b ∈ arr p a) : b < p.length := ((mem_arr hp ha).1 h).1
theorem stab_succ (hp : Gr p) (h : stab p n) : stab p (n + 1) := fun a b ha hb hab => by
  obtain ⟨h1, h2, h3⟩ := bsm_succ.1 hab
  refine bsm_succ.2 ⟨hab, fun k hk => ?_, fun k hk => ?_⟩
  · obtain ⟨j, hj, e⟩ := h2 k hk
    exact ⟨j, hj, h _ _ (arr_lt hp ha hk) (arr_lt hp hb hj) e⟩
  · obtain ⟨j, hj, e⟩ := h3 k hk
    exact ⟨j, hj, h _ _ (arr_lt hp hb hk) (arr_lt hp ha hj) e⟩
theorem stab_or (hp : Gr p) : ∀ n, stab p n ∨ n + 1 < cnt (ldr p (n + 1)) p.length := by
  have key : ∀ n, stab p n ∨ cnt (ldr p n) p.length < cnt (ldr p (n + 1)) p.length := fun n => by
    by_cases h : ∀ a, a < p.length → ldr p (n + 1) a → ldr p n a
    · exact .inl (stab_of h)
    · right
      obtain ⟨a, ha⟩ := Classical.not_forall.1 h
      obtain ⟨ha, h2⟩ := Classical.not_imp.1 ha
      obtain ⟨h2, h3⟩ := Classical.not_imp.1 h2
      exact cnt_lt (fun j _ hj => ldr_up hj) ha h2 h3
  intro n
  induction n with
  | zero =>
    rcases key 0 with h | h
    · exact .inl h
    · have := cnt_pos (P := ldr p 0) (k := 0) (n := p.length) (by have := hp.1; omega) (fun b hb => by omega)
      right; omega
  | succ n ih =>
    rcases ih with h | h
    · exact .inl (stab_succ hp h)
    · rcases key (n + 1) with h2 | h2
      · exact .inl h2
      · right; omega
theorem stab_len (hp : Gr p) (h : p.length ≤ n + 1) : stab p n := by
  rcases stab_or hp n with h1 | h1
  · exact h1
  · have := cnt_le (ldr p (n + 1)) p.length; omega
end
end Go.Hs
set_option linter.unusedVariables false
set_option linter.unusedSimpArgs false
namespace Go.Hs
open Classical
section
variable {p q s : List (List Int)} {a b c x y z k j n m : Nat}

/-- both draw the same set -/
def Bis (p : List (List Int)) (a : Nat) (q : List (List Int)) (b : Nat) : Prop :=
  ∃ R : Nat → Nat → Prop, R a b ∧ ∀ x y, R x y → (∀ k ∈ arr p x, ∃ j ∈ arr q y, R k j) ∧ (∀ j ∈ arr q y, ∃ k ∈ arr p x, R k j)
theorem Bis.refl : Bis p a p a := ⟨fun x y => x = y, rfl, by rintro x y rfl; exact ⟨fun k hk => ⟨k, hk, rfl⟩, fun k hk => ⟨k, hk, rfl⟩⟩⟩
theorem Bis.symm (h : Bis p a q b) : Bis q b p a := by
  obtain ⟨R, h1, h2⟩ := h
  exact ⟨fun x y => R y x, h1, fun x y h => ⟨(h2 y x h).2, (h2 y x h).1⟩⟩
theorem Bis.trans (h : Bis p a q b) (h' : Bis q b s c) : Bis p a s c := by
  obtain ⟨R, h1, h2⟩ := h
  obtain ⟨S, h3, h4⟩ := h'
  refine ⟨fun x z => ∃ y, R x y ∧ S y z, ⟨b, h1, h3⟩, fun x z ⟨y, h5, h6⟩ => ⟨fun k hk => ?_, fun k hk => ?_⟩⟩
  · obtain ⟨j, hj, e⟩ := (h2 x y h5).1 k hk
    obtain ⟨i, hi, e2⟩ := (h4 y z h6).1 j hj
    exact ⟨i, hi, j, e, e2⟩
  · obtain ⟨j, hj, e⟩ := (h4 y z h6).2 k hk
    obtain ⟨i, hi, e2⟩ := (h2 x y h5).2 j hj
    exact ⟨i, hi, j, e2, e⟩
theorem Bis.fst (h : Bis p a q b) : ∀ k ∈ arr p a, ∃ j ∈ arr q b, Bis p k q j := by
  obtain ⟨R, h1, h2⟩ := h
  intro k hk
  obtain ⟨j, hj, e⟩ := (h2 a b h1).1 k hk
  exact ⟨j, hj, R, e, h2⟩
theorem Bis.snd (h : Bis p a q b) : ∀ j ∈ arr q b, ∃ k ∈ arr p a, Bis p k q j := by
  obtain ⟨R, h1, h2⟩ := h
  intro k hk
  obtain ⟨j, hj, e⟩ := (h2 a b h1).2 k hk
  exact ⟨j, hj, R, e, h2⟩
/-- what has the same members is the same -/
theorem Bis.mk (h1 : ∀ k ∈ arr p a, ∃ j ∈ arr q b, Bis p k q j) (h2 : ∀ j ∈ arr q b, ∃ k ∈ arr p a, Bis p k q j) : Bis p a q b := by
  refine ⟨fun x y => (x = a ∧ y = b) ∨ Bis p x q y, .inl ⟨rfl, rfl⟩, fun x y h => ?_⟩
  have hh : (∀ k ∈ arr p x, ∃ j ∈ arr q y, Bis p k q j) ∧ (∀ j ∈ arr q y, ∃ k ∈ arr p x, Bis p k q j) := by
    rcases h with ⟨rfl, rfl⟩ | h
    · exact ⟨h1, h2⟩
    · exact ⟨h.fst, h.snd⟩
  exact ⟨fun k hk => by obtain ⟨j, hj, e⟩ := hh.1 k hk; exact ⟨j, hj, .inr e⟩, fun k hk => by obtain ⟨j, hj, e⟩ := hh.2 k hk; exact ⟨j, hj, .inr e⟩⟩
theorem Bis.rch (h : Bis p a q b) (hr : Rch p a x) : ∃ y, Rch q b y ∧ Bis p x q y := by
  induction hr with
  | refl => exact ⟨b, .refl _, h⟩
  | step h1 hj ih =>
    obtain ⟨y, h2, h3⟩ := ih
    obtain ⟨j, hj', e⟩ := h3.fst _ hj
    exact ⟨j, h2.step hj', e⟩

/-- not told apart in as many rounds as there are nodes -/
def eqv (p : List (List Int)) (a b : Nat) : Bool := bsm p p.length a b
theorem Bis.bsm (h : Bis p a p b) : ∀ n, bsm p n a b = true := by
  intro n
  obtain ⟨R, h1, h2⟩ := h
  induction n generalizing a b with
  | zero => rfl
  | succ n ih =>
    refine bsm_succ.2 ⟨ih h1, fun k hk => ?_, fun k hk => ?_⟩
    · obtain ⟨j, hj, e⟩ := (h2 a b h1).1 k hk
      exact ⟨j, hj, ih e⟩
    · obtain ⟨j, hj, e⟩ := (h2 a b h1).2 k hk
      refine ⟨j, hj, ?_⟩
      rw [bsm_sym]; exact ih e
theorem bis_of_eqv (hp : Gr p) (ha : a < p.length) (hb : b < p.length) (h : eqv p a b = true) : Bis p a p b := by
  refine ⟨fun x y => x < p.length ∧ y < p.length ∧ eqv p x y = true, ⟨ha, hb, h⟩, fun x y ⟨h1, h2, h3⟩ => ?_⟩
  obtain ⟨_, h4, h5⟩ := bsm_succ.1 (stab_len hp (Nat.le_succ _) x y h1 h2 h3)
  refine ⟨fun k hk => ?_, fun k hk => ?_⟩
  · obtain ⟨j, hj, e⟩ := h4 k hk
    exact ⟨j, hj, arr_lt hp h1 hk, arr_lt hp h2 hj, e⟩
  · obtain ⟨j, hj, e⟩ := h5 k hk
    refine ⟨j, hj, arr_lt hp h1 hj, arr_lt hp h2 hk, ?_⟩
    unfold eqv; rw [bsm_sym]; exact e
theorem eqv_iff (hp : Gr p) (ha : a < p.length) (hb : b < p.length) : eqv p a b = true ↔ Bis p a p b := ⟨bis_of_eqv hp ha hb, fun h => h.bsm _⟩

/-- the least node that draws the same set -/
def knd (p : List (List Int)) (a : Nat) : Nat := ((List.range p.length).find? fun b => eqv p a b).getD 0
theorem knd_spec (ha : a < p.length) : knd p a < p.length ∧ eqv p a (knd p a) = true ∧ ∀ b, b < knd p a → eqv p a b = false := by
  unfold knd
  cases h : (List.range p.length).find? fun b => eqv p a b with
  | none =>
    have := List.find?_eq_none.1 h a (List.mem_range.2 ha)
    exact absurd (bsm_refl _ _) this
  | some b =>
    simp only [Option.getD_some]
    obtain ⟨h1, as1, bs, h2, h3⟩ := List.find?_eq_some_iff_append.1 h
    have hb : b < p.length := List.mem_range.1 (by rw [h2]; simp)
    refine ⟨hb, h1, fun i hi => ?_⟩
    have hpw : (List.range p.length).Pairwise (· < ·) := List.pairwise_lt_range
    rw [h2, List.pairwise_append] at hpw
    have hm : i ∈ as1 ++ b :: bs := by rw [← h2]; exact List.mem_range.2 (by omega)
    rcases List.mem_append.1 hm with hm | hm
    · simpa using h3 i hm
    · rcases List.mem_cons.1 hm with rfl | hm
      · omega
      · have := (List.pairwise_cons.1 hpw.2.1).1 i hm; omega
theorem eqv_sym (a b : Nat) : eqv p a b = eqv p b a := bsm_sym _ _ _
theorem eqv_trans (h : eqv p a b = true) (h2 : eqv p b c = true) : eqv p a c = true := bsm_trans _ h h2
theorem knd_lt (ha : a < p.length) : knd p a < p.length := (knd_spec ha).1
theorem knd_eq_iff (ha : a < p.length) (hb : b < p.length) : knd p a = knd p b ↔ eqv p a b = true := by
  obtain ⟨h1, h2, h3⟩ := knd_spec ha
  obtain ⟨h4, h5, h6⟩ := knd_spec hb
  constructor
  · intro e
    refine eqv_trans h2 ?_
    rw [e, eqv_sym]; exact h5
  · intro e
    rcases Nat.lt_trichotomy (knd p a) (knd p b) with hl | he | hl
    · have := h6 _ hl
      rw [eqv_trans (by rw [eqv_sym]; exact e) h2] at this; cases this
    · exact he
    · have := h3 _ hl
      rw [eqv_trans e h5] at this; cases this
theorem knd_bis (hp : Gr p) (ha : a < p.length) (hb : b < p.length) : knd p a = knd p b ↔ Bis p a p b := (knd_eq_iff ha hb).trans (eqv_iff hp ha hb)
theorem knd_self (hp : Gr p) (ha : a < p.length) : Bis p a p (knd p a) := bis_of_eqv hp ha (knd_lt ha) (knd_spec ha).2.1
theorem knd_knd (ha : a < p.length) : knd p (knd p a) = knd p a := ((knd_eq_iff ha (knd_lt ha)).2 (knd_spec ha).2.1).symm

/-- the picture of these kinds, in this order -/
def qp (p : List (List Int)) (L : List Nat) : List (List Int) := L.map fun x => L.map fun y => b01 ((arr p x).any fun j => decide (knd p j = y))
/-- these are the kinds of all that a reaches, its own first -/
def Kds (p : List (List Int)) (a : Nat) (L : List Nat) : Prop := L.Nodup ∧ L.head? = some (knd p a) ∧ ∀ x, x ∈ L ↔ ∃ y, Rch p a y ∧ knd p y = x
/-- a picture of the set at a -/
def Cand (p : List (List Int)) (a : Nat) (c : List (List Int)) : Prop := ∃ L, Kds p a L ∧ c = qp p L
theorem qp_len {L : List Nat} : (qp p L).length = L.length := by simp [qp]
theorem qp_rlen {L : List Nat} (r : List Int) (h : r ∈ qp p L) : r.length = L.length := by
  obtain ⟨x, _, rfl⟩ := List.mem_map.1 h
  simp
theorem qp_bits {L : List Nat} (r : List Int) (h : r ∈ qp p L) (x : Int) (hx : x ∈ r) : x = 0 ∨ x = 1 := by
  obtain ⟨x, _, rfl⟩ := List.mem_map.1 h
  obtain ⟨y, _, rfl⟩ := List.mem_map.1 hx
  unfold b01; split <;> simp
theorem arr_qp {L : List Nat} {i m : Nat} (hi : i < L.length) : m ∈ arr (qp p L) i ↔ ∃ hm : m < L.length, ∃ j ∈ arr p L[i], knd p j = L[m] := by
  have e : (qp p L).getD i [] = L.map fun y => b01 ((arr p L[i]).any fun j => decide (knd p j = y)) := by
    rw [getD_lt (by rw [qp_len]; exact hi)]
    simp [qp]
  unfold arr
  rw [mem_arrR, e]
  simp only [List.length_map]
  constructor
  · rintro ⟨h1, h2⟩
    refine ⟨h1, ?_⟩
    rw [getD_lt (by simpa using h1)] at h2
    simp only [List.getElem_map, b01_one, List.any_eq_true, decide_eq_true_eq] at h2
    exact h2
  · rintro ⟨h1, h2⟩
    refine ⟨h1, ?_⟩
    rw [getD_lt (by simpa using h1)]
    simp only [List.getElem_map, b01_one, List.any_eq_true, decide_eq_true_eq]
    exact h2
theorem Kds.lt {L : List Nat} (hp : Gr p) (ha : a < p.length) (h : Kds p a L) (hx : x ∈ L) : x < p.length := by
  obtain ⟨y, h1, rfl⟩ := (h.2.2 x).1 hx
  exact knd_lt (h1.lt hp ha)
theorem Kds.len {L : List Nat} (hp : Gr p) (ha : a < p.length) (h : Kds p a L) : 1 ≤ L.length ∧ L.length ≤ p.length := by
  refine ⟨?_, nodup_len h.1 fun j hj => h.lt hp ha hj⟩
  have := h.2.1
  cases L with
  | nil => cases this
  | cons _ _ => simp
theorem Kds.kk {L : List Nat} (hp : Gr p) (ha : a < p.length) (h : Kds p a L) (hx : x ∈ L) : knd p x = x := by
  obtain ⟨y, h1, rfl⟩ := (h.2.2 x).1 hx
  exact knd_knd (h1.lt hp ha)
theorem Kds.perm {L L' : List Nat} (h : Kds p a L) (h' : Kds p a L') : L.Perm L' := (List.perm_ext_iff_of_nodup h.1 h'.1).2 fun x => (h.2.2 x).trans (h'.2.2 x).symm
theorem Cand.len {c c' : List (List Int)} (h : Cand p a c) (h' : Cand p a c') : c.length = c'.length := by
  obtain ⟨L, h1, rfl⟩ := h
  obtain ⟨L', h1', rfl⟩ := h'
  rw [qp_len, qp_len]; exact (h1.perm h1').length_eq
theorem Cand.gr {c : List (List Int)} (hp : Gr p) (ha : a < p.length) (h : Cand p a c) : Gr c := by
  obtain ⟨L, h1, rfl⟩ := h
  have := h1.len hp ha
  refine ⟨by rw [qp_len]; exact this.1, by rw [qp_len]; have := hp.2.1; omega, fun r hr => ⟨by rw [qp_len]; exact qp_rlen r hr, qp_bits r hr⟩⟩
theorem Cand.pic {c : List (List Int)} (hp : Gr p) (ha : a < p.length) (h : Cand p a c) (h5 : c.length ≤ 5) : Pic c := by
  have := h.gr hp ha
  exact ⟨this.1, h5, this.2.2⟩
/-- it draws the same set -/
theorem Cand.bis {c : List (List Int)} (hp : Gr p) (ha : a < p.length) (h : Cand p a c) : Bis p a c 0 := by
  obtain ⟨L, hL, rfl⟩ := h
  have hlen := hL.len hp ha
  have h0 : L[0]'(by omega) = knd p a := by
    have := hL.2.1
    rw [List.head?_eq_getElem?, List.getElem?_eq_getElem (by omega)] at this
    exact Option.some.inj this
  refine ⟨fun y i => Rch p a y ∧ ∃ hi : i < L.length, knd p y = L[i], ⟨.refl _, by omega, h0.symm⟩, fun y i ⟨h1, hi, h2⟩ => ?_⟩
  have hy := h1.lt hp ha
  have hb := knd_self hp hy
  rw [h2] at hb
  refine ⟨fun k hk => ?_, fun m hm => ?_⟩
  · have hr := h1.step hk
    obtain ⟨m, hm, e⟩ := List.mem_iff_getElem.1 ((hL.2.2 (knd p k)).2 ⟨k, hr, rfl⟩)
    obtain ⟨j, hj, e2⟩ := hb.fst k hk
    refine ⟨m, (arr_qp hi).2 ⟨hm, j, hj, ?_⟩, hr, hm, e.symm⟩
    rw [e]
    exact ((knd_bis hp (hr.lt hp ha) (arr_lt hp (hL.lt hp ha (List.getElem_mem hi)) hj)).2 e2).symm
  · obtain ⟨hm, j, hj, e⟩ := (arr_qp hi).1 hm
    obtain ⟨k, hk, e2⟩ := hb.snd j hj
    have hr := h1.step hk
    refine ⟨k, hk, hr, hm, ?_⟩
    rw [← e]
    exact (knd_bis hp (hr.lt hp ha) (arr_lt hp (hL.lt hp ha (List.getElem_mem hi)) hj)).2 e2
/-- what draws the same set has the same pictures -/
theorem Bis.cand {c : List (List Int)} (hp : Gr p) (hq : Gr q) (ha : a < p.length) (hb : b < q.length) (h : Bis p a q b) (hc : Cand p a c) : Cand q b c := by
  obtain ⟨L, hL, rfl⟩ := hc
  let φ : Nat → Nat := fun x => if hx : ∃ y, y < q.length ∧ Bis p x q y then knd q (Classical.choose hx) else 0
  have hφ : ∀ x y, y < q.length → Bis p x q y → φ x = knd q y := fun x y hy hxy => by
    have hx : ∃ y, y < q.length ∧ Bis p x q y := ⟨y, hy, hxy⟩
    have e : φ x = knd q (Classical.choose hx) := dif_pos hx
    have hs := Classical.choose_spec hx
    rw [e]
    exact (knd_bis hq hs.1 hy).2 (hs.2.symm.trans hxy)
  have hex : ∀ x ∈ L, ∃ z, Rch q b z ∧ Bis p x q z := fun x hx => by
    obtain ⟨y, h1, rfl⟩ := (hL.2.2 x).1 hx
    obtain ⟨z, h2, h3⟩ := h.rch h1
    exact ⟨z, h2, (knd_self hp (h1.lt hp ha)).symm.trans h3⟩
  have hxl : ∀ x ∈ L, x < p.length := fun x hx => hL.lt hp ha hx
  have hinj : ∀ x ∈ L, ∀ x' ∈ L, φ x = φ x' → x = x' := fun x hx x' hx' e => by
    obtain ⟨z, h1, h2⟩ := hex x hx
    obtain ⟨z', h1', h2'⟩ := hex x' hx'
    rw [hφ x z (h1.lt hq hb) h2, hφ x' z' (h1'.lt hq hb) h2'] at e
    have := (knd_bis hq (h1.lt hq hb) (h1'.lt hq hb)).1 e
    have := (knd_bis hp (hxl x hx) (hxl x' hx')).2 ((h2.trans this).trans h2'.symm)
    rw [hL.kk hp ha hx, hL.kk hp ha hx'] at this
    exact this
  refine ⟨L.map φ, ⟨?_, ?_, fun y => ?_⟩, ?_⟩
  · clear hex hxl
    obtain ⟨hn, _⟩ := hL
    unfold List.Nodup at hn ⊢
    rw [List.pairwise_map]
    refine List.Pairwise.imp_of_mem (fun {x y} hx hy hxy e => hxy (hinj x hx y hy e)) hn
  · rw [List.head?_map, hL.2.1]
    exact congrArg some (hφ _ b hb ((knd_self hp ha).symm.trans h))
  · rw [List.mem_map]
    constructor
    · rintro ⟨x, hx, rfl⟩
      obtain ⟨z, h1, h2⟩ := hex x hx
      exact ⟨z, h1, (hφ x z (h1.lt hq hb) h2).symm⟩
    · rintro ⟨z, h1, rfl⟩
      obtain ⟨y, h2, h3⟩ := h.symm.rch h1
      refine ⟨knd p y, (hL.2.2 _).2 ⟨y, h2, rfl⟩, hφ _ z (h1.lt hq hb) ((knd_self hp (h2.lt hp ha)).symm.trans h3.symm)⟩
  · unfold qp
    rw [List.map_map]
    refine List.map_congr_left fun x hx => ?_
    simp only [Function.comp, List.map_map]
    refine List.map_congr_left fun y hy => ?_
    simp only [Function.comp]
    refine congrArg b01 ?_
    rw [Bool.eq_iff_iff]
    simp only [List.any_eq_true, decide_eq_true_eq]
    obtain ⟨z, h1, h2⟩ := hex x hx
    have hz := h1.lt hq hb
    have ex := hφ x z hz h2
    have h3 := h2.trans (knd_self hq hz)
    rw [← ex] at h3
    have hpx := hxl x hx
    have hqx : φ x < q.length := by rw [ex]; exact knd_lt hz
    obtain ⟨z', h1', h2'⟩ := hex y hy
    have hz' := h1'.lt hq hb
    have ey := hφ y z' hz' h2'
    constructor
    · rintro ⟨j, hj, e⟩
      obtain ⟨i, hi, e2⟩ := h3.fst j hj
      refine ⟨i, hi, ?_⟩
      have hpj := arr_lt hp hpx hj
      rw [ey]
      refine (knd_bis hq (arr_lt hq hqx hi) hz').2 (e2.symm.trans ((knd_self hp hpj).trans ?_))
      rw [e]; exact h2'
    · rintro ⟨i, hi, e⟩
      obtain ⟨j, hj, e2⟩ := h3.snd i hi
      refine ⟨j, hj, ?_⟩
      have hpj := arr_lt hp hpx hj
      have hqi := arr_lt hq hqx hi
      rw [ey] at e
      have h5 := (knd_bis hq hqi hz').1 e
      have := (knd_bis hp hpj (hxl y hy)).2 ((e2.trans h5).trans h2'.symm)
      rw [hL.kk hp ha hy] at this
      exact this
end
end Go.Hs
set_option linter.unusedVariables false
set_option linter.unusedSimpArgs false
namespace Go.Hs
section
variable {s : UInt8} {l r x : List UInt8} {ps qs : List (List UInt8)}
/-- what stands between the bytes s -/
def cutB (s : UInt8) : List UInt8 → List (List UInt8)
  | [] => [[]]
  | c :: l => if c = s then [] :: cutB s l else match cutB s l with
    | [] => [[c]]
    | x :: xs => (c :: x) :: xs
/-- put together, with s between them -/
def joinB (s : UInt8) : List (List UInt8) → List UInt8
  | [] => []
  | x :: xs => x ++ xs.flatMap fun y => s :: y
theorem cutB_cons (c : UInt8) (l : List UInt8) : cutB s (c :: l) = if c = s then [] :: cutB s l else match cutB s l with
    | [] => [[c]]
    | x :: xs => (c :: x) :: xs := rfl
theorem cutB_ne : ∀ (l : List UInt8), cutB s l ≠ []
  | [] => by simp [cutB]
  | c :: l => by
    unfold cutB
    split
    · simp
    · split <;> simp
theorem cutB_snoc (c : UInt8) : ∀ (l : List UInt8) (ps : List (List UInt8)) (x : List UInt8), cutB s l = ps ++ [x] → cutB s (l ++ [c]) = if c = s then ps ++ [x, []] else ps ++ [x ++ [c]] := by
  intro l
  induction l with
  | nil =>
    intro ps x h
    have : ps = [] ∧ x = [] := by
      cases ps with
      | nil => simpa [cutB] using h.symm
      | cons a b => simp [cutB] at h
    obtain ⟨rfl, rfl⟩ := this
    by_cases hc : c = s <;> simp [cutB, hc]
  | cons d l ih =>
    intro ps x h
    rw [List.cons_append]
    unfold cutB at h ⊢
    by_cases hd : d = s
    · rw [if_pos hd] at h ⊢
      cases ps with
      | nil => simp only [List.nil_append, List.cons.injEq] at h; exact absurd h.2 (cutB_ne l)
      | cons a ps =>
        simp only [List.cons_append, List.cons.injEq] at h
        rw [ih ps x h.2, ← h.1]
        split <;> simp
    · rw [if_neg hd] at h ⊢
      cases hl : cutB s l with
      | nil => exact absurd hl (cutB_ne l)
      | cons y ys =>
        rw [hl] at h
        simp only at h
        cases ps with
        | nil =>
          simp only [List.nil_append, List.cons.injEq] at h
          have := ih [] y (by rw [hl, h.2]; rfl)
          rw [this, ← h.1]
          by_cases hc : c = s <;> simp [hc]
        | cons a ps =>
          simp only [List.cons_append, List.cons.injEq] at h
          have := ih (y :: ps) x (by rw [hl, h.2]; rfl)
          rw [this, ← h.1]
          by_cases hc : c = s <;> simp [hc]
theorem cutB_app (h : s ∉ l) : cutB s (l ++ s :: r) = l :: cutB s r := by
  induction l with
  | nil => simp [cutB]
  | cons c l ih =>
    rw [List.cons_append, cutB_cons, if_neg (fun e => h (by simp [e])), ih (fun hm => h (by simp [hm]))]
theorem cutB_one (h : s ∉ l) : cutB s l = [l] := by
  induction l with
  | nil => rfl
  | cons c l ih =>
    unfold cutB
    rw [if_neg (fun e => h (by simp [e])), ih (fun hm => h (by simp [hm]))]
theorem cutB_join (hne : ps ≠ []) (h : ∀ x ∈ ps, s ∉ x) : cutB s (joinB s ps) = ps := by
  induction ps with
  | nil => exact absurd rfl hne
  | cons x ps ih =>
    cases ps with
    | nil =>
      have : joinB s [x] = x := by simp [joinB]
      rw [this]; exact cutB_one (h x (by simp))
    | cons y ps =>
      have : joinB s (x :: y :: ps) = x ++ s :: joinB s (y :: ps) := by simp [joinB]
      rw [this, cutB_app (h x (by simp)), ih (by simp) (fun z hz => h z (by simp only [List.mem_cons] at hz ⊢; exact .inr hz))]
theorem joinB_snoc (hne : ps ≠ []) : joinB s (ps ++ [x]) = joinB s ps ++ s :: x := by
  cases ps with
  | nil => exact absurd rfl hne
  | cons y ps => simp [joinB]
theorem cutB_len (l : List UInt8) : (cutB s l).length = l.count s + 1 := by
  induction l with
  | nil => rfl
  | cons c l ih =>
    unfold cutB
    split
    · rename_i hc; subst hc; simp [ih]
    · rename_i hc
      rw [List.count_cons_of_ne hc, ← ih]
      cases hl : cutB s l with
      | nil => exact absurd hl (cutB_ne l)
      | cons y ys => rfl
/-- one more byte looked at -/
theorem cut_step {l : List UInt8} {from_ k : Nat} {ps : List (List UInt8)} (hk : k < l.length) (hf : from_ ≤ k) (h : cutB s (l.take k) = ps ++ [(l.drop from_).take (k - from_)]) :
    (l[k] = s → cutB s (l.take (k + 1)) = (ps ++ [(l.drop from_).take (k - from_)]) ++ [(l.drop (k + 1)).take (k + 1 - (k + 1))]) ∧ (l[k] ≠ s → cutB s (l.take (k + 1)) = ps ++ [(l.drop from_).take (k + 1 - from_)]) := by
  have e : l.take (k + 1) = l.take k ++ [l[k]] := by rw [List.take_succ_eq_append_getElem hk]
  have e2 : (l.drop from_).take (k + 1 - from_) = (l.drop from_).take (k - from_) ++ [l[k]] := by
    rw [show k + 1 - from_ = (k - from_) + 1 by omega, List.take_succ_eq_append_getElem (by simp; omega)]
    simp only [List.getElem_drop]
    congr 3; omega
  have := cutB_snoc (s := s) l[k] _ _ _ h
  rw [e]
  refine ⟨fun hc => ?_, fun hc => ?_⟩
  · rw [this, if_pos hc]; simp
  · rw [this, if_neg hc, e2]
end

section
open Op
theorem bless_irr : ∀ (a : List UInt8), bytesLess a a = false
  | [] => rfl
  | x :: a => by
    have := bless_irr a
    simp [bytesLess, this]
theorem bless_trans : ∀ (a b c : List UInt8), bytesLess a b = true → bytesLess b c = true → bytesLess a c = true := by
  intro a
  induction a with
  | nil =>
    intro b c h1 h2
    cases b with
    | nil => simp [bytesLess] at h1
    | cons y b =>
      cases c with
      | nil => simp [bytesLess] at h2
      | cons z c => rfl
  | cons x a ih =>
    intro b c h1 h2
    cases b with
    | nil => simp [bytesLess] at h1
    | cons y b =>
      cases c with
      | nil => simp [bytesLess] at h2
      | cons z c =>
        simp only [bytesLess, Bool.or_eq_true, Bool.and_eq_true, decide_eq_true_eq, beq_iff_eq] at h1 h2 ⊢
        rcases h1 with h1 | ⟨rfl, h1⟩
        · rcases h2 with h2 | ⟨rfl, h2⟩
          · exact .inl (UInt8.lt_trans h1 h2)
          · exact .inl h1
        · rcases h2 with h2 | ⟨rfl, h2⟩
          · exact .inl h2
          · exact .inr ⟨rfl, ih b c h1 h2⟩
theorem bless_tri : ∀ (a b : List UInt8), bytesLess a b = false → bytesLess b a = false → a = b := by
  intro a
  induction a with
  | nil =>
    intro b h1 h2
    cases b with
    | nil => rfl
    | cons y b => simp [bytesLess] at h1
  | cons x a ih =>
    intro b h1 h2
    cases b with
    | nil => simp [bytesLess] at h2
    | cons y b =>
      simp only [bytesLess, Bool.or_eq_false_iff, Bool.and_eq_false_iff, decide_eq_false_iff_not, beq_eq_false_iff_ne, ne_eq] at h1 h2
      obtain ⟨h3, h4⟩ := h1
      obtain ⟨h5, h6⟩ := h2
      have e : x = y := UInt8.le_antisymm (UInt8.not_lt.1 h5) (UInt8.not_lt.1 h3)
      subst e
      rw [ih b (h4.resolve_left (fun h => h rfl)) (h6.resolve_left (fun h => h rfl))]
/-- not less, one behind the other -/
theorem bless_ge {a b c : List UInt8} (h1 : bytesLess a b = false) (h2 : bytesLess b c = false) : bytesLess a c = false := by
  cases h : bytesLess a c with
  | false => rfl
  | true =>
    by_cases e : b = a
    · subst e; rw [h] at h2; cases h2
    · cases h3 : bytesLess b a with
      | true => rw [bless_trans _ _ _ h3 h] at h2; cases h2
      | false => exact absurd (bless_tri _ _ h3 h1) e
end

section
variable {p q : List (List Int)} {r r' : List Int} {n m : Nat}
def dig (n : Nat) : UInt8 := UInt8.ofNat (48 + n)
theorem dig_toNat (h : n < 200) : (dig n).toNat = 48 + n := by unfold dig; rw [UInt8.toNat_ofNat']; omega
theorem dig_inj (h : n < 200) (h' : m < 200) (e : dig n = dig m) : n = m := by
  have := congrArg UInt8.toNat e
  rw [dig_toNat h, dig_toNat h'] at this; omega
/-- the numbers of the nodes to which there are arrows -/
def txR (r : List Int) : List UInt8 := (arrR r).map dig
/-- the text of a picture -/
def txt (p : List (List Int)) : List UInt8 := joinB 47 (p.map txR)
theorem txR_sep (h : r.length ≤ 100) : (47 : UInt8) ∉ txR r := by
  intro hm
  obtain ⟨j, hj, e⟩ := List.mem_map.1 hm
  have := (mem_arrR.1 hj).1
  have e2 := congrArg UInt8.toNat e
  rw [dig_toNat (by omega)] at e2
  have : (47 : UInt8).toNat = 47 := rfl
  omega
theorem map_inj_on {f : Nat → UInt8} : ∀ {a b : List Nat}, (∀ x ∈ a, ∀ y ∈ b, f x = f y → x = y) → a.map f = b.map f → a = b
  | [], [], _, _ => rfl
  | [], _ :: _, _, h => by simp at h
  | _ :: _, [], _, h => by simp at h
  | x :: a, y :: b, hi, h => by
    simp only [List.map_cons, List.cons.injEq] at h
    rw [hi x (by simp) y (by simp) h.1, map_inj_on (fun x hx y hy => hi x (by simp [hx]) y (by simp [hy])) h.2]
theorem arrR_inj (hl : r.length = r'.length) (h1 : ∀ x ∈ r, x = 0 ∨ x = 1) (h2 : ∀ x ∈ r', x = 0 ∨ x = 1) (h : arrR r = arrR r') : r = r' := by
  refine List.ext_getElem hl fun i hi hi' => ?_
  have h3 := h1 _ (List.getElem_mem hi)
  have h4 := h2 _ (List.getElem_mem hi')
  have e1 : i ∈ arrR r ↔ r[i] = 1 := by rw [mem_arrR, getD_lt hi]; exact ⟨fun h => h.2, fun h => ⟨hi, h⟩⟩
  have e2 : i ∈ arrR r' ↔ r'[i] = 1 := by rw [mem_arrR, getD_lt hi']; exact ⟨fun h => h.2, fun h => ⟨hi', h⟩⟩
  rw [h] at e1
  have := e1.symm.trans e2
  rcases h3 with h3 | h3 <;> rcases h4 with h4 | h4 <;> rw [h3, h4] at this ⊢ <;> simp at this
theorem txR_inj (hl : r.length = r'.length) (hr : r.length ≤ 100) (h1 : ∀ x ∈ r, x = 0 ∨ x = 1) (h2 : ∀ x ∈ r', x = 0 ∨ x = 1) (h : txR r = txR r') : r = r' := by
  refine arrR_inj hl h1 h2 (map_inj_on (fun x hx y hy e => ?_) h)
  have := (mem_arrR.1 hx).1
  have := (mem_arrR.1 hy).1
  exact dig_inj (by omega) (by omega) e
theorem cut_txt (hp : Gr p) : cutB 47 (txt p) = p.map txR := by
  refine cutB_join (by have := hp.1; intro h; simp at h; subst h; simp at this) fun x hx => ?_
  obtain ⟨r, hr, rfl⟩ := List.mem_map.1 hx
  exact txR_sep (by rw [(hp.2.2 r hr).1]; have := hp.2.1; omega)
theorem txt_inj (hp : Gr p) (hq : Gr q) (h : txt p = txt q) : p = q := by
  have e : p.map txR = q.map txR := by rw [← cut_txt hp, ← cut_txt hq, h]
  have hl : p.length = q.length := by simpa using congrArg List.length e
  refine List.ext_getElem hl fun i hi hi' => ?_
  have h1 := hp.2.2 _ (List.getElem_mem hi)
  have h2 := hq.2.2 _ (List.getElem_mem hi')
  have := hp.2.1
  refine txR_inj (by rw [h1.1, h2.1, hl]) (by rw [h1.1]; omega) h1.2 h2.2 ?_
  have := congrArg (fun l => l[i]?) e
  simpa [hi, hi'] using this
theorem txR_len (r : List Int) : (txR r).length ≤ r.length := by unfold txR; rw [List.length_map]; exact arrR_len r
theorem txt_len (hp : Gr p) : (txt p).length ≤ 200 := by
  have key : ∀ (l : List (List UInt8)) (n : Nat), (∀ x ∈ l, x.length ≤ n) → (joinB 47 l).length ≤ l.length * (n + 1) := by
    intro l n h
    cases l with
    | nil => simp [joinB]
    | cons x l =>
      have : ∀ (l : List (List UInt8)), (∀ x ∈ l, x.length ≤ n) → (l.flatMap fun y => (47 : UInt8) :: y).length ≤ l.length * (n + 1) := by
        intro l
        induction l with
        | nil => intro _; simp
        | cons y l ih =>
          intro h
          have h1 := ih (fun x hx => h x (by simp [hx]))
          have h2 := h y (by simp)
          simp only [List.flatMap_cons, List.length_append, List.length_cons, Nat.succ_mul] at *
          omega
      have h1 := this l (fun x hx => h x (by simp [hx]))
      have h2 := h x (by simp)
      simp only [joinB, List.length_append, List.length_cons, Nat.succ_mul] at *
      omega
  have h1 := key (p.map txR) p.length (fun x hx => by
    obtain ⟨r, hr, rfl⟩ := List.mem_map.1 hx
    have := txR_len r
    rw [(hp.2.2 r hr).1] at this; exact this)
  rw [List.length_map] at h1
  have h2 := hp.2.1
  have : p.length * (p.length + 1) ≤ 11 * 12 := Nat.mul_le_mul h2 (by omega)
  unfold txt; omega
open Classical in
/-- the picture of a text -/
noncomputable def rdP (l : List UInt8) : Option (List (List Int)) := if h : ∃ p, Pic p ∧ txt p = l then some (Classical.choose h) else none
theorem rdP_txt (hp : Pic p) : rdP (txt p) = some p := by
  have h : ∃ q, Pic q ∧ txt q = txt p := ⟨p, hp, rfl⟩
  unfold rdP
  rw [dif_pos h]
  have := Classical.choose_spec h
  rw [txt_inj this.1.gr hp.gr this.2]
theorem rdP_some {l : List UInt8} (h : rdP l = some p) : Pic p ∧ txt p = l := by
  unfold rdP at h
  split at h
  · rename_i hx
    have := Classical.choose_spec hx
    rw [← Option.some.inj h]; exact this
  · cases h
end
end Go.Hs
set_option linter.unusedVariables false
set_option linter.unusedSimpArgs false
namespace Go.Hs
open Classical Op
section
variable {p q c c' : List (List Int)} {a b n k : Nat} {o o' L L' : List Nat}
/-- orders of the first ones, 0 staying first -/
def ordS (n : Nat) : Nat → List (List Nat)
  | 0 => [[0]]
  | k + 1 => (ordS n k).flatMap fun o => ((List.range n).filter fun x => decide (1 ≤ x) && !o.contains x).map fun x => o ++ [x]
def orders (n : Nat) : List (List Nat) := ordS n (n - 1)
def Pre (n : Nat) (o : List Nat) : Prop := o.Nodup ∧ o.head? = some 0 ∧ ∀ x ∈ o, x < n
def Ord (n : Nat) (o : List Nat) : Prop := o.length = n ∧ Pre n o
theorem Pre.pos (h : Pre n o) : 1 ≤ o.length := by
  have := h.2.1
  cases o with
  | nil => cases this
  | cons _ _ => simp
theorem Pre.le (h : Pre n o) : o.length ≤ n := nodup_len h.1 h.2.2
theorem Pre.snoc (h : Pre n o) {x : Nat} (hx : x < n) (hn : x ∉ o) : Pre n (o ++ [x]) := by
  refine ⟨List.nodup_append.2 ⟨h.1, by simp, fun a ha b hb e => ?_⟩, ?_, fun y hy => ?_⟩
  · simp only [List.mem_singleton] at hb; subst hb; subst e; exact hn ha
  · rw [List.head?_append, h.2.1]; rfl
  · rcases List.mem_append.1 hy with hy | hy
    · exact h.2.2 y hy
    · simp only [List.mem_singleton] at hy; subst hy; exact hx
theorem Pre.init {x : Nat} (h : Pre n (o ++ [x])) (ho : o ≠ []) : Pre n o ∧ x < n ∧ x ∉ o := by
  obtain ⟨h1, h2, h3⟩ := h
  rw [List.nodup_append] at h1
  refine ⟨⟨h1.1, ?_, fun y hy => h3 y (by simp [hy])⟩, h3 x (by simp), fun hm => h1.2.2 x hm x (by simp) rfl⟩
  cases o with
  | nil => exact absurd rfl ho
  | cons y o => simpa using h2
theorem mem_ordS (hn : 1 ≤ n) : ∀ (k : Nat) (o : List Nat), o ∈ ordS n k ↔ o.length = k + 1 ∧ Pre n o := by
  intro k
  induction k with
  | zero =>
    intro o
    simp only [ordS, List.mem_singleton]
    constructor
    · rintro rfl; exact ⟨rfl, by simp, rfl, by simp; omega⟩
    · rintro ⟨h1, h2⟩
      cases o with
      | nil => cases h1
      | cons x o =>
        have : o = [] := List.eq_nil_of_length_eq_zero (by simpa using h1)
        subst this
        have := h2.2.1
        simp at this; subst this; rfl
  | succ k ih =>
    intro o
    simp only [ordS, List.mem_flatMap, List.mem_map, List.mem_filter, List.mem_range, Bool.and_eq_true, decide_eq_true_eq, Bool.not_eq_true', List.contains_eq_mem, decide_eq_false_iff_not]
    constructor
    · rintro ⟨o', h1, x, ⟨h2, h3, h4⟩, rfl⟩
      obtain ⟨h5, h6⟩ := (ih o').1 h1
      exact ⟨by simp [h5], h6.snoc h2 h4⟩
    · rintro ⟨h1, h2⟩
      have hne : o ≠ [] := by rintro rfl; cases h1
      have e := List.dropLast_concat_getLast hne
      have hl : o.dropLast.length = k + 1 := by simp [h1]
      rw [← e] at h2
      obtain ⟨h3, h4, h5⟩ := h2.init (by intro h; rw [h] at hl; cases hl)
      refine ⟨o.dropLast, (ih _).2 ⟨hl, h3⟩, o.getLast hne, ⟨h4, ?_, h5⟩, e⟩
      rcases Nat.eq_zero_or_pos (o.getLast hne) with h0 | h0
      · exfalso
        rw [h0] at h5
        have := h3.2.1
        cases hd : o.dropLast with
        | nil => rw [hd] at hl; cases hl
        | cons y ys => rw [hd] at this h5; simp at this; exact h5 (by simp [this])
      · exact h0
theorem mem_orders (hn : 1 ≤ n) : o ∈ orders n ↔ Ord n o := by
  unfold orders Ord
  rw [mem_ordS hn]
  rw [show n - 1 + 1 = n by omega]

/-- the nodes in another order -/
def reo (c : List (List Int)) (o : List Nat) : List (List Int) := o.map fun i => o.map fun j => bit c i j
theorem reo_len : (reo c o).length = o.length := by simp [reo]
theorem bit_qp {i m : Nat} (hi : i < L.length) (hm : m < L.length) : bit (qp p L) i m = b01 ((arr p L[i]).any fun j => decide (knd p j = L[m])) := by
  unfold bit
  have e : (qp p L).getD i [] = L.map fun y => b01 ((arr p L[i]).any fun j => decide (knd p j = y)) := by
    rw [getD_lt (by rw [qp_len]; exact hi)]
    simp [qp]
  rw [e, getD_lt (by simpa using hm)]
  simp
theorem Ord.perm (h : Ord n o) : o.Perm (List.range n) := by
  refine (List.perm_ext_iff_of_nodup h.2.1 List.nodup_range).2 fun x => ⟨fun hx => List.mem_range.2 (h.2.2.2 x hx), fun hx => ?_⟩
  refine Classical.byContradiction fun hn => ?_
  have := nodup_len (n := n) (l := x :: o) (List.nodup_cons.2 ⟨hn, h.2.1⟩) (fun j hj => by
    rcases List.mem_cons.1 hj with rfl | hj
    · exact List.mem_range.1 hx
    · exact h.2.2.2 j hj)
  simp only [List.length_cons, h.1] at this
  omega
theorem reo_cand (hc : Cand p a c) (ho : Ord c.length o) : Cand p a (reo c o) := by
  obtain ⟨L, hL, rfl⟩ := hc
  rw [qp_len] at ho
  have hlt := ho.2.2.2
  have hpos : 1 ≤ L.length := by have := ho.2.pos; rw [ho.1] at this; exact this
  refine ⟨o.map fun i => L.getD i 0, ⟨?_, ?_, fun x => ?_⟩, ?_⟩
  · have hn := ho.2.1
    unfold List.Nodup at hn ⊢
    rw [List.pairwise_map]
    refine List.Pairwise.imp_of_mem (fun {x y} hx hy hxy e => hxy ?_) hn
    rw [getD_lt (hlt x hx), getD_lt (hlt y hy)] at e
    exact (List.getElem_inj hL.1).1 e
  · rw [List.head?_map, ho.2.2.1, ← hL.2.1]
    simp only [Option.map_some]
    rw [List.head?_eq_getElem?, List.getElem?_eq_getElem (by omega), getD_lt (by omega)]
  · rw [← hL.2.2 x, List.mem_map]
    constructor
    · rintro ⟨i, hi, rfl⟩
      rw [getD_lt (hlt i hi)]; exact List.getElem_mem _
    · intro hx
      obtain ⟨i, hi, e⟩ := List.mem_iff_getElem.1 hx
      refine ⟨i, ho.perm.mem_iff.2 (List.mem_range.2 hi), ?_⟩
      rw [getD_lt hi]; exact e
  · unfold reo
    rw [show qp p (o.map fun i => L.getD i 0) = o.map fun i => o.map fun m => b01 ((arr p (L.getD i 0)).any fun j => decide (knd p j = L.getD m 0)) by simp [qp]]
    refine List.map_congr_left fun i hi => List.map_congr_left fun m hm => ?_
    rw [bit_qp (hlt i hi) (hlt m hm), getD_lt (hlt i hi), getD_lt (hlt m hm)]
theorem cand_reo (hc : Cand p a c) (hc' : Cand p a c') : ∃ o, Ord c.length o ∧ c' = reo c o := by
  obtain ⟨L, hL, rfl⟩ := hc
  obtain ⟨L', hL', rfl⟩ := hc'
  have hperm := hL.perm hL'
  have hi : ∀ x ∈ L', L.idxOf x < L.length ∧ L.getD (L.idxOf x) 0 = x := fun x hx => by
    have h1 := List.idxOf_lt_length_iff.2 (hperm.mem_iff.2 hx)
    exact ⟨h1, by rw [getD_lt h1]; exact List.getElem_idxOf h1⟩
  have hpos : 1 ≤ L.length := by
    have := hL.2.1
    cases L with
    | nil => cases this
    | cons _ _ => simp
  have hback : (L'.map fun x => L.idxOf x).map (fun i => L.getD i 0) = L' := by
    rw [List.map_map]
    conv => rhs; rw [← List.map_id L']
    exact List.map_congr_left fun x hx => (hi x hx).2
  refine ⟨L'.map fun x => L.idxOf x, ⟨?_, ?_, ?_, fun i him => ?_⟩, ?_⟩
  · rw [List.length_map, qp_len, hperm.length_eq]
  · have hn := hL'.1
    unfold List.Nodup at hn ⊢
    rw [List.pairwise_map]
    refine List.Pairwise.imp_of_mem (fun {x y} hx hy hxy e => hxy ?_) hn
    rw [← (hi x hx).2, e, (hi y hy).2]
  · rw [List.head?_map, hL'.2.1]
    simp only [Option.map_some, Option.some.injEq]
    have := hL.2.1
    cases L with
    | nil => cases this
    | cons y L => simp at this; subst this; simp
  · obtain ⟨x, hx, rfl⟩ := List.mem_map.1 him
    rw [qp_len]; exact (hi x hx).1
  · conv => lhs; rw [← hback]
    unfold reo
    rw [show qp p ((L'.map fun x => L.idxOf x).map fun i => L.getD i 0) = (L'.map fun x => L.idxOf x).map fun i => (L'.map fun x => L.idxOf x).map fun m => b01 ((arr p (L.getD i 0)).any fun j => decide (knd p j = L.getD m 0)) by simp [qp]]
    refine List.map_congr_left fun i him => List.map_congr_left fun m hmm => ?_
    obtain ⟨x, hx, rfl⟩ := List.mem_map.1 him
    obtain ⟨y, hy, rfl⟩ := List.mem_map.1 hmm
    have h1 := (hi x hx).1
    have h2 := (hi y hy).1
    rw [bit_qp h1 h2, getD_lt h1, getD_lt h2]

/-- the least one -/
def Lst (p : List (List Int)) (a : Nat) (c : List (List Int)) : Prop := Cand p a c ∧ ∀ c', Cand p a c' → bytesLess (txt c') (txt c) = false
theorem Lst.uniq (hp : Gr p) (ha : a < p.length) (h : Lst p a c) (h' : Lst p a c') : c = c' :=
  txt_inj (h.1.gr hp ha) (h'.1.gr hp ha) (bless_tri _ _ (h'.2 c h.1) (h.2 c' h'.1))
/-- one more looked at -/
def lstep (x best y : List (List Int)) : List (List Int) := if bytesLess (txt y) (txt best) then y else best
theorem lst_fold (hc : Cand p a c) : ∀ (os : List (List Nat)) (best : List (List Int)), (∀ o ∈ os, Ord c.length o) → Cand p a best →
    Cand p a (os.foldl (fun best o => lstep c best (reo c o)) best) ∧ bytesLess (txt best) (txt (os.foldl (fun best o => lstep c best (reo c o)) best)) = false ∧
    ∀ o ∈ os, bytesLess (txt (reo c o)) (txt (os.foldl (fun best o => lstep c best (reo c o)) best)) = false := by
  intro os
  induction os with
  | nil => intro best _ hb; exact ⟨hb, bless_irr _, fun o ho => by cases ho⟩
  | cons o os ih =>
    intro best ho hb
    simp only [List.foldl_cons]
    have hr := reo_cand hc (ho o (by simp))
    have hs : Cand p a (lstep c best (reo c o)) ∧ bytesLess (txt best) (txt (lstep c best (reo c o))) = false ∧ bytesLess (txt (reo c o)) (txt (lstep c best (reo c o))) = false := by
      unfold lstep
      split
      · rename_i h
        refine ⟨hr, ?_, bless_irr _⟩
        cases hh : bytesLess (txt best) (txt (reo c o)) with
        | false => rfl
        | true => have := bless_trans _ _ _ h hh; rw [bless_irr] at this; cases this
      · rename_i h
        exact ⟨hb, bless_irr _, by simpa using h⟩
    obtain ⟨h1, h2, h3⟩ := ih _ (fun o' ho' => ho o' (by simp [ho'])) hs.1
    refine ⟨h1, bless_ge hs.2.1 h2, fun o' ho' => ?_⟩
    rcases List.mem_cons.1 ho' with rfl | ho'
    · exact bless_ge hs.2.2 h2
    · exact h3 o' ho'
/-- a picture of it there is -/
noncomputable def kdl (p : List (List Int)) (a : Nat) : List Nat := knd p a :: (List.range p.length).filter fun x => decide (x ≠ knd p a ∧ ∃ y, Rch p a y ∧ knd p y = x)
theorem kdl_ok (hp : Gr p) (ha : a < p.length) : Kds p a (kdl p a) := by
  unfold kdl
  refine ⟨List.nodup_cons.2 ⟨?_, (pw_nodup (range_filter_pw _ _))⟩, rfl, fun x => ?_⟩
  · simp
  · simp only [List.mem_cons, List.mem_filter, List.mem_range, decide_eq_true_eq]
    constructor
    · rintro (rfl | ⟨_, _, h⟩)
      · exact ⟨a, .refl _, rfl⟩
      · exact h
    · rintro ⟨y, h1, rfl⟩
      by_cases e : knd p y = knd p a
      · exact .inl e
      · exact .inr ⟨knd_lt (h1.lt hp ha), e, y, h1, rfl⟩
theorem fold_lst (hp : Gr p) (ha : a < p.length) (hc : Cand p a c) : Lst p a ((orders c.length).foldl (fun best o => lstep c best (reo c o)) c) := by
  have h1 := (hc.gr hp ha).1
  obtain ⟨h2, _, h3⟩ := lst_fold hc (orders c.length) c (fun o ho => (mem_orders h1).1 ho) hc
  refine ⟨h2, fun c' hc' => ?_⟩
  obtain ⟨o, ho, rfl⟩ := cand_reo hc hc'
  exact h3 o ((mem_orders h1).2 ho)
/-- the least picture of the set at a -/
noncomputable def lst (p : List (List Int)) (a : Nat) : List (List Int) := if h : ∃ c, Lst p a c then Classical.choose h else []
theorem lst_ok (hp : Gr p) (ha : a < p.length) : Lst p a (lst p a) := by
  have h : ∃ c, Lst p a c := ⟨_, fold_lst hp ha ⟨_, kdl_ok hp ha, rfl⟩⟩
  unfold lst
  rw [dif_pos h]; exact Classical.choose_spec h
theorem lst_eq (hp : Gr p) (ha : a < p.length) (h : Lst p a c) : lst p a = c := (lst_ok hp ha).uniq hp ha h
theorem lst_fold_eq (hp : Gr p) (ha : a < p.length) (hc : Cand p a c) : (orders c.length).foldl (fun best o => lstep c best (reo c o)) c = lst p a := (lst_eq hp ha (fold_lst hp ha hc)).symm
theorem lst_cand (hp : Gr p) (ha : a < p.length) : Cand p a (lst p a) := (lst_ok hp ha).1
theorem lst_gr (hp : Gr p) (ha : a < p.length) : Gr (lst p a) := (lst_cand hp ha).gr hp ha
theorem lst_bis (hp : Gr p) (ha : a < p.length) : Bis p a (lst p a) 0 := (lst_cand hp ha).bis hp ha
theorem lst_pos (hp : Gr p) (ha : a < p.length) : 0 < (lst p a).length := (lst_gr hp ha).1
/-- the same set, the same least picture -/
theorem lst_same (hp : Gr p) (hq : Gr q) (ha : a < p.length) (hb : b < q.length) : lst p a = lst q b ↔ Bis p a q b := by
  constructor
  · intro e
    have h1 := lst_bis hp ha
    rw [e] at h1
    exact h1.trans (lst_bis hq hb).symm
  · intro h
    exact lst_eq hp ha ⟨h.symm.cand hq hp hb ha (lst_cand hq hb), fun c' hc' => (lst_ok hq hb).2 c' (h.cand hp hq ha hb hc')⟩
theorem lst_lst (hp : Gr p) (ha : a < p.length) : lst (lst p a) 0 = lst p a := (lst_same (lst_gr hp ha) hp (lst_pos hp ha) ha).2 (lst_bis hp ha).symm
theorem lst_len (hp : Gr p) (ha : a < p.length) (hc : Cand p a c) : (lst p a).length = c.length := (lst_cand hp ha).len hc
theorem lst_le (hp : Gr p) (ha : a < p.length) : (lst p a).length ≤ p.length := by
  obtain ⟨L, hL, e⟩ := lst_cand hp ha
  rw [e, qp_len]; exact (hL.len hp ha).2
theorem lst_pic (hp : Pic p) (ha : a < p.length) : Pic (lst p a) := by
  have h := lst_gr hp.gr ha
  exact ⟨h.1, Nat.le_trans (lst_le hp.gr ha) hp.2.1, h.2.2⟩
/-- a least picture -/
def LeastP (p : List (List Int)) : Prop := Pic p ∧ lst p 0 = p
theorem LeastP.lst (hp : Gr p) (ha : a < p.length) (h5 : (Hs.lst p a).length ≤ 5) : LeastP (Hs.lst p a) := by
  have h := lst_gr hp ha
  exact ⟨⟨h.1, h5, h.2.2⟩, lst_lst hp ha⟩
/-- what comes of a search: at best one of those at hand -/
def Srch (c : List (List Int)) (o : List Nat) (best best' : List (List Int)) : Prop :=
  (best' = best ∨ ∃ o', o <+: o' ∧ Ord c.length o' ∧ best' = reo c o') ∧ bytesLess (txt best) (txt best') = false ∧ ∀ o', o <+: o' → Ord c.length o' → bytesLess (txt (reo c o')) (txt best') = false
/-- a search among the nodes below k put next -/
def SrchK (c : List (List Int)) (o : List Nat) (k : Nat) (best best' : List (List Int)) : Prop :=
  (best' = best ∨ ∃ o', o <+: o' ∧ Ord c.length o' ∧ best' = reo c o') ∧ bytesLess (txt best) (txt best') = false ∧ ∀ v o', v < k → (o ++ [v]) <+: o' → Ord c.length o' → bytesLess (txt (reo c o')) (txt best') = false
theorem SrchK.zero (best : List (List Int)) : SrchK c o 0 best best := ⟨.inl rfl, bless_irr _, fun v o' h => by omega⟩
theorem SrchK.skip {best best' : List (List Int)} (h : SrchK c o k best best') (hk : k ∈ o) : SrchK c o (k + 1) best best' := by
  refine ⟨h.1, h.2.1, fun v o' hv hp ho => ?_⟩
  by_cases e : v = k
  · exfalso
    subst e
    obtain ⟨t, rfl⟩ := hp
    have := ho.2.1
    rw [List.append_assoc, List.nodup_append] at this
    exact this.2.2 v hk v (by simp) rfl
  · exact h.2.2 v o' (by omega) hp ho
theorem SrchK.step {best best' best'' : List (List Int)} (h : SrchK c o k best best') (h2 : Srch c (o ++ [k]) best' best'') : SrchK c o (k + 1) best best'' := by
  refine ⟨?_, bless_ge h.2.1 h2.2.1, fun v o' hv hp ho => ?_⟩
  · rcases h2.1 with e | ⟨o', h3, h4, h5⟩
    · rw [e]; exact h.1
    · exact .inr ⟨o', (List.prefix_append _ _).trans h3, h4, h5⟩
  · by_cases e : v = k
    · subst e; exact h2.2.2 o' hp ho
    · exact bless_ge (h.2.2 v o' (by omega) hp ho) h2.2.1
theorem SrchK.all {best best' : List (List Int)} (h : SrchK c o c.length best best') (hl : o.length < c.length) : Srch c o best best' := by
  refine ⟨h.1, h.2.1, fun o' hp ho => ?_⟩
  obtain ⟨t, rfl⟩ := hp
  cases t with
  | nil => exfalso; have := ho.1; simp at this; omega
  | cons v t => exact h.2.2 v _ (ho.2.2.2 v (by simp)) ⟨t, by simp⟩ ho
theorem Srch.lst {best' : List (List Int)} (hp : Gr p) (ha : a < p.length) (hc : Cand p a c) (h : Srch c [0] c best') : lst p a = best' := by
  refine lst_eq hp ha ⟨?_, fun c' hc' => ?_⟩
  · rcases h.1 with rfl | ⟨o', _, h1, rfl⟩
    · exact hc
    · exact reo_cand hc h1
  · obtain ⟨o, ho, rfl⟩ := cand_reo hc hc'
    refine h.2.2 o ?_ ho
    have := ho.2.2.1
    cases o with
    | nil => cases this
    | cons x o => simp at this; subst this; exact ⟨o, rfl⟩
end
end Go.Hs
set_option linter.unusedVariables false
set_option linter.unusedSimpArgs false
namespace Go.Hs
section
variable {p : List (List Int)} {a k n : Nat} {L : List Nat}
noncomputable def kndL (p : List (List Int)) : List Nat := (List.range p.length).map (knd p)
theorem kndL_len : (kndL p).length = p.length := by simp [kndL]
theorem kndL_at (h : k < (kndL p).length) : (kndL p)[k] = knd p k := by simp [kndL]
theorem ikndL_len : (ints (kndL p)).length = p.length := by rw [ints_len, kndL_len]
theorem ikndL_at (h : k < (ints (kndL p)).length) : (ints (kndL p))[k] = (knd p k : Int) := by
  rw [ints_len] at h
  rw [ints_get h, kndL_at]
theorem ikndL_getD (h : k < p.length) : (ints (kndL p)).getD k 0 = (knd p k : Int) := by
  rw [getD_lt (by rw [ikndL_len]; exact h), ikndL_at]
/-- whether the arrow to j leads to y's kind -/
def ptF (p : List (List Int)) (K : List Int) (x y : Int) (j : Nat) : Bool := decide ((p.getD x.toNat []).getD j 0 = 1) && decide (K.getD j 0 = K.getD y.toNat 0)
def ptV (p : List (List Int)) (K L : List Int) : List (List Int) := L.map fun x => L.map fun y => b01 ((List.range p.length).any (ptF p K x y))
theorem ptV_len {K L : List Int} : (ptV p K L).length = L.length := by simp [ptV]
theorem pt_any (hp : Gr p) {x y : Nat} (hx : x < p.length) (hy : y < p.length) : (List.range p.length).any (ptF p (ints (kndL p)) (x : Int) (y : Int)) = (arr p (knd p x)).any fun j => decide (knd p j = knd p y) := by
  rw [Bool.eq_iff_iff, List.any_eq_true, List.any_eq_true]
  have hkx := knd_lt hx
  have hb := knd_self hp hx
  constructor
  · rintro ⟨j, hj, h⟩
    rw [List.mem_range] at hj
    simp only [ptF, Int.toNat_natCast, Bool.and_eq_true, decide_eq_true_eq, ikndL_getD hj, ikndL_getD hy] at h
    have hm : j ∈ arr p x := (mem_arr hp hx).2 ⟨hj, h.1⟩
    obtain ⟨j', hj', hb'⟩ := hb.fst j hm
    refine ⟨j', hj', ?_⟩
    rw [decide_eq_true_eq, ← (knd_bis hp hj (arr_lt hp hkx hj')).2 hb']
    have := h.2; omega
  · rintro ⟨j', hj', h⟩
    rw [decide_eq_true_eq] at h
    obtain ⟨j, hj, hb'⟩ := hb.snd j' hj'
    have hjl := arr_lt hp hx hj
    refine ⟨j, List.mem_range.2 hjl, ?_⟩
    simp only [ptF, Int.toNat_natCast, Bool.and_eq_true, decide_eq_true_eq, ikndL_getD hjl, ikndL_getD hy]
    refine ⟨((mem_arr hp hx).1 hj).2, ?_⟩
    rw [(knd_bis hp hjl (arr_lt hp hkx hj')).2 hb', h]
theorem ptV_qp (hp : Gr p) (hL : ∀ x ∈ L, x < p.length) : ptV p (ints (kndL p)) (ints L) = qp p (L.map (knd p)) := by
  unfold ptV qp ints
  simp only [List.map_map]
  refine List.map_congr_left fun x hx => ?_
  simp only [Function.comp_def]
  refine List.map_congr_left fun y hy => ?_
  have := pt_any hp (hL x hx) (hL y hy)
  unfold ints at this
  rw [this]
/-- the kinds found so far -/
structure Fnd (p : List (List Int)) (a k : Nat) (L : List Nat) : Prop where
  nd : (L.map (knd p)).Nodup
  hd : (L.map (knd p)).head? = some (knd p a)
  rc : ∀ x ∈ L, Rch p a x
  al : ∀ j (h : j < (rf p a).length), j < k → knd p (rf p a)[j] ∈ L.map (knd p)
theorem Fnd.zero' {r : Nat} (hr : Rch p a r) (hk : knd p r = knd p a) : Fnd p a 0 [r] := ⟨by simp, by simp [hk], fun x hx => by rw [List.mem_singleton.1 hx]; exact hr, fun j h h2 => by omega⟩
theorem Fnd.zero : Fnd p a 0 [a] := Fnd.zero' (.refl a) rfl
theorem Fnd.skip (h : Fnd p a k L) (hk : k < (rf p a).length) (hm : knd p (rf p a)[k] ∈ L.map (knd p)) : Fnd p a (k + 1) L := ⟨h.nd, h.hd, h.rc, fun j hj h2 => by
  rcases Nat.lt_or_ge j k with h3 | h3
  · exact h.al j hj h3
  · obtain rfl : j = k := by omega
    exact hm⟩
theorem Fnd.step (hp : Gr p) (ha : a < p.length) (h : Fnd p a k L) (hk : k < (rf p a).length) (hm : knd p (rf p a)[k] ∉ L.map (knd p)) : Fnd p a (k + 1) (L ++ [(rf p a)[k]]) := by
  refine ⟨?_, ?_, fun x hx => ?_, fun j hj h2 => ?_⟩
  · rw [List.map_append, List.nodup_append]
    refine ⟨h.nd, by simp, fun x hx y hy e => ?_⟩
    simp only [List.map_cons, List.map_nil, List.mem_singleton] at hy
    subst hy; subst e; exact hm hx
  · rw [List.map_append, List.head?_append, h.hd]; rfl
  · rcases List.mem_append.1 hx with hx | hx
    · exact h.rc x hx
    · rw [List.mem_singleton.1 hx]
      exact (mem_rf hp ha).1 (List.getElem_mem hk)
  · rw [List.map_append, List.mem_append]
    rcases Nat.lt_or_ge j k with h3 | h3
    · exact .inl (h.al j hj h3)
    · obtain rfl : j = k := by omega
      exact .inr (by simp)
theorem Fnd.kds (hp : Gr p) (ha : a < p.length) (h : Fnd p a k L) (hk : (rf p a).length ≤ k) : Kds p a (L.map (knd p)) := by
  refine ⟨h.nd, h.hd, fun x => ⟨fun hx => ?_, ?_⟩⟩
  · obtain ⟨y, hy, rfl⟩ := List.mem_map.1 hx
    exact ⟨y, h.rc y hy, rfl⟩
  · rintro ⟨y, hy, rfl⟩
    obtain ⟨j, hj, e⟩ := List.mem_iff_getElem.1 ((mem_rf hp ha).2 hy)
    have := h.al j hj (by omega)
    rwa [e] at this
theorem Fnd.lt (hp : Gr p) (ha : a < p.length) (h : Fnd p a k L) {x : Nat} (hx : x ∈ L) : x < p.length := (h.rc x hx).lt hp ha
theorem Fnd.len (hp : Gr p) (ha : a < p.length) (h : Fnd p a k L) : L.length ≤ p.length := by
  have := nodup_len h.nd (n := p.length) fun j hj => by
    obtain ⟨y, hy, rfl⟩ := List.mem_map.1 hj
    exact knd_lt (h.lt hp ha hy)
  simpa using this
/-- rows laid so far, the others empty -/
def fq (Q : List (List Int)) (n i : Nat) : List (List Int) := Q.take i ++ List.replicate (n - i) (List.replicate n 0)
theorem row_next {Q rows : List (List Int)} {i k : Nat} {r r' : List Int} {x : Int} (hrw : rows = Q.set i r) (hi : i < rows.length) (h : rows[i].set k x = r') : rows.set i (rows[i].set k x) = Q.set i r' := by
  rw [h]; subst hrw; rw [List.set_set]
end
end Go.Hs
namespace Go.Proofs.YtgphoihilheoeaaDoor
open Go.Hs
set_option maxRecDepth 10000
set_option maxHeartbeats 4000000
set_option linter.unusedVariables false
set_option linter.unusedSimpArgs false

theorem spec_KindsOf_ok (w : World) (v : Value) (p : List (List Int)) (h : ESl Ints w v p) : Does Tryd.prog 100 [v] w (RetO w XI (if Pic p then ints (kndL p) else [])) := by
  have hle := h.le
  by_cases hp : Pic p
  · have hp5 := hp.2.1
    rw [if_pos hp]
    have k1 : ∀ (w : World) (v : Value), ESl Ints w v p → Does Tryd.prog 119 [v] w (RetO w XR (matV p (bsm p p.length))) := fun w v h => by
      have := SameRows_ok w v p h
      rw [show leftV p p.length = matV p (bsm p p.length) from by unfold leftV; rw [if_pos ⟨hp, by omega, by omega⟩]; rfl] at this; exact this
    have hml := matV_len (p := p) (bsm p p.length)
    have hkl := ikndL_len (p := p)
    refine fn_of_W1 Tryd.func100 rfl Tryd.results100 Tryd.ntmps100 rfl ?_
    focus
      refine W_seq ?_; refine W_region rfl ?_; refine Wo rfl (opv_assign (v := .slice _ _ _) rfl) ?_; refine Wo_nil ?_; refine W_seq ?_; refine W_region rfl ?_; refine Wo_lit0 XInt rfl el80 Tryd.sizeOf3 ?_; rintro b1 w1 hb1 b1lt E1 hO1
      have hs1 := E1.size; refine Wo rfl (opv_assign (v := .slice _ _ _) rfl) ?_; refine Wo_nil ?_; refine W_seq ?_; refine W_region rfl ?_; refine Wo rfl (opv_move (v := v) rfl) ?_
      refine Wo_call rfl (opc1 (a := v) Tryd.call119 rfl) (k1 _ _ ((Mono.mono E1 h))) ?_; rintro u1 w2 ⟨E2, hO2⟩; have hs2 := E2.size; refine Wo rfl (opv_assign (v := u1) rfl) ?_; refine Wo_nil ?_; refine W_seq ?_; refine W_seq ?_
      refine W_region rfl ?_; refine Wo rfl (opv_assign (v := .int _ _) rfl) ?_; refine Wo_nil ?_; refine W_block ?_
    have hBe : Besides (Value.slice (some ⟨b1, 0, none⟩) 0 0).ownBlock (ESl Ints) w2 u1 (matV p (bsm p p.length)) := Besides.start hO1 hO2.above
    refine W_loop [3, 5, 6, 10, 11, 12, 13, 14, 15, 16, 17, 18, 19, 20, 21, 22, 23, 24, 25, 26, 27, 28, 29, 30, 31, 32, 33] (fun ((k, u) : Nat × Value) => [(5, .int .i64 (k : Nat)), (3, u)]) (fun (k, u) w' => Ext w w' ∧ k ≤ p.length ∧ Owned w.heap.size XI w' u ((ints (kndL p)).take k) ∧ Besides u.ownBlock (ESl Ints) w' u1 (matV p (bsm p p.length))) (fun x => p.length - x.1) (0, .slice (some ⟨b1, 0, none⟩) 0 0) (by repeat (first | exact trivial | refine And.intro rfl ?_)) ?_ ?_
    · exact ⟨by first | assumption | exact E1.trans E2, Nat.zero_le _, by simpa using hO1.ext E2, hBe⟩
    clear hBe hO1 hO2
    rintro ⟨k, u⟩ ρj w3 ⟨E3, hk, hO1, hBe⟩
    by_cases hlt : k < p.length
    · have htl : ((ints (kndL p)).take k).length = k := by simp; omega
      obtain ⟨g1, g2, g3⟩ := knd_spec hlt
      focus
        have szE3 := E3.size; have szE2 := E2.size; have szE1 := E1.size; refine W_seq ?_; refine W_seq ?_; refine W_region rfl ?_; refine Wo rfl (opv_move (v := .int _ _) rfl) ?_; refine Wo rfl (opv_move (v := u1) rfl) ?_
        refine Wo rfl (opv_len Tryd.underlying49 rfl (Besides.here hBe)) ?_; refine Wo rfl (opv_lss rfl rfl) ?_; refine Wo_nil ?_; refine W_cond_dec rfl (fun h1 => ?_) (fun h1 => ?_); refine W_skip ?_; refine W_seq ?_; refine W_block ?_
        refine W_seq ?_; refine W_region rfl ?_; refine Wo rfl (opv_assign (v := .int _ _) rfl) ?_; refine Wo_nil ?_; refine W_block ?_; rotate_left; (exfalso; omega)
      refine W_loop [3, 6, 16, 17, 18, 19, 20, 21, 22, 23, 24, 25, 26, 27, 28, 29, 30, 31, 32, 33] (fun (j : Nat) => [(6, .int .i64 (j : Nat)), (3, u)]) (fun j w' => w' = w3 ∧ j ≤ knd p k) (fun j => p.length - j) 0 (by repeat (first | exact trivial | refine And.intro rfl ?_)) ?_ ?_
      · exact ⟨rfl, Nat.zero_le _⟩
      rintro j ρk w4 ⟨rfl, hj⟩
      have hmr := matV_rlen (p := p) (S := bsm p p.length) hlt
      have hma := matV_at (p := p) (S := bsm p p.length) (a := k) (b := j) hlt (by omega)
      rcases Nat.lt_or_ge j (knd p k) with hjl | hjl
      · have h0 : ((matV p (bsm p p.length))[k]'(by omega))[j]'(by omega) = 0 := by rw [hma, show bsm p p.length k j = false from g3 j hjl]; rfl
        focus
          have szE3 := E3.size; have szE2 := E2.size; have szE1 := E1.size; refine W_seq ?_; refine W_seq ?_; refine W_region rfl ?_; refine Wo rfl (opv_move (v := .int _ _) rfl) ?_; refine Wo rfl (opv_move (v := u1) rfl) ?_
          refine Wo rfl (opv_len Tryd.underlying49 rfl (Besides.here hBe)) ?_; refine Wo rfl (opv_lss rfl rfl) ?_; refine Wo_nil ?_; refine W_cond_dec rfl (fun h2 => ?_) (fun h2 => ?_); refine W_skip ?_; refine W_seq ?_; refine W_block ?_
          refine W_seq ?_; refine W_region rfl ?_; refine Wo rfl (opv_move (v := u1) rfl) ?_; refine Wo rfl (opv_move (v := .int _ _) rfl) ?_
          refine Wo_get Tryd.underlying49 Tryd.sizeOf80 Tryd.isAgg80 rfl (fun _ => rfl) rfl (Besides.here hBe) (Ext.refl _) rfl (by first | omega | (simp <;> omega)) ?_; rintro _ u2 hu1; refine Wo rfl (opv_move (v := .int _ _) rfl) ?_
          refine Wo_get Tryd.underlying80 Tryd.sizeOf3 Tryd.isAgg3 rfl (fun _ => rfl) rfl hu1 (Ext.refl _) rfl (by first | omega | (simp <;> omega)) ?_; rintro _ _ rfl; refine Wo rfl (opv_eql rfl rfl) ?_; refine Wo_nil ?_
          refine W_cond_dec rfl (fun h3 => ?_) (fun h3 => ?_); (exfalso; omega); refine W_skip ?_; refine W_region rfl ?_; refine Wo rfl (opv_move (v := .int _ _) rfl) ?_; refine Wo rfl (opv_add rfl rfl (by omega)) ?_
          refine Wo rfl (opv_assign (v := .int _ _) rfl) ?_; refine Wo_nil ?_; rotate_left; (exfalso; omega)
        refine ⟨(j + 1), by repeat (first | exact trivial | refine And.intro rfl ?_), by repeat (first | with_reducible exact Same.refl | refine Same.upd rfl ?_ | refine Same.upds rfl ?_ | refine Same.mix rfl ?_), ?_, ?_⟩
        · exact ⟨rfl, by omega⟩
        · omega
      · obtain rfl : j = knd p k := by omega
        have h1 : ((matV p (bsm p p.length))[k]'(by omega))[knd p k]'(by omega) = 1 := by rw [hma, show bsm p p.length k (knd p k) = true from g2]; rfl
        focus
          have szE3 := E3.size; have szE2 := E2.size; have szE1 := E1.size; refine W_seq ?_; refine W_seq ?_; refine W_region rfl ?_; refine Wo rfl (opv_move (v := .int _ _) rfl) ?_; refine Wo rfl (opv_move (v := u1) rfl) ?_
          refine Wo rfl (opv_len Tryd.underlying49 rfl (Besides.here hBe)) ?_; refine Wo rfl (opv_lss rfl rfl) ?_; refine Wo_nil ?_; refine W_cond_dec rfl (fun h2 => ?_) (fun h2 => ?_); refine W_skip ?_; refine W_seq ?_; refine W_block ?_
          refine W_seq ?_; refine W_region rfl ?_; refine Wo rfl (opv_move (v := u1) rfl) ?_; refine Wo rfl (opv_move (v := .int _ _) rfl) ?_
          refine Wo_get Tryd.underlying49 Tryd.sizeOf80 Tryd.isAgg80 rfl (fun _ => rfl) rfl (Besides.here hBe) (Ext.refl _) rfl (by first | omega | (simp <;> omega)) ?_; rintro _ u2 hu1; refine Wo rfl (opv_move (v := .int _ _) rfl) ?_
          refine Wo_get Tryd.underlying80 Tryd.sizeOf3 Tryd.isAgg3 rfl (fun _ => rfl) rfl hu1 (Ext.refl _) rfl (by first | omega | (simp <;> omega)) ?_; rintro _ _ rfl; refine Wo rfl (opv_eql rfl rfl) ?_; refine Wo_nil ?_
          refine W_cond_dec rfl (fun h3 => ?_) (fun h3 => ?_); refine W_seq ?_; refine W_region rfl ?_; refine Wo rfl (opv_move (v := u) rfl) ?_; refine Wo rfl (opv_move (v := .int _ _) rfl) ?_
          refine Wo_buildSliceH (ps := [(0, .int _ _)]) (cs := [_]) rfl Tryd.underlying80 Tryd.sizeOf3 Tryd.zeroValue3 rfl rfl rfl rfl ?_; rintro b2 w3 hb2 E4 hB1 hHb2; have hlb2 := hB1.lt; have hs3 := E4.size
          refine Wo_app1 rfl el80 rfl rfl hB1 (hO1.toB.ext E4) Owned.int (Nat.le_refl _) (by first | omega | (simp <;> omega)) (by omega) (by omega) (E3.trans E4) (by omega) ?_; have hT1 := (hO1.toB.ext E4); rintro v1 w5 hO1 E5 M1
          have hBe := (hBe.ext E4).moves M1; have hB1 := hB1.moves M1 hT1 (by omega); have hs4 := E5.size; refine Wo rfl (opv_assign (v := v1) rfl) ?_; refine Wo_nil ?_; refine W_exit ?_; refine exitX_other rfl ?_; refine exitX_same ?_
          refine W_region rfl ?_; refine Wo rfl (opv_move (v := .int _ _) rfl) ?_; refine Wo rfl (opv_add rfl rfl (by omega)) ?_; refine Wo rfl (opv_assign (v := .int _ _) rfl) ?_; refine Wo_nil ?_; rotate_left; contradiction
          (exfalso; omega)
        refine ⟨((k + 1, v1)), by repeat (first | exact trivial | refine And.intro rfl ?_), by repeat (first | with_reducible exact Same.refl | refine Same.upd rfl ?_ | refine Same.upds rfl ?_ | refine Same.mix rfl ?_), ?_, ?_⟩
        · refine ⟨by assumption, by omega, ?_, by assumption⟩
          rw [take_snoc _ _ (by omega), ikndL_at]
          assumption
        · simp only; omega
    · obtain rfl : k = p.length := by omega
      focus
        have szE3 := E3.size; have szE2 := E2.size; have szE1 := E1.size; refine W_seq ?_; refine W_seq ?_; refine W_region rfl ?_; refine Wo rfl (opv_move (v := .int _ _) rfl) ?_; refine Wo rfl (opv_move (v := u1) rfl) ?_
        refine Wo rfl (opv_len Tryd.underlying49 rfl (Besides.here hBe)) ?_; refine Wo rfl (opv_lss rfl rfl) ?_; refine Wo_nil ?_; refine W_cond_dec rfl (fun h1 => ?_) (fun h1 => ?_); (exfalso; omega); refine W_exit ?_; refine exitX_same ?_
        refine W_seq ?_; refine W_region rfl ?_; refine Wo rfl (opv_move (v := u) rfl) ?_; refine Wo rfl (opv_assign (v := u) rfl) ?_; refine Wo_nil ?_; refine W_ret ?_
        refine ⟨E3, (congrArg (Owned _ _ _ _) ?_).mp (hO1.toB.o.mono (by omega))⟩
      rw [List.take_of_length_le (by omega)]
  · rw [if_neg hp]
    have k1 : ∀ (w : World) (v : Value), ESl Ints w v p → Does Tryd.prog 119 [v] w (RetO w XR []) := fun w v h => by
      have := SameRows_ok w v p h
      rw [show leftV p p.length = [] from if_neg fun h => hp h.1] at this; exact this
    refine fn_of_W1 Tryd.func100 rfl Tryd.results100 Tryd.ntmps100 rfl ?_
    focus
      refine W_seq ?_; refine W_region rfl ?_; refine Wo rfl (opv_assign (v := .slice _ _ _) rfl) ?_; refine Wo_nil ?_; refine W_seq ?_; refine W_region rfl ?_; refine Wo_lit0 XInt rfl el80 Tryd.sizeOf3 ?_; rintro b1 w1 hb1 b1lt E1 hO1
      have hs1 := E1.size; refine Wo rfl (opv_assign (v := .slice _ _ _) rfl) ?_; refine Wo_nil ?_; refine W_seq ?_; refine W_region rfl ?_; refine Wo rfl (opv_move (v := v) rfl) ?_
      refine Wo_call rfl (opc1 (a := v) Tryd.call119 rfl) (k1 _ _ ((Mono.mono E1 h))) ?_; rintro u1 w2 ⟨E2, hO2⟩; have hs2 := E2.size; refine Wo rfl (opv_assign (v := u1) rfl) ?_; refine Wo_nil ?_; refine W_seq ?_; refine W_seq ?_
      refine W_region rfl ?_; refine Wo rfl (opv_assign (v := .int _ _) rfl) ?_; refine Wo_nil ?_; refine W_block ?_
    refine W_loop [3, 5, 6, 10, 11, 12, 13, 14, 15, 16, 17, 18, 19, 20, 21, 22, 23, 24, 25, 26, 27, 28, 29, 30, 31, 32, 33] (fun (k : Nat) => [(5, .int .i64 (k : Nat)), (3, .slice (some ⟨b1, 0, none⟩) 0 0)]) (fun k w' => w' = w2 ∧ k = 0) (fun x => 0) 0 (by repeat (first | exact trivial | refine And.intro rfl ?_)) ?_ ?_
    · exact ⟨rfl, rfl⟩
    rintro k ρj w3 ⟨rfl, rfl⟩
    have hnil : (([] : List (List Int)).length : Int) = 0 := rfl
    focus
      have szE2 := E2.size; have szE1 := E1.size; refine W_seq ?_; refine W_seq ?_; refine W_region rfl ?_; refine Wo rfl (opv_move (v := .int _ _) rfl) ?_; refine Wo rfl (opv_move (v := u1) rfl) ?_
      refine Wo rfl (opv_len Tryd.underlying49 rfl (Owned.read hO2)) ?_; refine Wo rfl (opv_lss rfl rfl) ?_; refine Wo_nil ?_; refine W_cond_dec rfl (fun h1 => ?_) (fun h1 => ?_); contradiction; refine W_exit ?_; refine exitX_same ?_
      refine W_seq ?_; refine W_region rfl ?_; refine Wo rfl (opv_move (v := .slice _ _ _) rfl) ?_; refine Wo rfl (opv_assign (v := .slice _ _ _) rfl) ?_; refine Wo_nil ?_; refine W_ret ?_
      exact ⟨(E1.trans E2), (hO1.toB.ext E2).o.mono (by omega)⟩

end Go.Proofs.YtgphoihilheoeaaDoor
set_option linter.unusedVariables false
namespace Go.Hs
section
variable {α : Type} {X : World → List Nat → Value → α → Prop} {w w' w0 w1 : World} {v u v' : Value} {x : α} {xs : List α} {lo hi lt ht br m i n cr : Nat} {e : TypeId}
theorem OwnedB.grown [Loc X] (h : OwnedB lo hi X w v x) (g : w.grownBy w' (some br)) (hb : br < lo ∨ hi ≤ br) : OwnedB lo hi X w' v x := by
  obtain ⟨fp, h1, h2, h3⟩ := h
  exact ⟨fp, h1, h2, Loc.loc (fun k hk => g.block k (Loc.lt h3 k hk) (by have := h2 k hk; simp; omega)) h3⟩
theorem RowAt.grown (h : RowAt w v i n m cr) (g : w.grownBy w' (some br)) (hv : v.ownBlock ≠ some br) : RowAt w' v i n m cr := by
  obtain ⟨b, m', c, rfl, h1, h2⟩ := h
  have hne : b ≠ br := fun e => hv (by simp [Value.ownBlock, e])
  exact ⟨b, m', c, rfl, h1, by rw [← h2]; exact World.cell?_of_block (g.block b (World.block_lt_of_cell? _ _ h2) (by simp [hne]))⟩
theorem own_notin (k : OwnedB lt ht (XSl e X) w v xs) {b : Nat} (hd : ht ≤ b ∨ b < lt) : some b ≠ v.ownBlock := by
  intro h
  obtain ⟨fq, k1, k2, cs, fps, k3, rfl, k4⟩ := k
  have := k2 b (by simp [← h])
  omega
theorem Rdr.moves (h : Rdr w0 w br m) (E : Ext w0 w') (M : Moves w v w' v') (k : OwnedB lt ht (XSl e X) w v xs) (hd : ht ≤ br ∨ br < lt) : Rdr w0 w' br m := by
  obtain ⟨h1, h2, h3, vb, bs, p, h4, h5, h6, h7⟩ := h
  exact ⟨E, h2, Nat.lt_of_lt_of_le h3 M.1.size, vb, bs, p, h4, h5, h6.of_heap (M.1.block br h3 (own_notin k hd)), h7⟩
theorem grownBy_moves (h : w1.grownBy w (some br)) (M : Moves w v w' v') (k : OwnedB lt ht (XSl e X) w v xs) (hd : w1.heap.size ≤ lt) : w1.grownBy w' (some br) := by
  exact ⟨M.1.os.trans h.os, M.1.tape.trans h.tape, M.1.output.trans h.output, Nat.le_trans h.size M.1.size, fun j hj hr => (M.1.block j (Nat.lt_of_lt_of_le hj h.size) (own_notin k (.inr (by omega)))).trans (h.block j hj hr)⟩
/-- What a draw leaves that hands back data of its own. -/
def RetDO (w0 w : World) (br m : Nat) (X : World → List Nat → Value → α → Prop) (p : α → Prop) : Value → World → Prop := fun v w' => w.grownBy w' (some br) ∧ Rdr w0 w' br m ∧ ∃ x, Owned w.heap.size X w' v x ∧ p x
end
section
variable {w w' : World} {v v' : Value} {lo hi lo' i m cr b n c brw : Nat} {e e2 : TypeId} {p : List (List Int)} {row : List Int}
theorem slice_len {w : World} {e : TypeId} {a : Option Addr} {n m c : Nat} {cs : List Value} (h : w.ownsRow 0 e 1 (.slice a n c) m cs) : n = m := by
  rcases h.2 with ⟨h6, h7⟩ | ⟨g, cap, cur, h6, _⟩
  · cases h6; exact h7.symm
  · cases h6; rfl
/-- A row of own rows is an own one. -/
theorem OwnedB.rowOwn (h : OwnedB lo hi (XSl e (XSl e2 XInt)) w v p) (hR : RowAt w v i brw m cr) (hi' : i < p.length) : m = p[i].length ∧ OwnedB brw (brw + 1) (XSl e2 XInt) w (.slice (some ⟨brw, 0, none⟩) m cr) p[i] := by
  obtain ⟨fp, h1, h2, cs, fps, h3, rfl, h5⟩ := h
  obtain ⟨f, u, h6, h7, h8⟩ := h5.at hi'
  obtain ⟨b, m', c, rfl, hne, hcell⟩ := hR
  have hl := h5.len
  have := slice_len h3
  subst this
  rw [h3.cellAt i (by omega), h7] at hcell
  cases hcell
  have hf := XI_fp h8
  subst hf
  have h8' := h8
  obtain ⟨cs', fps', k3, _, _⟩ := h8'
  exact ⟨slice_len k3, _, by simp [Value.ownBlock], fun k hk => by simp [Value.ownBlock] at hk; omega, h8⟩
/-- A row appended to, and put back. -/
theorem OwnedB.rowBack (h : OwnedB lo hi (XSl e (XSl e2 XInt)) w (.slice (some ⟨b, 0, none⟩) n c) p) (hR : RowAt w (.slice (some ⟨b, 0, none⟩) n c) i brw m cr) (hi' : i < p.length)
    (M : Moves w (.slice (some ⟨brw, 0, none⟩) m cr) w' v') (hN : Owned lo' (XSl e2 XInt) w' v' row) (hlo : lo ≤ w.heap.size) :
    Owned lo (XSl e (XSl e2 XInt)) (w'.setCell ⟨b, i, none⟩ v') (.slice (some ⟨b, 0, none⟩) n c) (p.set i row) ∧ isCell v' = true ∧ (∃ u, w'.cell? ⟨b, i, none⟩ = some u) ∧ w'.frozen? ⟨b, i, none⟩ = false := by
  obtain ⟨fp, h1, h2, cs, fps, h3, rfl, h5⟩ := h
  obtain ⟨f, u, h6, h7, h8⟩ := h5.at hi'
  obtain ⟨b', m', c', ee, hne, hcell⟩ := hR
  simp only [Value.slice.injEq, Option.some.injEq, Addr.mk.injEq] at ee
  obtain ⟨⟨rfl, _⟩, rfl, rfl⟩ := ee
  have hl := h5.len
  have := slice_len h3
  subst this
  rw [h3.cellAt i (by omega), h7] at hcell
  cases hcell
  have hf := XI_fp h8
  subst hf
  obtain ⟨fn, n1, n2, hX⟩ := hN
  have hfn := XI_fp hX
  have h1' : (b :: fps.flatten).Nodup := h1
  rw [List.nodup_cons] at h1'
  have hltf := h5.lt
  have hblt : b < w.heap.size := (h3.lt b rfl).2
  have hbrw : brw ∈ fps.flatten := List.mem_flatten.2 ⟨_, List.mem_of_getElem? h6, by simp [Value.ownBlock]⟩
  have hsame : ∀ k, k < w.heap.size → k ≠ brw → w'.heap[k]? = w.heap[k]? := fun k hk hk' => M.1.block k hk (by simp [Value.ownBlock]; exact hk')
  have hfr : ∀ k ∈ fn, k = brw ∨ w.heap.size ≤ k := by
    intro k hk
    rw [hfn] at hk
    rcases M.2 with h9 | ⟨g, h9, hg⟩
    · rw [h9] at hk; simp [Value.ownBlock] at hk; exact .inl hk
    · rw [h9] at hk; simp at hk; right; omega
  have hbfn : b ∉ fn := fun hm => by
    rcases hfr b hm with h9 | h9
    · exact hne h9.symm
    · omega
  have h3' : w'.ownsRow 0 e 1 (.slice (some ⟨b, 0, none⟩) p.length c) p.length cs := ownsRow_loc (fun k hk => by
    have : b = k := by simpa [Value.ownBlock] using hk
    subst this
    exact hsame b hblt (fun e => hne e.symm)) h3
  have hst := h3'.stored i v'
  have hd : ∀ (j : Nat) g, j ≠ i → fps[j]? = some g → ∀ k ∈ g, k ≠ brw ∧ k ∈ fps.flatten := fun j g hj hg k hk =>
    ⟨fun e => flatten_apart h1'.2 h6 hg (fun e => hj e.symm) (by simp [Value.ownBlock, e]) hk, List.mem_flatten.2 ⟨g, List.mem_of_getElem? hg, hk⟩⟩
  have key : ∀ (fs : List (List Nat)) (i : Nat), fs.flatten.Nodup → fn.Nodup → (∀ (j : Nat) g, j ≠ i → fs[j]? = some g → ∀ k ∈ g, k ∉ fn) → (fs.set i fn).flatten.Nodup ∧ ∀ k ∈ (fs.set i fn).flatten, k ∈ fn ∨ k ∈ fs.flatten := by
    intro fs
    induction fs with
    | nil => intro i h1 h2 h3; simp
    | cons g fs ih =>
      intro i k1 k2 k3
      rw [List.flatten_cons, List.nodup_append] at k1
      cases i with
      | zero =>
        simp only [List.set_cons_zero, List.flatten_cons]
        refine ⟨List.nodup_append.2 ⟨k2, k1.2.1, fun a ha b hb hab => ?_⟩, fun k hk => ?_⟩
        · obtain ⟨g', hg', hb'⟩ := List.mem_flatten.1 hb
          obtain ⟨j, hj, rfl⟩ := List.mem_iff_getElem.1 hg'
          exact k3 (j + 1) _ (by omega) (by simp [hj]) b hb' (hab ▸ ha)
        · rcases List.mem_append.1 hk with hk | hk
          · exact .inl hk
          · exact .inr (List.mem_append_right _ hk)
      | succ i =>
        obtain ⟨q1, q2⟩ := ih i k1.2.1 k2 (fun j g' hj hg k hk => k3 (j + 1) g' (by omega) (by simpa using hg) k hk)
        simp only [List.set_cons_succ, List.flatten_cons]
        refine ⟨List.nodup_append.2 ⟨k1.1, q1, fun a ha b hb hab => ?_⟩, fun k hk => ?_⟩
        · subst hab
          rcases q2 a hb with h9 | h9
          · exact k3 0 g (by omega) rfl a ha h9
          · exact k1.2.2 a ha a h9 rfl
        · rcases List.mem_append.1 hk with hk | hk
          · exact .inr (List.mem_append_left _ hk)
          · rcases q2 k hk with h9 | h9
            · exact .inl h9
            · exact .inr (List.mem_append_right _ h9)
  obtain ⟨q1, q2⟩ := key fps i h1'.2 n1 (fun j g hj hg k hk hm => by
    obtain ⟨r1, r2⟩ := hd j g hj hg k hk
    rcases hfr k hm with h9 | h9
    · exact r1 h9
    · have := hltf k r2; omega)
  refine ⟨⟨b :: (fps.set i fn).flatten, List.nodup_cons.2 ⟨fun hm => ?_, q1⟩, fun k hk => ?_, cs.set i v', fps.set i fn, ?_, rfl, ?_⟩, Loc.cell hX, ?_, h3'.frozenAt i⟩
  · rcases q2 b hm with h9 | h9
    · exact hbfn h9
    · exact h1'.1 h9
  · rcases List.mem_cons.1 hk with rfl | hk
    · exact (h2 k (by simp [Value.ownBlock])).1
    · rcases q2 k hk with h9 | h9
      · rcases hfr k h9 with h10 | h10
        · subst h10; exact (h2 k (List.mem_append_right _ hbrw)).1
        · omega
      · exact (h2 k (List.mem_append_right _ h9)).1
  · have : (p.set i row).length = p.length := by simp
    rw [this]; exact hst.1
  · refine h5.turned hi' (Loc.loc (fun k hk => heap_setCell_other _ (fun e => hbfn (by simp only at e; rw [← e]; exact hk))) hX) (fun j g hj hg k hk => ?_)
    obtain ⟨r1, r2⟩ := hd j g hj hg k hk
    rw [heap_setCell_other _ (fun e => h1'.1 (by simp only at e; rw [← e]; exact r2))]
    exact hsame k (hltf k r2) r1
  · exact ⟨cs[i]'(by omega), by rw [h3'.cellAt i (by omega)]; simp⟩
end
end Go.Hs
set_option linter.unusedVariables false
namespace Go.Hs
def RetDX {α : Type} (w : World) (X : World → List Nat → Value → α → Prop) (p : α → Prop) : Value → World → Prop := fun u w' => ∃ x, Ext w w' ∧ Owned w.heap.size X w' u x ∧ p x
end Go.Hs
namespace Go.Proofs.YtgphoihilheoeaaDoor
open Go.Hs
set_option maxRecDepth 10000
set_option maxHeartbeats 4000000
set_option linter.unusedVariables false
set_option linter.unusedSimpArgs false

def ptR (p : List (List Int)) (K : List Int) (x : Int) (j : Nat) (y : Int) : Int := b01 ((List.range j).any (ptF p K x y))
def ptM (p : List (List Int)) (K L : List Int) (x : Int) (j m : Nat) : List Int := (L.take m).map (ptR p K x (j + 1)) ++ (L.drop m).map (ptR p K x j)
theorem ptM_len {p : List (List Int)} {K L : List Int} {x : Int} {j m : Nat} : (ptM p K L x j m).length = L.length := by
  unfold ptM
  rw [List.length_append, List.length_map, List.length_map, ← List.length_append, List.take_append_drop]
theorem ptR_succ {p : List (List Int)} {K : List Int} {x y : Int} {j : Nat} : ptR p K x (j + 1) y = if ptF p K x y j then 1 else ptR p K x j y := by
  unfold ptR
  rw [any_range_succ']
  cases ptF p K x y j <;> cases (List.range j).any (ptF p K x y) <;> rfl
theorem ptM_yes {p : List (List Int)} {K L : List Int} {x : Int} {j m : Nat} (hm : m < L.length) (hf : ptF p K x L[m] j = true) : (ptM p K L x j m).set m 1 = ptM p K L x j (m + 1) := by
  have hl : ((L.take m).map (ptR p K x (j + 1))).length = m := by simp; omega
  unfold ptM
  rw [List.set_append_right _ _ (by omega), hl, Nat.sub_self, List.drop_eq_getElem_cons hm, List.map_cons, List.set_cons_zero, take_snoc _ _ hm, List.map_append, List.append_assoc]
  congr 1
  rw [List.map_cons, List.map_nil, ptR_succ, hf]
  rfl
theorem ptM_no {p : List (List Int)} {K L : List Int} {x : Int} {j m : Nat} (hm : m < L.length) (hf : ptF p K x L[m] j = false) : ptM p K L x j m = ptM p K L x j (m + 1) := by
  unfold ptM
  rw [List.drop_eq_getElem_cons hm, List.map_cons, take_snoc _ _ hm, List.map_append, List.append_assoc]
  congr 1
  rw [List.map_cons, List.map_nil, ptR_succ, hf]
  rfl
theorem ptM_zero {p : List (List Int)} {K L : List Int} {x : Int} {j : Nat} : ptM p K L x j 0 = L.map (ptR p K x j) := by simp [ptM]
theorem ptM_all {p : List (List Int)} {K L : List Int} {x : Int} {j : Nat} : ptM p K L x j L.length = L.map (ptR p K x (j + 1)) := by simp [ptM]
theorem ptR_none {p : List (List Int)} {K L : List Int} {x : Int} : L.map (ptR p K x 0) = List.replicate L.length 0 := by
  rw [← List.map_const']
  exact List.map_congr_left fun y _ => rfl
theorem l4Part_ok (w : World) (v u t : Value) (p : List (List Int)) (K L : List Int) (h : ESl Ints w v p) (hK : Ints w u K) (hL : Ints w t L) (hp : Gr p) (hk : K.length = p.length) (hl : ∀ x ∈ L, 0 ≤ x ∧ x < p.length) (hn : L.length ≤ 1000) :
    Does Tryd.prog 101 [v, u, t] w (RetO w XR (ptV p K L)) := by
  have hp5 := hp.2.1
  have hle := h.le
  have hle1 := hK.le
  have hle2 := hL.le
  have hpl := ptV_len (p := p) (K := K) (L := L)
  refine fn_of_W1 Tryd.func101 rfl Tryd.results101 Tryd.ntmps101 rfl ?_
  focus
    refine W_seq ?_; refine W_region rfl ?_; refine Wo rfl (opv_assign (v := .slice _ _ _) rfl) ?_; refine Wo_nil ?_; refine W_seq ?_; refine W_region rfl ?_; refine Wo_lit0 (XSl 3 XInt) rfl el49 Tryd.sizeOf80 ?_
    rintro b1 w1 hb1 b1lt E1 hO1; have hs1 := E1.size; refine Wo rfl (opv_assign (v := .slice _ _ _) rfl) ?_; refine Wo_nil ?_; refine W_seq ?_; refine W_seq ?_; refine W_region rfl ?_; refine Wo rfl (opv_assign (v := .int _ _) rfl) ?_
    refine Wo_nil ?_; refine W_block ?_
  refine W_loop [7, 8, 9, 10, 11, 13, 14, 15, 16, 17, 18, 19, 20, 21, 22, 23, 24, 25, 26, 27, 28, 29, 30, 31, 32, 33, 34, 35, 36, 37, 38, 39, 40, 41, 42, 43, 44, 45, 46, 47, 48, 49, 50, 51, 52, 53, 54, 55, 56, 57, 58, 59, 60, 61, 62, 63, 64, 65] (fun ((k, o) : Nat × Value) => [(8, .int .i64 (k : Nat)), (7, o)]) (fun (k, o) w' => Ext w w' ∧ k ≤ L.length ∧ Owned w.heap.size XR w' o ((ptV p K L).take k)) (fun x => L.length - x.1) (0, .slice (some ⟨b1, 0, none⟩) 0 0) (by repeat (first | exact trivial | refine And.intro rfl ?_)) ?_ ?_
  · exact ⟨by assumption, Nat.zero_le _, by simpa using hO1⟩
  clear hO1
  rintro ⟨k, o⟩ ρj w2 ⟨E2, hkl, hO1⟩
  by_cases hlt : k < L.length
  · have hLk := hl L[k] (List.getElem_mem hlt)
    have hrow := hp.row (i := L[k].toNat) (by omega)
    have htl : ((ptV p K L).take k).length = k := by simp; omega
    focus
      have szE2 := E2.size; have szE1 := E1.size; refine W_seq ?_; refine W_seq ?_; refine W_region rfl ?_; refine Wo rfl (opv_move (v := .int _ _) rfl) ?_; refine Wo rfl (opv_move (v := t) rfl) ?_
      refine Wo rfl (opv_len Tryd.underlying80 rfl hL) ?_; refine Wo rfl (opv_lss rfl rfl) ?_; refine Wo_nil ?_; refine W_cond_dec rfl (fun h1 => ?_) (fun h1 => ?_); refine W_skip ?_; refine W_seq ?_; refine W_block ?_; refine W_seq ?_
      refine W_region rfl ?_; refine Wo rfl (opv_move (v := t) rfl) ?_; refine Wo rfl (opv_len Tryd.underlying80 rfl hL) ?_; refine Wo_makeI rfl el80 rfl (by omega) ?_; rintro b2 w3 hb2 b2lt E3 hO2; have hs2 := E3.size
      refine Wo rfl (opv_assign (v := .slice _ _ _) rfl) ?_; refine Wo_nil ?_; refine W_seq ?_; refine W_seq ?_; refine W_region rfl ?_; refine Wo rfl (opv_assign (v := .int _ _) rfl) ?_; refine Wo_nil ?_; refine W_block ?_; rotate_left
      (exfalso; omega)
    have hrb := hO2.lt_own (k := b2) rfl
    refine W_loop [10, 11, 22, 23, 24, 25, 26, 27, 28, 29, 30, 31, 32, 33, 34, 35, 36, 37, 38, 39, 40, 41, 42, 43, 44, 45, 46, 47, 48, 49, 50, 51, 52, 53, 54, 55, 56, 57, 58, 59, 60, 61] (fun (j : Nat) => [(10, .int .i64 (j : Nat))]) (fun j w' => Ext w w' ∧ w2.heap.size ≤ w'.heap.size ∧ j ≤ p.length ∧ OwnedB w.heap.size w2.heap.size XR w' o ((ptV p K L).take k) ∧ Owned w2.heap.size XI w' (.slice (some ⟨b2, 0, none⟩) L.length L.length) (L.map (ptR p K L[k] j))) (fun j => p.length - j) 0 (by repeat (first | exact trivial | refine And.intro rfl ?_)) ?_ ?_
    · exact ⟨E2.trans E3, E3.size, Nat.zero_le _, hO1.toB.ext E3, by rw [ptR_none]; exact hO2⟩
    clear hO1 hO2
    rintro j ρk w4 ⟨E4, hs4, hj, hO1, hO2⟩
    by_cases hjl : j < p.length
    · focus
        have szE4 := E4.size; have szE3 := E3.size; have szE2 := E2.size; have szE1 := E1.size; refine W_seq ?_; refine W_seq ?_; refine W_region rfl ?_; refine Wo rfl (opv_move (v := .int _ _) rfl) ?_
        refine Wo rfl (opv_move (v := v) rfl) ?_; refine Wo rfl (opv_len Tryd.underlying49 rfl h) ?_; refine Wo rfl (opv_lss rfl rfl) ?_; refine Wo_nil ?_; refine W_cond_dec rfl (fun h2 => ?_) (fun h2 => ?_); refine W_skip ?_
        refine W_seq ?_; refine W_block ?_; refine W_seq ?_; refine W_region rfl ?_; refine Wo rfl (opv_assign (v := .int _ _) rfl) ?_; refine Wo_nil ?_; refine W_block ?_; rotate_left; (exfalso; omega)
      refine W_loop [11, 28, 29, 30, 31, 32, 33, 34, 35, 36, 37, 38, 39, 40, 41, 42, 43, 44, 45, 46, 47, 48, 49, 50, 51, 52, 53, 54, 55, 56, 57, 58, 59, 60, 61] (fun (m : Nat) => [(11, .int .i64 (m : Nat))]) (fun m w' => Ext w w' ∧ w2.heap.size ≤ w'.heap.size ∧ m ≤ L.length ∧ OwnedB w.heap.size w2.heap.size XR w' o ((ptV p K L).take k) ∧ Owned w2.heap.size XI w' (.slice (some ⟨b2, 0, none⟩) L.length L.length) (ptM p K L L[k] j m)) (fun m => L.length - m) 0 (by repeat (first | exact trivial | refine And.intro rfl ?_)) ?_ ?_
      · exact ⟨E4, hs4, Nat.zero_le _, hO1, by rw [ptM_zero]; exact hO2⟩
      clear hO1 hO2
      rintro m ρl w5 ⟨E5, hs5, hm, hO1, hO2⟩
      have hpm := ptM_len (p := p) (K := K) (L := L) (x := L[k]) (j := j) (m := m)
      by_cases hml : m < L.length
      · have hLm := hl L[m] (List.getElem_mem hml)
        have eF : ptF p K L[k] L[m] j = (decide (p[L[k].toNat][j] = 1) && decide (K[j] = K[L[m].toNat])) := by
          unfold ptF
          rw [getD_lt (show L[k].toNat < p.length by omega), getD_lt (show j < p[L[k].toNat].length by omega), getD_lt (show j < K.length by omega), getD_lt (show L[m].toNat < K.length by omega)]
        by_cases c1 : p[L[k].toNat][j] = 1
        · by_cases c2 : K[j] = K[L[m].toNat]
          · focus
              have szE5 := E5.size; have szE4 := E4.size; have szE3 := E3.size; have szE2 := E2.size; have szE1 := E1.size; refine W_seq ?_; refine W_seq ?_; refine W_region rfl ?_; refine Wo rfl (opv_move (v := .int _ _) rfl) ?_
              refine Wo rfl (opv_move (v := t) rfl) ?_; refine Wo rfl (opv_len Tryd.underlying80 rfl hL) ?_; refine Wo rfl (opv_lss rfl rfl) ?_; refine Wo_nil ?_; refine W_cond_dec rfl (fun h3 => ?_) (fun h3 => ?_); refine W_skip ?_
              refine W_seq ?_; refine W_block ?_; refine W_seq ?_; refine W_draw mixed (by kernel_rfl) rfl ?_; refine Wq_o rfl (fun _ _ => opv_move (v := v) rfl) ?_; refine Wq_o rfl (fun _ _ => opv_move (v := t) rfl) ?_
              refine Wq_o rfl (fun _ _ => opv_move (v := .int _ _) rfl) ?_; refine Wq_get Tryd.underlying80 Tryd.sizeOf3 Tryd.isAgg3 rfl (fun _ => rfl) rfl hL E5 rfl (by first | omega | (simp <;> omega)) ?_; rintro _ _ rfl
              refine Wq_get_z Tryd.underlying49 Tryd.sizeOf80 Tryd.isAgg80 rfl (fun _ => rfl) rfl h E5 rfl (by first | omega | (simp <;> omega)) ?_; rintro _ u1 hu1; refine Wq_o rfl (fun _ _ => opv_move (v := .int _ _) rfl) ?_
              refine Wq_get Tryd.underlying80 Tryd.sizeOf3 Tryd.isAgg3 rfl (fun _ => rfl) rfl hu1 E5 rfl (by first | omega | (simp <;> omega)) ?_; rintro _ _ rfl; refine Wq_o rfl (fun _ _ => opv_eql rfl rfl) ?_
              refine Wq_split_dec rfl (fun _ _ => opv_move (v := .bool _) rfl) (fun h4 => ?_) (fun h4 => ?_); refine Wq_o rfl (fun _ _ => opv_move (v := u) rfl) ?_; refine Wq_o rfl (fun _ _ => opv_move (v := .int _ _) rfl) ?_
              refine Wq_get Tryd.underlying80 Tryd.sizeOf3 Tryd.isAgg3 rfl (fun _ => rfl) rfl hK E5 rfl (by first | omega | (simp <;> omega)) ?_; rintro _ _ rfl; refine Wq_o rfl (fun _ _ => opv_move (v := u) rfl) ?_
              refine Wq_o rfl (fun _ _ => opv_move (v := t) rfl) ?_; refine Wq_o rfl (fun _ _ => opv_move (v := .int _ _) rfl) ?_
              refine Wq_get Tryd.underlying80 Tryd.sizeOf3 Tryd.isAgg3 rfl (fun _ => rfl) rfl hL E5 rfl (by first | omega | (simp <;> omega)) ?_; rintro _ _ rfl
              refine Wq_get_z Tryd.underlying80 Tryd.sizeOf3 Tryd.isAgg3 rfl (fun _ => rfl) rfl hK E5 rfl (by first | omega | (simp <;> omega)) ?_; rintro _ _ rfl; refine Wq_o rfl (fun _ _ => opv_eql rfl rfl) ?_
              refine Wq_o rfl (fun _ _ => opv_pick_t (v := .bool _) rfl rfl) ?_; refine Wq_nil (fun w6 E6 => ?_); have hs3 := E6.size; refine W_cond_dec rfl (fun h5 => ?_) (fun h5 => ?_); refine W_region rfl ?_
              refine Wo rfl (opv_move (v := .slice _ _ _) rfl) ?_; refine Wo rfl (opv_move (v := .int _ _) rfl) ?_; refine Wo rfl (opv_indexAddr Tryd.underlying80 Tryd.sizeOf3 rfl rfl (by omega)) ?_
              refine Wo_set rfl Tryd.sizeOf3 rfl rfl (hO2.toB.ext E6) (by first | omega | (simp <;> omega)) Owned.int (Nat.le_refl _) (by omega) ?_; rintro w7 hO2 On1 K1 hz1; have E7 := On1.ext1 (E5.trans E6) (by omega)
              have hO1 := (hO1.ext E6).wrote K1 (by omega); have hs6 := On1.size; refine Wo_nil ?_; refine W_region rfl ?_; refine Wo rfl (opv_move (v := .int _ _) rfl) ?_; refine Wo rfl (opv_add rfl rfl (by omega)) ?_
              refine Wo rfl (opv_assign (v := .int _ _) rfl) ?_; refine Wo_nil ?_; rotate_left; contradiction; contradiction; (exfalso; omega)
            refine ⟨(m + 1), by repeat (first | exact trivial | refine And.intro rfl ?_), by repeat (first | with_reducible exact Same.refl | refine Same.upd rfl ?_ | refine Same.upds rfl ?_ | refine Same.mix rfl ?_), ?_, ?_⟩
            · refine ⟨by assumption, by omega, by omega, by assumption, ?_⟩
              rw [← ptM_yes hml (by rw [eF, decide_eq_true c1, decide_eq_true c2]; rfl)]
              assumption
            · omega
          · focus
              have szE5 := E5.size; have szE4 := E4.size; have szE3 := E3.size; have szE2 := E2.size; have szE1 := E1.size; refine W_seq ?_; refine W_seq ?_; refine W_region rfl ?_; refine Wo rfl (opv_move (v := .int _ _) rfl) ?_
              refine Wo rfl (opv_move (v := t) rfl) ?_; refine Wo rfl (opv_len Tryd.underlying80 rfl hL) ?_; refine Wo rfl (opv_lss rfl rfl) ?_; refine Wo_nil ?_; refine W_cond_dec rfl (fun h3 => ?_) (fun h3 => ?_); refine W_skip ?_
              refine W_seq ?_; refine W_block ?_; refine W_seq ?_; refine W_draw mixed (by kernel_rfl) rfl ?_; refine Wq_o rfl (fun _ _ => opv_move (v := v) rfl) ?_; refine Wq_o rfl (fun _ _ => opv_move (v := t) rfl) ?_
              refine Wq_o rfl (fun _ _ => opv_move (v := .int _ _) rfl) ?_; refine Wq_get Tryd.underlying80 Tryd.sizeOf3 Tryd.isAgg3 rfl (fun _ => rfl) rfl hL E5 rfl (by first | omega | (simp <;> omega)) ?_; rintro _ _ rfl
              refine Wq_get_z Tryd.underlying49 Tryd.sizeOf80 Tryd.isAgg80 rfl (fun _ => rfl) rfl h E5 rfl (by first | omega | (simp <;> omega)) ?_; rintro _ u1 hu1; refine Wq_o rfl (fun _ _ => opv_move (v := .int _ _) rfl) ?_
              refine Wq_get Tryd.underlying80 Tryd.sizeOf3 Tryd.isAgg3 rfl (fun _ => rfl) rfl hu1 E5 rfl (by first | omega | (simp <;> omega)) ?_; rintro _ _ rfl; refine Wq_o rfl (fun _ _ => opv_eql rfl rfl) ?_
              refine Wq_split_dec rfl (fun _ _ => opv_move (v := .bool _) rfl) (fun h4 => ?_) (fun h4 => ?_); refine Wq_o rfl (fun _ _ => opv_move (v := u) rfl) ?_; refine Wq_o rfl (fun _ _ => opv_move (v := .int _ _) rfl) ?_
              refine Wq_get Tryd.underlying80 Tryd.sizeOf3 Tryd.isAgg3 rfl (fun _ => rfl) rfl hK E5 rfl (by first | omega | (simp <;> omega)) ?_; rintro _ _ rfl; refine Wq_o rfl (fun _ _ => opv_move (v := u) rfl) ?_
              refine Wq_o rfl (fun _ _ => opv_move (v := t) rfl) ?_; refine Wq_o rfl (fun _ _ => opv_move (v := .int _ _) rfl) ?_
              refine Wq_get Tryd.underlying80 Tryd.sizeOf3 Tryd.isAgg3 rfl (fun _ => rfl) rfl hL E5 rfl (by first | omega | (simp <;> omega)) ?_; rintro _ _ rfl
              refine Wq_get_z Tryd.underlying80 Tryd.sizeOf3 Tryd.isAgg3 rfl (fun _ => rfl) rfl hK E5 rfl (by first | omega | (simp <;> omega)) ?_; rintro _ _ rfl; refine Wq_o rfl (fun _ _ => opv_eql rfl rfl) ?_
              refine Wq_o rfl (fun _ _ => opv_pick_t (v := .bool _) rfl rfl) ?_; refine Wq_nil (fun w6 E6 => ?_); have hs3 := E6.size; refine W_cond_dec rfl (fun h5 => ?_) (fun h5 => ?_); contradiction; refine W_skip ?_; refine W_region rfl ?_
              refine Wo rfl (opv_move (v := .int _ _) rfl) ?_; refine Wo rfl (opv_add rfl rfl (by omega)) ?_; refine Wo rfl (opv_assign (v := .int _ _) rfl) ?_; refine Wo_nil ?_; rotate_left; contradiction; (exfalso; omega)
            refine ⟨(m + 1), by repeat (first | exact trivial | refine And.intro rfl ?_), by repeat (first | with_reducible exact Same.refl | refine Same.upd rfl ?_ | refine Same.upds rfl ?_ | refine Same.mix rfl ?_), ?_, ?_⟩
            · refine ⟨by first | assumption | exact E5.trans (by assumption), by omega, by omega, by first | assumption | exact hO1.ext (by assumption), ?_⟩
              rw [← ptM_no hml (by rw [eF, decide_eq_false c2]; simp)]
              first | assumption | exact hO2.ext (by assumption)
            · omega
        · focus
            have szE5 := E5.size; have szE4 := E4.size; have szE3 := E3.size; have szE2 := E2.size; have szE1 := E1.size; refine W_seq ?_; refine W_seq ?_; refine W_region rfl ?_; refine Wo rfl (opv_move (v := .int _ _) rfl) ?_
            refine Wo rfl (opv_move (v := t) rfl) ?_; refine Wo rfl (opv_len Tryd.underlying80 rfl hL) ?_; refine Wo rfl (opv_lss rfl rfl) ?_; refine Wo_nil ?_; refine W_cond_dec rfl (fun h3 => ?_) (fun h3 => ?_); refine W_skip ?_
            refine W_seq ?_; refine W_block ?_; refine W_seq ?_; refine W_draw mixed (by kernel_rfl) rfl ?_; refine Wq_o rfl (fun _ _ => opv_move (v := v) rfl) ?_; refine Wq_o rfl (fun _ _ => opv_move (v := t) rfl) ?_
            refine Wq_o rfl (fun _ _ => opv_move (v := .int _ _) rfl) ?_; refine Wq_get Tryd.underlying80 Tryd.sizeOf3 Tryd.isAgg3 rfl (fun _ => rfl) rfl hL E5 rfl (by first | omega | (simp <;> omega)) ?_; rintro _ _ rfl
            refine Wq_get_z Tryd.underlying49 Tryd.sizeOf80 Tryd.isAgg80 rfl (fun _ => rfl) rfl h E5 rfl (by first | omega | (simp <;> omega)) ?_; rintro _ u1 hu1; refine Wq_o rfl (fun _ _ => opv_move (v := .int _ _) rfl) ?_
            refine Wq_get Tryd.underlying80 Tryd.sizeOf3 Tryd.isAgg3 rfl (fun _ => rfl) rfl hu1 E5 rfl (by first | omega | (simp <;> omega)) ?_; rintro _ _ rfl; refine Wq_o rfl (fun _ _ => opv_eql rfl rfl) ?_
            refine Wq_split_dec rfl (fun _ _ => opv_move (v := .bool _) rfl) (fun h4 => ?_) (fun h4 => ?_); contradiction; refine Wq_skip rfl ?_; refine Wq_skip rfl ?_; refine Wq_skip rfl ?_; refine Wq_skip rfl ?_; refine Wq_skip rfl ?_
            refine Wq_skip rfl ?_; refine Wq_skip rfl ?_; refine Wq_skip rfl ?_; refine Wq_skip rfl ?_; refine Wq_skip rfl ?_; refine Wq_skip rfl ?_; refine Wq_skip rfl ?_; refine Wq_o rfl (fun _ _ => opv_pick_f (v := .bool _) rfl rfl) ?_
            refine Wq_nil (fun w6 E6 => ?_); have hs3 := E6.size; refine W_cond_false rfl ?_; refine W_skip ?_; refine W_region rfl ?_; refine Wo rfl (opv_move (v := .int _ _) rfl) ?_; refine Wo rfl (opv_add rfl rfl (by omega)) ?_
            refine Wo rfl (opv_assign (v := .int _ _) rfl) ?_; refine Wo_nil ?_; rotate_left; (exfalso; omega)
          refine ⟨(m + 1), by repeat (first | exact trivial | refine And.intro rfl ?_), by repeat (first | with_reducible exact Same.refl | refine Same.upd rfl ?_ | refine Same.upds rfl ?_ | refine Same.mix rfl ?_), ?_, ?_⟩
          · refine ⟨by first | assumption | exact E5.trans (by assumption), by omega, by omega, by first | assumption | exact hO1.ext (by assumption), ?_⟩
            rw [← ptM_no hml (by rw [eF, decide_eq_false c1]; simp)]
            first | assumption | exact hO2.ext (by assumption)
          · omega
      · obtain rfl : m = L.length := by omega
        focus
          have szE5 := E5.size; have szE4 := E4.size; have szE3 := E3.size; have szE2 := E2.size; have szE1 := E1.size; refine W_seq ?_; refine W_seq ?_; refine W_region rfl ?_; refine Wo rfl (opv_move (v := .int _ _) rfl) ?_
          refine Wo rfl (opv_move (v := t) rfl) ?_; refine Wo rfl (opv_len Tryd.underlying80 rfl hL) ?_; refine Wo rfl (opv_lss rfl rfl) ?_; refine Wo_nil ?_; refine W_cond_dec rfl (fun h3 => ?_) (fun h3 => ?_); (exfalso; omega)
          refine W_exit ?_; refine exitX_same ?_; refine W_region rfl ?_; refine Wo rfl (opv_move (v := .int _ _) rfl) ?_; refine Wo rfl (opv_add rfl rfl (by omega)) ?_; refine Wo rfl (opv_assign (v := .int _ _) rfl) ?_; refine Wo_nil ?_
        refine ⟨(j + 1), by repeat (first | exact trivial | refine And.intro rfl ?_), by repeat (first | with_reducible exact Same.refl | refine Same.upd rfl ?_ | refine Same.upds rfl ?_ | refine Same.mix rfl ?_), ?_, ?_⟩
        · refine ⟨by assumption, by omega, by omega, by assumption, ?_⟩
          rw [← ptM_all]; assumption
        · omega
    · obtain rfl : j = p.length := by omega
      have hrl : (L.map (ptR p K L[k] p.length)).length = L.length := by simp
      focus
        have szE4 := E4.size; have szE3 := E3.size; have szE2 := E2.size; have szE1 := E1.size; refine W_seq ?_; refine W_seq ?_; refine W_region rfl ?_; refine Wo rfl (opv_move (v := .int _ _) rfl) ?_
        refine Wo rfl (opv_move (v := v) rfl) ?_; refine Wo rfl (opv_len Tryd.underlying49 rfl h) ?_; refine Wo rfl (opv_lss rfl rfl) ?_; refine Wo_nil ?_; refine W_cond_dec rfl (fun h2 => ?_) (fun h2 => ?_); (exfalso; omega)
        refine W_exit ?_; refine exitX_same ?_; refine W_region rfl ?_; refine Wo rfl (opv_move (v := o) rfl) ?_; refine Wo rfl (opv_move (v := .slice _ _ _) rfl) ?_
        refine Wo_buildSlice (ps := [(0, .slice _ _ _)]) (cs := [_]) rfl Tryd.underlying49 Tryd.sizeOf80 Tryd.zeroValue80 rfl rfl rfl rfl ?_; rintro b3 w5 hb3 E5 hB1; have hlb3 := hB1.lt; have hs3 := E5.size
        refine Wo_app1 rfl el49 rfl rfl hB1 (hO1.ext E5) (hO2.toB.ext E5).o (by omega) (by first | omega | (simp <;> omega)) (by omega) (by omega) (E4.trans E5) (by omega) ?_; have hT1 := (hO1.ext E5); rintro v1 w6 hO1 E6 M1
        have hO2 := (hO2.toB.ext E5).moves M1 hT1 (by omega); have hB1 := hB1.moves M1 hT1 (by omega); have hs5 := E6.size; refine Wo rfl (opv_assign (v := v1) rfl) ?_; refine Wo_nil ?_; refine W_region rfl ?_
        refine Wo rfl (opv_move (v := .int _ _) rfl) ?_; refine Wo rfl (opv_add rfl rfl (by omega)) ?_; refine Wo rfl (opv_assign (v := .int _ _) rfl) ?_; refine Wo_nil ?_
      refine ⟨((k + 1, v1)), by repeat (first | exact trivial | refine And.intro rfl ?_), by repeat (first | with_reducible exact Same.refl | refine Same.upd rfl ?_ | refine Same.upds rfl ?_ | refine Same.mix rfl ?_), ?_, ?_⟩
      · refine ⟨by assumption, by omega, ?_⟩
        rw [take_snoc _ _ (by omega)]
        have e : (ptV p K L)[k]'(by omega) = L.map (ptR p K L[k] p.length) := by simp only [ptV, List.getElem_map]; rfl
        rw [e]
        assumption
      · simp only; omega
  · obtain rfl : k = L.length := by omega
    focus
      have szE2 := E2.size; have szE1 := E1.size; refine W_seq ?_; refine W_seq ?_; refine W_region rfl ?_; refine Wo rfl (opv_move (v := .int _ _) rfl) ?_; refine Wo rfl (opv_move (v := t) rfl) ?_
      refine Wo rfl (opv_len Tryd.underlying80 rfl hL) ?_; refine Wo rfl (opv_lss rfl rfl) ?_; refine Wo_nil ?_; refine W_cond_dec rfl (fun h1 => ?_) (fun h1 => ?_); (exfalso; omega); refine W_exit ?_; refine exitX_same ?_
      refine W_seq ?_; refine W_region rfl ?_; refine Wo rfl (opv_move (v := o) rfl) ?_; refine Wo rfl (opv_assign (v := o) rfl) ?_; refine Wo_nil ?_; refine W_ret ?_
      refine ⟨E2, (congrArg (Owned _ _ _ _) ?_).mp (hO1.toB.o.mono (by omega))⟩
    rw [List.take_of_length_le (by omega)]

theorem JoinedOf_ok (w : World) (v : Value) (p : List (List Int)) (h : ESl Ints w v p) (z : Int) : Does Tryd.prog 81 [v, .int .i64 z] w (RetDX w XR (fun c => (Nod p z → Cand p z.toNat c) ∧ (¬ Nod p z → c = []))) := by
  by_cases hz : Nod p z
  · obtain ⟨hp, hz0, hz1⟩ := id hz
    obtain ⟨i, rfl⟩ := Int.eq_ofNat_of_zero_le hz0
    have hi : i < p.length := by omega
    have hp5 := hp.2.1
    have k1 : ∀ (w : World) (v : Value), ESl Ints w v p → Does Tryd.prog 99 [v, .int .i64 (i : Int)] w (RetO w XI (ints (rf p i))) := fun w v h => by
      have := spec_ReachedFrom_ok w v p i h
      rw [show rfV p (i : Int) = rf p i from if_pos hz] at this; exact this
    have k2 : ∀ (w : World) (v : Value), ESl Ints w v p → Does Tryd.prog 100 [v] w (RetO w XI (ints (kndL p))) := fun w v h => by
      have := spec_KindsOf_ok w v p h
      rw [if_pos hp] at this; exact this
    have hrl := rf_len (p := p) (i := i)
    have hril := ints_len (rf p i)
    have hr0 : 0 < (rf p i).length := List.length_pos_iff.2 fun e => by
      have := (mem_rf hp.gr hi).2 (Rch.refl i)
      rw [e] at this; cases this
    have hkl := ikndL_len (p := p)
    have k4 : ∀ (w : World) (v u t : Value) (L : List Nat), ESl Ints w v p → Ints w u (ints (kndL p)) → Ints w t (ints L) → (∀ x ∈ L, x < p.length) → L.length ≤ p.length → Does Tryd.prog 101 [v, u, t] w (RetO w XR (qp p (L.map (knd p)))) := fun w v u t L h1 h2 h3 h4 h5 => by
      rw [← ptV_qp hp.gr h4]
      refine l4Part_ok w v u t p _ _ h1 h2 h3 hp.gr hkl (fun x hx => ?_) (by rw [ints_len]; omega)
      obtain ⟨y, hy, rfl⟩ := List.mem_map.1 hx
      have := h4 y hy
      omega
    refine fn_of_W1 Tryd.func81 rfl Tryd.results81 Tryd.ntmps81 rfl ?_
    focus
      refine W_seq ?_; refine W_region rfl ?_; refine Wo rfl (opv_assign (v := .slice _ _ _) rfl) ?_; refine Wo_nil ?_; refine W_seq ?_; refine W_region rfl ?_; refine Wo rfl (opv_move (v := v) rfl) ?_
      refine Wo rfl (opv_move (v := .int _ _) rfl) ?_; refine Wo_call rfl (opc2 (a := v) (b := .int _ _) Tryd.call99 rfl rfl) (k1 _ _ (h)) ?_; rintro u1 w1 ⟨E1, hO1⟩; have hs1 := E1.size; refine Wo rfl (opv_assign (v := u1) rfl) ?_
      refine Wo_nil ?_; refine W_seq ?_; refine W_region rfl ?_; refine Wo rfl (opv_move (v := v) rfl) ?_; refine Wo_call rfl (opc1 (a := v) Tryd.call100 rfl) (k2 _ _ ((Mono.mono E1 h))) ?_; rintro u2 w2 ⟨E2, hO2⟩; have hs2 := E2.size
      refine Wo rfl (opv_assign (v := u2) rfl) ?_; refine Wo_nil ?_; refine W_seq ?_; refine W_seq ?_; refine W_region rfl ?_; refine Wo rfl (opv_move (v := u1) rfl) ?_; refine Wo rfl (opv_len Tryd.underlying80 rfl (Owned.read hO1)) ?_
      refine Wo rfl (opv_eql rfl rfl) ?_; refine Wo_nil ?_; refine W_cond_dec rfl (fun h1 => ?_) (fun h1 => ?_); (exfalso; omega); refine W_skip ?_; refine W_seq ?_; refine W_region rfl ?_; refine Wo rfl (opv_move (v := .int _ _) rfl) ?_
      refine Wo_buildSliceH (ps := [(0, .int _ _)]) (cs := [_]) rfl Tryd.underlying80 Tryd.sizeOf3 Tryd.zeroValue3 rfl rfl rfl rfl ?_; rintro b1 w3 hb1 E3 hB1 hHb1; have hlb1 := hB1.lt; have hs3 := E3.size
      refine Wo rfl (opv_assign (v := .slice _ _ _) rfl) ?_; refine Wo_nil ?_; refine W_seq ?_; refine W_seq ?_; refine W_region rfl ?_; refine Wo rfl (opv_assign (v := .int _ _) rfl) ?_; refine Wo_nil ?_; refine W_block ?_
    have hO3 : Owned w2.heap.size XI w3 (.slice (some ⟨b1, 0, none⟩) 1 1) (ints [i]) := Owned.block hHb1 hb1 rfl (by decide) ⟨⟨rfl, rfl⟩, trivial⟩
    have r1 := hO1.read
    have r2 := hO2.read
    clear hHb1 hB1 hO1 hO2
    refine W_loop [7, 8, 9, 10, 22, 23, 24, 25, 26, 27, 28, 29, 30, 31, 32, 33, 34, 35, 36, 37, 38, 39, 40, 41, 42, 43, 44, 45, 46, 47, 48, 49, 50, 51, 52, 53, 54, 55, 56, 57, 58, 59] (fun ((k, u, L) : Nat × Value × List Nat) => [(8, .int .i64 (k : Nat)), (7, u)]) (fun (k, u, L) w' => Ext w2 w' ∧ Owned w2.heap.size XI w' u (ints L) ∧ k ≤ (rf p i).length ∧ Fnd p i k L) (fun x => (rf p i).length - x.1) (0, .slice (some ⟨b1, 0, none⟩) 1 1, [i]) (by repeat (first | exact trivial | refine And.intro rfl ?_)) ?_ ?_
    · exact ⟨by assumption, hO3, Nat.zero_le _, Fnd.zero⟩
    clear hO3
    rintro ⟨k, u, L⟩ ρj w4 ⟨E4, hO3, hk, hF⟩
    have hLl := hF.len hp.gr hi
    have hLil := ints_len L
    by_cases hlt : k < (rf p i).length
    · have hrk := (mem_rf hp.gr hi).1 (List.getElem_mem hlt) |>.lt hp.gr hi
      have hgk : (ints (rf p i))[k]'(by omega) = ((rf p i)[k] : Int) := ints_get hlt
      focus
        have szE4 := E4.size; have szE3 := E3.size; have szE2 := E2.size; have szE1 := E1.size; refine W_seq ?_; refine W_seq ?_; refine W_region rfl ?_; refine Wo rfl (opv_move (v := .int _ _) rfl) ?_
        refine Wo rfl (opv_move (v := u1) rfl) ?_; refine Wo rfl (opv_len Tryd.underlying80 rfl r1) ?_; refine Wo rfl (opv_lss rfl rfl) ?_; refine Wo_nil ?_; refine W_cond_dec rfl (fun h2 => ?_) (fun h2 => ?_); refine W_skip ?_
        refine W_seq ?_; refine W_block ?_; refine W_seq ?_; refine W_region rfl ?_; refine Wo rfl (opv_assign (v := .bool _) rfl) ?_; refine Wo_nil ?_; refine W_seq ?_; refine W_seq ?_; refine W_region rfl ?_
        refine Wo rfl (opv_assign (v := .int _ _) rfl) ?_; refine Wo_nil ?_; refine W_block ?_; rotate_left; (exfalso; omega)
      refine W_loop [9, 10, 28, 29, 30, 31, 32, 33, 34, 35, 36, 37, 38, 39, 40, 41, 42, 43, 44, 45, 46, 47, 48, 49, 50, 51] (fun ((j, f) : Nat × Bool) => [(10, .int .i64 (j : Nat)), (9, .bool f)]) (fun (j, f) w' => Ext w4 w' ∧ j ≤ L.length ∧ (f = true ↔ knd p (rf p i)[k] ∉ (L.take j).map (knd p))) (fun x => L.length - x.1) (0, true) (by repeat (first | exact trivial | refine And.intro rfl ?_)) ?_ ?_
      · exact ⟨Ext.refl _, Nat.zero_le _, by simp⟩
      rintro ⟨j, f⟩ ρk w5 ⟨E5, hj, hf⟩
      by_cases hjl : j < L.length
      · have hLj := hF.lt hp.gr hi (List.getElem_mem hjl)
        have hgj : (ints L)[j]'(by omega) = (L[j] : Int) := ints_get hjl
        have hkj : (ints (kndL p))[((ints L)[j]'(by omega)).toNat]'(by omega) = (knd p L[j] : Int) := by
          simp only [hgj, Int.toNat_natCast]; exact ikndL_at _
        have hkk : (ints (kndL p))[((ints (rf p i))[k]'(by omega)).toNat]'(by omega) = (knd p (rf p i)[k] : Int) := by
          simp only [hgk, Int.toNat_natCast]; exact ikndL_at _
        have hts := take_snoc _ _ hjl
        have bj : ((ints L)[j]'(by omega)).toNat < (ints (kndL p)).length := by rw [hkl, hgj]; omega
        have bk : ((ints (rf p i))[k]'(by omega)).toNat < (ints (kndL p)).length := by rw [hkl, hgk]; omega
        cases f
        · focus
            have szE5 := E5.size; have szE4 := E4.size; have szE3 := E3.size; have szE2 := E2.size; have szE1 := E1.size; refine W_seq ?_; refine W_seq ?_; refine W_region rfl ?_; refine Wo rfl (opv_move (v := .int _ _) rfl) ?_
            refine Wo rfl (opv_move (v := u) rfl) ?_; refine Wo rfl (opv_len Tryd.underlying80 rfl (Owned.read hO3)) ?_; refine Wo rfl (opv_lss rfl rfl) ?_; refine Wo_nil ?_; refine W_cond_dec rfl (fun h3 => ?_) (fun h3 => ?_); refine W_skip ?_
            refine W_seq ?_; refine W_block ?_; refine W_draw mixed (by kernel_rfl) rfl ?_; refine Wq_o rfl (fun _ _ => opv_move (v := .bool _) rfl) ?_; refine Wq_o rfl (fun _ _ => opv_move (v := .bool _) rfl) ?_; refine Wq_skip rfl ?_
            refine Wq_skip rfl ?_; refine Wq_skip rfl ?_; refine Wq_skip rfl ?_; refine Wq_skip rfl ?_; refine Wq_skip rfl ?_; refine Wq_skip rfl ?_; refine Wq_skip rfl ?_; refine Wq_skip rfl ?_; refine Wq_skip rfl ?_; refine Wq_skip rfl ?_
            refine Wq_skip rfl ?_; refine Wq_skip rfl ?_; refine Wq_skip rfl ?_; refine Wq_skip rfl ?_; refine Wq_o rfl (fun _ _ => opv_pick_f (v := .bool _) rfl rfl) ?_; refine Wq_o rfl (fun _ _ => opv_assign (v := .bool _) rfl) ?_
            refine Wq_nil (fun w6 E6 => ?_); have hs4 := E6.size; refine W_region rfl ?_; refine Wo rfl (opv_move (v := .int _ _) rfl) ?_; refine Wo rfl (opv_add rfl rfl (by omega)) ?_; refine Wo rfl (opv_assign (v := .int _ _) rfl) ?_
            refine Wo_nil ?_; rotate_left; (exfalso; omega)
          refine ⟨((j + 1, false)), by repeat (first | exact trivial | refine And.intro rfl ?_), by repeat (first | with_reducible exact Same.refl | refine Same.upd rfl ?_ | refine Same.upds rfl ?_ | refine Same.mix rfl ?_), ?_, ?_⟩
          · refine ⟨by exact (E5.trans E6), by omega, ⟨fun h => (by cases h), fun h => ?_⟩⟩
            rw [hts, List.map_append, List.mem_append, not_or] at h
            exact absurd (hf.2 h.1) (by simp)
          · simp only; omega
        · focus
            have szE5 := E5.size; have szE4 := E4.size; have szE3 := E3.size; have szE2 := E2.size; have szE1 := E1.size; refine W_seq ?_; refine W_seq ?_; refine W_region rfl ?_; refine Wo rfl (opv_move (v := .int _ _) rfl) ?_
            refine Wo rfl (opv_move (v := u) rfl) ?_; refine Wo rfl (opv_len Tryd.underlying80 rfl (Owned.read hO3)) ?_; refine Wo rfl (opv_lss rfl rfl) ?_; refine Wo_nil ?_; refine W_cond_dec rfl (fun h3 => ?_) (fun h3 => ?_); refine W_skip ?_
            refine W_seq ?_; refine W_block ?_; refine W_draw mixed (by kernel_rfl) rfl ?_; refine Wq_o rfl (fun _ _ => opv_move (v := .bool _) rfl) ?_; refine Wq_o rfl (fun _ _ => opv_move (v := .bool _) rfl) ?_
            refine Wq_o rfl (fun _ _ => opv_move (v := u2) rfl) ?_; refine Wq_o rfl (fun _ _ => opv_move (v := u) rfl) ?_; refine Wq_o rfl (fun _ _ => opv_move (v := .int _ _) rfl) ?_
            refine Wq_get Tryd.underlying80 Tryd.sizeOf3 Tryd.isAgg3 rfl (fun _ => rfl) rfl (Owned.read hO3) E5 rfl (by first | omega | (simp <;> omega)) ?_; rintro _ _ rfl
            refine Wq_get_z Tryd.underlying80 Tryd.sizeOf3 Tryd.isAgg3 rfl (fun _ => rfl) rfl r2 (E4.trans E5) rfl (by first | omega | (simp <;> omega)) ?_; rintro _ _ rfl; refine Wq_o rfl (fun _ _ => opv_move (v := u2) rfl) ?_
            refine Wq_o rfl (fun _ _ => opv_move (v := u1) rfl) ?_; refine Wq_o rfl (fun _ _ => opv_move (v := .int _ _) rfl) ?_
            refine Wq_get Tryd.underlying80 Tryd.sizeOf3 Tryd.isAgg3 rfl (fun _ => rfl) rfl r1 ((E2.trans E4).trans E5) rfl (by first | omega | (simp <;> omega)) ?_; rintro _ _ rfl
            refine Wq_get_z Tryd.underlying80 Tryd.sizeOf3 Tryd.isAgg3 rfl (fun _ => rfl) rfl r2 (E4.trans E5) rfl (by first | omega | (simp <;> omega)) ?_; rintro _ _ rfl; refine Wq_o rfl (fun _ _ => opv_neq rfl rfl) ?_
            refine Wq_o rfl (fun _ _ => opv_pick_t (v := .bool _) rfl rfl) ?_; refine Wq_o rfl (fun _ _ => opv_assign (v := .bool _) rfl) ?_; refine Wq_nil (fun w6 E6 => ?_); have hs4 := E6.size; refine W_region rfl ?_
            refine Wo rfl (opv_move (v := .int _ _) rfl) ?_; refine Wo rfl (opv_add rfl rfl (by omega)) ?_; refine Wo rfl (opv_assign (v := .int _ _) rfl) ?_; refine Wo_nil ?_; rotate_left; (exfalso; omega)
          refine ⟨((j + 1, !decide ((ints (kndL p))[((ints L)[j]'(by omega)).toNat]'bj = (ints (kndL p))[((ints (rf p i))[k]'(by omega)).toNat]'bk))), by repeat (first | exact trivial | refine And.intro rfl ?_), by repeat (first | with_reducible exact Same.refl | refine Same.upd rfl ?_ | refine Same.upds rfl ?_ | refine Same.mix rfl ?_), ?_, ?_⟩
          · refine ⟨by exact (E5.trans E6), by omega, ?_⟩
            rw [hkj, hkk, hts, List.map_append, List.mem_append, not_or]
            have hf' := hf.1 rfl
            simp only [List.map_cons, List.map_nil, List.mem_singleton, Bool.not_eq_true', decide_eq_false_iff_not]
            constructor
            · intro h; exact ⟨hf', fun e => h (by rw [e])⟩
            · intro h e; exact h.2 (by omega)
          · simp only; omega
      · obtain rfl : j = L.length := by omega
        rw [List.take_length] at hf
        cases f
        · focus
            have szE5 := E5.size; have szE4 := E4.size; have szE3 := E3.size; have szE2 := E2.size; have szE1 := E1.size; refine W_seq ?_; refine W_seq ?_; refine W_region rfl ?_; refine Wo rfl (opv_move (v := .int _ _) rfl) ?_
            refine Wo rfl (opv_move (v := u) rfl) ?_; refine Wo rfl (opv_len Tryd.underlying80 rfl (Owned.read hO3)) ?_; refine Wo rfl (opv_lss rfl rfl) ?_; refine Wo_nil ?_; refine W_cond_dec rfl (fun h3 => ?_) (fun h3 => ?_); (exfalso; omega)
            refine W_exit ?_; refine exitX_same ?_; refine W_seq ?_; refine W_region rfl ?_; refine Wo rfl (opv_move (v := .bool _) rfl) ?_; refine Wo_nil ?_; refine W_cond_false rfl ?_; refine W_skip ?_; refine W_region rfl ?_
            refine Wo rfl (opv_move (v := .int _ _) rfl) ?_; refine Wo rfl (opv_add rfl rfl (by omega)) ?_; refine Wo rfl (opv_assign (v := .int _ _) rfl) ?_; refine Wo_nil ?_
          refine ⟨((k + 1, u, L)), by repeat (first | exact trivial | refine And.intro rfl ?_), by repeat (first | with_reducible exact Same.refl | refine Same.upd rfl ?_ | refine Same.upds rfl ?_ | refine Same.mix rfl ?_), ?_, ?_⟩
          · refine ⟨by exact (E4.trans E5), by exact (Mono.mono E5 hO3), by omega, hF.skip hlt ?_⟩
            exact Classical.byContradiction fun h => absurd (hf.2 h) (by simp)
          · simp only; omega
        · focus
            have szE5 := E5.size; have szE4 := E4.size; have szE3 := E3.size; have szE2 := E2.size; have szE1 := E1.size; refine W_seq ?_; refine W_seq ?_; refine W_region rfl ?_; refine Wo rfl (opv_move (v := .int _ _) rfl) ?_
            refine Wo rfl (opv_move (v := u) rfl) ?_; refine Wo rfl (opv_len Tryd.underlying80 rfl (Owned.read hO3)) ?_; refine Wo rfl (opv_lss rfl rfl) ?_; refine Wo_nil ?_; refine W_cond_dec rfl (fun h3 => ?_) (fun h3 => ?_); (exfalso; omega)
            refine W_exit ?_; refine exitX_same ?_; refine W_seq ?_; refine W_region rfl ?_; refine Wo rfl (opv_move (v := .bool _) rfl) ?_; refine Wo_nil ?_; refine W_cond_true rfl ?_; refine W_region rfl ?_
            refine Wo rfl (opv_move (v := u) rfl) ?_; refine Wo rfl (opv_move (v := u1) rfl) ?_; refine Wo rfl (opv_move (v := .int _ _) rfl) ?_
            refine Wo_get Tryd.underlying80 Tryd.sizeOf3 Tryd.isAgg3 rfl (fun _ => rfl) rfl r1 ((E2.trans E4).trans E5) rfl (by first | omega | (simp <;> omega)) ?_; rintro _ _ rfl
            refine Wo_buildSliceH (ps := [(0, .int _ _)]) (cs := [_]) rfl Tryd.underlying80 Tryd.sizeOf3 Tryd.zeroValue3 rfl rfl rfl rfl ?_; rintro b2 w6 hb2 E6 hB1 hHb2; have hlb2 := hB1.lt; have hs4 := E6.size
            refine Wo_app1 rfl el80 rfl rfl hB1 (hO3.toB.ext (E5.trans E6)) Owned.int (Nat.le_refl _) (by first | omega | (simp <;> omega)) (by omega) (by omega) ((((E1.trans E2).trans E4).trans E5).trans E6) (by omega) ?_
            have hT1 := (hO3.toB.ext (E5.trans E6)); rintro v1 w7 hO3 E7 M1; have E8 := M1.ext hT1 (((E2.trans E4).trans E5).trans E6) (by omega); have szE8 := E8.size; have E9 := M1.ext hT1 ((E4.trans E5).trans E6) (by omega)
            have szE9 := E9.size; have hB1 := hB1.moves M1 hT1 (by omega); have hs5 := E7.size; refine Wo rfl (opv_assign (v := v1) rfl) ?_; refine Wo_nil ?_; refine W_region rfl ?_; refine Wo rfl (opv_move (v := .int _ _) rfl) ?_
            refine Wo rfl (opv_add rfl rfl (by omega)) ?_; refine Wo rfl (opv_assign (v := .int _ _) rfl) ?_; refine Wo_nil ?_
          refine ⟨((k + 1, v1, L ++ [(rf p i)[k]])), by repeat (first | exact trivial | refine And.intro rfl ?_), by repeat (first | with_reducible exact Same.refl | refine Same.upd rfl ?_ | refine Same.upds rfl ?_ | refine Same.mix rfl ?_), ?_, ?_⟩
          · refine ⟨by assumption, ?_, by omega, hF.step hp.gr hi hlt (hf.1 rfl)⟩
            rw [ints_append, show ints [(rf p i)[k]] = [(ints (rf p i))[k]'(by omega)] by rw [hgk]; rfl]
            assumption
          · simp only; omega
    · have hK := hF.kds hp.gr hi (by omega)
      have hLt : ∀ x ∈ L, x < p.length := fun x hx => hF.lt hp.gr hi hx
      focus
        have szE4 := E4.size; have szE3 := E3.size; have szE2 := E2.size; have szE1 := E1.size; refine W_seq ?_; refine W_seq ?_; refine W_region rfl ?_; refine Wo rfl (opv_move (v := .int _ _) rfl) ?_
        refine Wo rfl (opv_move (v := u1) rfl) ?_; refine Wo rfl (opv_len Tryd.underlying80 rfl r1) ?_; refine Wo rfl (opv_lss rfl rfl) ?_; refine Wo_nil ?_; refine W_cond_dec rfl (fun h2 => ?_) (fun h2 => ?_); (exfalso; omega)
        refine W_exit ?_; refine exitX_same ?_; refine W_seq ?_; refine W_region rfl ?_; refine Wo rfl (opv_move (v := v) rfl) ?_; refine Wo rfl (opv_move (v := u2) rfl) ?_; refine Wo rfl (opv_move (v := u) rfl) ?_
        refine Wo_call rfl (opc3 (a := v) (b := u2) (c := u) Tryd.call101 rfl rfl rfl) (k4 _ _ _ _ _ ((Mono.mono ((E1.trans E2).trans E4) h)) ((Mono.mono E4 r2)) ((Owned.read hO3)) (by assumption) (by assumption)) ?_; rintro u3 w5 ⟨E5, hO1⟩
        have hs4 := E5.size; refine Wo rfl (opv_assign (v := u3) rfl) ?_; refine Wo_nil ?_; refine W_ret ?_; refine at_ret (v := u3) rfl ?_
      refine ⟨_, by exact (((E1.trans E2).trans E4).trans E5), hO1.mono (by omega), fun _ => ⟨_, hK, rfl⟩, fun h => absurd hz h⟩
  · have k1 : ∀ (w : World) (v : Value), ESl Ints w v p → Does Tryd.prog 99 [v, .int .i64 z] w (RetO w XI []) := fun w v h => by
      have := spec_ReachedFrom_ok w v p z h
      rw [show rfV p z = [] from if_neg hz] at this; exact this
    have k2 : ∀ (w : World) (v : Value), ESl Ints w v p → Does Tryd.prog 100 [v] w (RetO w XI (if Pic p then ints (kndL p) else [])) := fun w v h => spec_KindsOf_ok w v p h
    have hnil : (([] : List Int).length : Int) = 0 := rfl
    refine fn_of_W1 Tryd.func81 rfl Tryd.results81 Tryd.ntmps81 rfl ?_
    focus
      refine W_seq ?_; refine W_region rfl ?_; refine Wo rfl (opv_assign (v := .slice _ _ _) rfl) ?_; refine Wo_nil ?_; refine W_seq ?_; refine W_region rfl ?_; refine Wo rfl (opv_move (v := v) rfl) ?_
      refine Wo rfl (opv_move (v := .int _ _) rfl) ?_; refine Wo_call rfl (opc2 (a := v) (b := .int _ _) Tryd.call99 rfl rfl) (k1 _ _ (h)) ?_; rintro u1 w1 ⟨E1, hO1⟩; have hs1 := E1.size; refine Wo rfl (opv_assign (v := u1) rfl) ?_
      refine Wo_nil ?_; refine W_seq ?_; refine W_region rfl ?_; refine Wo rfl (opv_move (v := v) rfl) ?_; refine Wo_call rfl (opc1 (a := v) Tryd.call100 rfl) (k2 _ _ ((Mono.mono E1 h))) ?_; rintro u2 w2 ⟨E2, hO2⟩; have hs2 := E2.size
      refine Wo rfl (opv_assign (v := u2) rfl) ?_; refine Wo_nil ?_; refine W_seq ?_; refine W_seq ?_; refine W_region rfl ?_; refine Wo rfl (opv_move (v := u1) rfl) ?_; refine Wo rfl (opv_len Tryd.underlying80 rfl (Owned.read hO1)) ?_
      refine Wo rfl (opv_eql rfl rfl) ?_; refine Wo_nil ?_; refine W_cond_dec rfl (fun h1 => ?_) (fun h1 => ?_); refine W_seq ?_; refine W_region rfl ?_; refine Wo_lit0 (XSl 3 XInt) rfl el49 Tryd.sizeOf80 ?_; rintro b1 w3 hb1 b1lt E3 hO3
      have hs3 := E3.size; refine Wo rfl (opv_assign (v := .slice _ _ _) rfl) ?_; refine Wo_nil ?_; refine W_ret ?_; refine at_ret (v := .slice _ _ _) rfl ?_; rotate_left; contradiction
    exact ⟨_, by exact ((E1.trans E2).trans E3), hO3.mono (by omega), fun h => absurd h hz, fun _ => rfl⟩

end Go.Proofs.YtgphoihilheoeaaDoor
set_option linter.unusedVariables false
set_option linter.unusedSimpArgs false
namespace Go.Hs
section
variable {P : Program} {ρ : Env} {w : World} {ty s t e : TypeId} {x : Operand} {k : IntKind} {a : Int} {T : TypeDesc} {b c : Nat}
theorem opv_conv_u8 (hs : P.underlying s = some T) (ht : P.underlying t = some (.int .u8)) (hx : evalE ρ x = .int k a) (h : 0 ≤ a ∧ a ≤ 255) : OpV P (.convert s t x) ty ρ w (.int .u8 a) := by
  have e : IntKind.u8.wrap a = a := by
    simp only [IntKind.wrap, IntKind.bits, IntKind.signed]
    simp
    omega
  have : (convert s t (.int k a)).run P w = .ok (.int .u8 a) w := by simp [convert, run_und hs, run_und ht, Conv.intToInt, e]
  simp [OpV, execOp, hx, this]
theorem opv_sub_u8 {y : Operand} {t' : TypeId} {a' : Int} (hx : evalE ρ x = .int .u8 a) (hy : evalE ρ y = .int .u8 a') (h : 0 ≤ a - a' ∧ a - a' ≤ 255) : OpV P (.binOp .sub t x y t') ty ρ w (.int .u8 (a - a')) := by
  have e : IntKind.u8.wrap (a - a') = a - a' := by
    simp only [IntKind.wrap, IntKind.bits, IntKind.signed]
    simp
    omega
  simp [OpV, execOp, hx, hy, eqGuard, binOp, Op.intArith, e]
theorem opv_conv_b1 (hs : P.underlying s = some (.slice e)) (he : P.underlying e = some (.int .u8)) (ht : P.underlying t = some .string) (hx : evalE ρ x = .slice (some ⟨b, 0, none⟩) 1 c) (hB : Blk w b [.int .u8 a]) :
    OpV P (.convert s t x) ty ρ w (str [UInt8.ofNat a.toNat]) := by
  have h0 : w.cell? ⟨b, 0, none⟩ = some (.int .u8 a) := hB.cell rfl
  have hl : (loadCells ⟨b, 0, none⟩ 1).run P w = .ok ([a].map (Value.int .u8)).toArray w := by simp [loadCells, loadCellsFrom, Addr.add, h0]
  have : (convert s t (.slice (some ⟨b, 0, none⟩) 1 c)).run P w = .ok (str [UInt8.ofNat a.toNat]) w := by
    simp only [convert, Sem.run_bind, run_und hs, run_und ht, run_und he, Result.andThen_ok]
    rw [run_bytesToString w _ _ _ [a] hl]
    rfl
  simp [OpV, execOp, hx, this]
end
end Go.Hs
set_option linter.unusedVariables false
set_option linter.unusedSimpArgs false
namespace Go.Hs
section
variable {c : UInt8} {l a r : List UInt8}
theorem byte_ind (c : UInt8) (s : List UInt8) : c ∉ s ∨ ∃ x r, s = x ++ c :: r ∧ c ∉ x := by
  induction s with
  | nil => exact .inl (by simp)
  | cons d s ih =>
    by_cases hd : d = c
    · exact .inr ⟨[], s, by simp [hd], by simp⟩
    · rcases ih with h | ⟨x, r, rfl, h⟩
      · exact .inl (by simp only [List.mem_cons, not_or]; exact ⟨fun e => hd e.symm, h⟩)
      · exact .inr ⟨d :: x, r, rfl, by simp only [List.mem_cons, not_or]; exact ⟨fun e => hd e.symm, h⟩⟩
theorem index_no (h : c ∉ l) : Go.Lib.index l [c] = -1 := by
  induction l with
  | nil => rfl
  | cons d l ih =>
    simp only [List.mem_cons, not_or] at h
    rw [Go.Lib.index, ih h.2]
    simp [List.isPrefixOf, h.1]
theorem index_at (h : c ∉ a) : Go.Lib.index (a ++ c :: r) [c] = (a.length : Int) := by
  induction a with
  | nil => rw [List.nil_append, Go.Lib.index]; simp [List.isPrefixOf]
  | cons d a ih =>
    simp only [List.mem_cons, not_or] at h
    rw [List.cons_append, Go.Lib.index, ih h.2]
    have : ¬ ((a.length : Int) == -1) = true := by simp only [beq_iff_eq]; omega
    rw [if_neg (by simp [List.isPrefixOf, h.1]), if_neg this]
    simp
theorem split_eq (c : UInt8) : ∀ (n : Nat) (l : List UInt8), l.length ≤ n → Go.Lib.split l [c] = cutB c l := by
  intro n
  induction n with
  | zero =>
    intro l hl
    obtain rfl := List.eq_nil_of_length_eq_zero (Nat.le_zero.1 hl)
    rfl
  | succ n ih =>
    intro l hl
    rcases byte_ind c l with h | ⟨a, r, rfl, h⟩
    · rw [cutB_one h]
      unfold Go.Lib.split
      rw [Go.Lib.count_miss (index_no h)]
      rfl
    · rw [cutB_app h, ← ih r (by simp at hl; omega)]
      unfold Go.Lib.split
      rw [Go.Lib.count_hit (by simp) (index_at h)]
      have hd : (a ++ c :: r).drop (a.length + [c].length) = r := by
        rw [List.drop_append]
        simp
      rw [hd, Nat.add_comm 1, Go.Lib.splitK, index_at h]
      have : ¬ ((a.length : Int) == -1) = true := by simp only [beq_iff_eq]; omega
      rw [if_neg this]
      simp only [Int.toNat_natCast, Nat.add_zero, hd, List.take_left']
theorem splitB_eq (c : UInt8) (l : List UInt8) : (Go.Lib.splitB ⟨#[c]⟩ 0 (Go.Lib.countB ⟨l.toArray⟩ ⟨#[c]⟩) ⟨l.toArray⟩).map Value.string = (cutB c l).map str := by
  have h := Go.Lib.splitB_data ⟨#[c]⟩ 0 (Go.Lib.countB ⟨l.toArray⟩ ⟨#[c]⟩) ⟨l.toArray⟩
  have h2 : Go.Lib.splitK [c] 0 (Go.Lib.countB ⟨l.toArray⟩ ⟨#[c]⟩) l = cutB c l := split_eq c l.length l (Nat.le_refl _)
  simp only at h
  rw [h2] at h
  rw [← h, List.map_map]
  refine List.map_congr_left fun x _ => ?_
  simp
theorem splitB_len (c : UInt8) (l : List UInt8) : Go.Lib.countB ⟨l.toArray⟩ ⟨#[c]⟩ + 1 = (cutB c l).length := by
  rw [← List.length_map (f := str), ← splitB_eq, List.length_map]
  exact (Go.Lib.splitB_all ⟨#[c]⟩ (by simp [ByteArray.size]) 0 _ ⟨l.toArray⟩ rfl).symm
/-- ahead of the first c, what is behind it, is there one -/
def cutF (c : UInt8) : List UInt8 → List UInt8 × List UInt8 × Bool
  | [] => ([], [], false)
  | d :: l => if d = c then ([], l, true) else (d :: (cutF c l).1, (cutF c l).2.1, (cutF c l).2.2)
theorem cutF_no (h : c ∉ l) : cutF c l = (l, [], false) := by
  induction l with
  | nil => rfl
  | cons d l ih =>
    simp only [List.mem_cons, not_or] at h
    rw [cutF, if_neg (fun e => h.1 e.symm), ih h.2]
theorem cutF_at (h : c ∉ a) : cutF c (a ++ c :: r) = (a, r, true) := by
  induction a with
  | nil => rw [List.nil_append, cutF, if_pos rfl]
  | cons d a ih =>
    simp only [List.mem_cons, not_or] at h
    rw [List.cons_append, cutF, if_neg (fun e => h.1 e.symm), ih h.2]
theorem cut_eq (c : UInt8) (l : List UInt8) : Go.Lib.cut l [c] = cutF c l := by
  rcases byte_ind c l with h | ⟨a, r, rfl, h⟩
  · rw [cutF_no h, Go.Lib.cut, index_no h, if_neg (by decide)]
  · rw [cutF_at h, Go.Lib.cut, index_at h, if_pos (by omega)]
    simp
theorem cutF_len (c : UInt8) (l : List UInt8) : (cutF c l).1.length ≤ l.length ∧ (cutF c l).2.1.length ≤ l.length := by
  rcases byte_ind c l with h | ⟨a, r, rfl, h⟩
  · rw [cutF_no h]; simp
  · rw [cutF_at h]; simp; omega
theorem join_eq (c : UInt8) (ps : List (List UInt8)) : Go.Lib.join ps [c] = joinB c ps := by
  have h : ∀ (x : List UInt8) (ps : List (List UInt8)), Go.Lib.join (x :: ps) [c] = x ++ ps.flatMap fun y => c :: y := by
    intro x ps
    induction ps generalizing x with
    | nil => rw [Go.Lib.join_one]; simp
    | cons y ps ih =>
      have := ih y
      unfold Go.Lib.join List.intercalate at this ⊢
      simp only [List.intersperse, List.flatten_cons, List.flatMap_cons] at this ⊢
      rw [this]
      simp
  cases ps with
  | nil => rfl
  | cons x ps => exact h x ps
theorem decDigits_small {n : Nat} (h : n < 10) : Go.Lib.decDigits n = [dig n] := by
  rw [Go.Lib.decDigits, dif_pos h]; rfl
end
/-- a package-level variable that holds some int -/
def EMx (g : Nat) : World → Value → Unit → Prop := fun w _ _ => ∃ m, w.cell? ⟨g, 0, none⟩ = some (.int .i64 m)
instance {g : Nat} : Mono (EMx g) := ⟨fun e ⟨m, h⟩ => ⟨m, e.cell h⟩⟩
theorem xall_str {w : World} : ∀ (xs : List (List UInt8)), (∀ x ∈ xs, x.length ≤ 9223372036854775807) → XAll XStr w (List.replicate xs.length []) (xs.map str) xs
  | [], _ => trivial
  | x :: xs, h => ⟨⟨rfl, rfl, h x (by simp)⟩, xall_str xs fun y hy => h y (by simp [hy])⟩
theorem cutB_mem_len {c : UInt8} : ∀ (n : Nat) (l : List UInt8), l.length ≤ n → ∀ x ∈ cutB c l, x.length ≤ l.length := by
  intro n
  induction n with
  | zero =>
    intro l hl x hx
    obtain rfl := List.eq_nil_of_length_eq_zero (Nat.le_zero.1 hl)
    simp [cutB] at hx
    simp [hx]
  | succ n ih =>
    intro l hl x h
    rcases byte_ind c l with hn | ⟨a, r, rfl, hn⟩
    · rw [cutB_one hn] at h; simp at h; simp [h]
    · rw [cutB_app hn] at h
      rcases List.mem_cons.1 h with rfl | h
      · simp
      · have := ih r (by simp at hl; omega) x h
        simp; omega
end Go.Hs
namespace Go.Proofs.YtgphoihilheoeaaDoor
open Go.Hs
set_option maxRecDepth 10000
set_option maxHeartbeats 4000000
set_option linter.unusedVariables false
set_option linter.unusedSimpArgs false
abbrev XS := XSl 9 XStr

def Tryd.laysSplit_ren : Go.Shelf.Ren := ⟨fun | 146 => 92 | 221 => 110 | 268 => 129 | 138 => 130 | 143 => 131 | 195 => 148 | 197 => 149 | 218 => 150 | 219 => 94 | 260 => 170 | 217 => 111 | 225 => 112 | 224 => 113 | 267 => 114 | 266 => 132 | 314 => 133 | n => n, fun | 9 => 9 | 31 => 65 | 3 => 3 | 4 => 4 | 0 => 0 | 105 => 141 | 21 => 21 | 5 => 5 | 46 => 109 | 119 => 166 | 139 => 169 | 138 => 168 | 146 => 129 | 51 => 128 | n => n, fun | 1 => 0 | 3 => 4 | 4 => 5 | n => n⟩
theorem Tryd.laysSplit : Go.Proofs.Lays.n146 Tryd.prog Tryd.laysSplit_ren := {
  mixed := by kernel_rfl
  f138 := Tryd.func130.trans (congrArg some (by kernel_rfl))
  f143 := Tryd.func131.trans (congrArg some (by kernel_rfl))
  f146 := Tryd.func92.trans (congrArg some (by kernel_rfl))
  f195 := Tryd.func148.trans (congrArg some (by kernel_rfl))
  f197 := Tryd.func149.trans (congrArg some (by kernel_rfl))
  f217 := Tryd.func111.trans (congrArg some (by kernel_rfl))
  f218 := Tryd.func150.trans (congrArg some (by kernel_rfl))
  f219 := Tryd.func94.trans (congrArg some (by kernel_rfl))
  f221 := Tryd.func110.trans (congrArg some (by kernel_rfl))
  f224 := Tryd.func113.trans (congrArg some (by kernel_rfl))
  f225 := Tryd.func112.trans (congrArg some (by kernel_rfl))
  f260 := Tryd.func170.trans (congrArg some (by kernel_rfl))
  f266 := Tryd.func132.trans (congrArg some (by kernel_rfl))
  f267 := Tryd.func114.trans (congrArg some (by kernel_rfl))
  f268 := Tryd.func129.trans (congrArg some (by kernel_rfl))
  f314 := Tryd.func133.trans (congrArg some (by kernel_rfl))
  t0 := Tryd.underlying0
  a0 := Tryd.isAgg0
  z0 := Tryd.sizeOf0
  v0 := Tryd.zeroValue0
  t3 := Tryd.underlying3
  a3 := Tryd.isAgg3
  z3 := Tryd.sizeOf3
  v3 := Tryd.zeroValue3
  t4 := Tryd.underlying4
  a4 := Tryd.isAgg4
  z4 := Tryd.sizeOf4
  v4 := Tryd.zeroValue4
  t5 := Tryd.underlying5
  a5 := Tryd.isAgg5
  z5 := Tryd.sizeOf5
  v5 := Tryd.zeroValue5
  t9 := Tryd.underlying9
  a9 := Tryd.isAgg9
  z9 := Tryd.sizeOf9
  v9 := Tryd.zeroValue9
  t21 := Tryd.underlying21
  a21 := Tryd.isAgg21
  z21 := Tryd.sizeOf21
  v21 := Tryd.zeroValue21
  t31 := Tryd.underlying65
  a31 := Tryd.isAgg65
  z31 := Tryd.sizeOf65
  v31 := Tryd.zeroValue65
  t46 := Tryd.underlying109
  a46 := Tryd.isAgg109
  z46 := Tryd.sizeOf109
  v46 := Tryd.zeroValue109
  t51 := Tryd.underlying128
  a51 := Tryd.isAgg128
  z51 := Tryd.sizeOf128
  v51 := Tryd.zeroValue128
  t105 := Tryd.underlying141
  a105 := Tryd.isAgg141
  z105 := Tryd.sizeOf141
  v105 := Tryd.zeroValue141
  t119 := Tryd.underlying166
  a119 := Tryd.isAgg166
  z119 := Tryd.sizeOf166
  t138 := Tryd.underlying168
  a138 := Tryd.isAgg168
  z138 := Tryd.sizeOf168
  v138 := Tryd.zeroValue168
  t139 := Tryd.underlying169
  a139 := Tryd.isAgg169
  z139 := Tryd.sizeOf169
  v139 := Tryd.zeroValue169
  t146 := Tryd.underlying129
  a146 := Tryd.isAgg129
  z146 := Tryd.sizeOf129
  v146 := Tryd.zeroValue129
  g1 := by kernel_rfl
  g3 := by kernel_rfl
  g4 := by kernel_rfl }
/-- internal/bytealg.MaxLen's number -/
abbrev gMx : Nat := Tryd.laysSplit_ren.g 1
theorem Split_ok (w : World) (s : List UInt8) (hM : EMx gMx w (.bool true) ()) (hs : s.length ≤ 1048576) :
    Does Tryd.prog 92 [str s, str [47]] w (RetO w XS (cutB 47 s)) := by
  obtain ⟨m, hm⟩ := hM
  have hc := Go.Proofs.Any.strings_Split Tryd.laysSplit (by kernel_rfl) ⟨s.toArray⟩ ⟨#[47]⟩ m w (by simp [ByteArray.size]; omega) hm (by simp [ByteArray.size])
  unfold Does
  refine Calls.mono (show Calls Tryd.prog 92 _ w _ from hc) ?_
  rintro e w' ⟨he, rfl⟩
  rw [splitB_eq, splitB_len] at *
  refine ⟨_, he, (Ext.refl w).alloc _, ?_⟩
  have hl := cutB_len (s := 47) s
  have hc2 := List.count_le_length (a := (47 : UInt8)) (l := s)
  refine Owned.block (cs := (cutB 47 s).map str) (heap_alloc_new w _) (Nat.le_refl _) (by simp) (by unfold maxLen; omega) ?_
  exact xall_str _ fun x hx => by have := cutB_mem_len (c := 47) s.length s (Nat.le_refl _) x hx; omega

def Tryd.laysJoin_ren : Go.Shelf.Ren := ⟨fun | 156 => 108 | 165 => 122 | 166 => 123 | 169 => 124 | 240 => 141 | 241 => 142 | 276 => 166 | 277 => 167 | n => n, fun | 31 => 65 | 9 => 9 | 3 => 3 | 4 => 4 | 0 => 0 | 20 => 20 | 72 => 114 | 76 => 118 | 70 => 112 | 37 => 43 | 75 => 117 | 127 => 137 | 164 => 154 | 5 => 5 | 80 => 120 | n => n, fun | n => n⟩
theorem Tryd.laysJoin : Go.Proofs.Lays.n156 Tryd.prog Tryd.laysJoin_ren := {
  mixed := by kernel_rfl
  f156 := Tryd.func108.trans (congrArg some (by kernel_rfl))
  f165 := Tryd.func122.trans (congrArg some (by kernel_rfl))
  f166 := Tryd.func123.trans (congrArg some (by kernel_rfl))
  f169 := Tryd.func124.trans (congrArg some (by kernel_rfl))
  f240 := Tryd.func141.trans (congrArg some (by kernel_rfl))
  f241 := Tryd.func142.trans (congrArg some (by kernel_rfl))
  f276 := Tryd.func166.trans (congrArg some (by kernel_rfl))
  f277 := Tryd.func167.trans (congrArg some (by kernel_rfl))
  t0 := Tryd.underlying0
  a0 := Tryd.isAgg0
  z0 := Tryd.sizeOf0
  v0 := Tryd.zeroValue0
  t3 := Tryd.underlying3
  a3 := Tryd.isAgg3
  z3 := Tryd.sizeOf3
  v3 := Tryd.zeroValue3
  t4 := Tryd.underlying4
  a4 := Tryd.isAgg4
  z4 := Tryd.sizeOf4
  v4 := Tryd.zeroValue4
  t9 := Tryd.underlying9
  a9 := Tryd.isAgg9
  z9 := Tryd.sizeOf9
  v9 := Tryd.zeroValue9
  t20 := Tryd.underlying20
  a20 := Tryd.isAgg20
  z20 := Tryd.sizeOf20
  v20 := Tryd.zeroValue20
  t31 := Tryd.underlying65
  a31 := Tryd.isAgg65
  z31 := Tryd.sizeOf65
  v31 := Tryd.zeroValue65
  t37 := Tryd.underlying43
  a37 := Tryd.isAgg43
  z37 := Tryd.sizeOf43
  v37 := Tryd.zeroValue43
  t70 := Tryd.underlying112
  a70 := Tryd.isAgg112
  z70 := Tryd.sizeOf112
  v70 := Tryd.zeroValue112
  t72 := Tryd.underlying114
  a72 := Tryd.isAgg114
  z72 := Tryd.sizeOf114
  v72 := Tryd.zeroValue114
  t75 := Tryd.underlying117
  a75 := Tryd.isAgg117
  z75 := Tryd.sizeOf117
  v75 := Tryd.zeroValue117
  t76 := Tryd.underlying118
  a76 := Tryd.isAgg118
  z76 := Tryd.sizeOf118
  v76 := Tryd.zeroValue118
  t127 := Tryd.underlying137
  a127 := Tryd.isAgg137
  z127 := Tryd.sizeOf137
  v127 := Tryd.zeroValue137
  t164 := Tryd.underlying154
  a164 := Tryd.isAgg154
  z164 := Tryd.sizeOf154
  v164 := Tryd.zeroValue154 }
theorem Join_extra : Builder.Extra Tryd.prog Tryd.laysJoin_ren where
  sizeBuilder := by kernel_rfl
  liesBuilder := by kernel_rfl
  t5 := Tryd.underlying5
  a5 := fun w => run_isAgg_plain Tryd.underlying5 rfl w
  z5 := Tryd.sizeOf5
  v5 := Tryd.zeroValue5
  infoByte := by kernel_rfl
  cellsByte := by kernel_rfl
  sizeByte := by kernel_rfl
  neB5 := by decide
theorem Join_ok (w : World) (v : Value) (ps : List (List UInt8)) {lo : Nat} (h : Owned lo XS w v ps) (hl : (joinB 47 ps).length ≤ 1048576) (hl2 : ps.length ≤ 1048576) :
    Does Tryd.prog 108 [v, str [47]] w (Ret w (str (joinB 47 ps))) := by
  rcases ps.eq_nil_or_concat with rfl | hne
  · obtain ⟨a, c, rfl, h1, h2⟩ := h.read
    unfold Does
    refine Calls.mono (show Calls Tryd.prog 108 _ w _ from Go.Proofs.Any.strings_Join_none Tryd.laysJoin Join_extra a c ⟨#[47]⟩ w) ?_
    rintro e w' ⟨he, rfl⟩
    exact ⟨_, he, rfl, Ext.refl _⟩
  · have hp : 0 < ps.length := by obtain ⟨a, b, rfl⟩ := hne; simp
    obtain ⟨b, c, rfl, hc⟩ := h.lit hp
    have hb := h.lt_own (k := b) rfl
    obtain ⟨a', c', e, h1, h2⟩ := h.read
    obtain ⟨rfl, -, rfl⟩ : some _ = a' ∧ ps.length = ps.length ∧ c = c' := by injection e with e1 e2 e3; exact ⟨e1, e2, e3⟩
    have hcell : ∀ (j : Nat) x, (ps.map fun l => (⟨l.toArray⟩ : ByteArray))[j]? = some x → w.cell? ⟨b, 0 + j, none⟩ = some (.string x) := by
      intro j x hx
      rw [List.getElem?_map] at hx
      obtain ⟨l, hl, rfl⟩ := Option.map_eq_some_iff.1 hx
      obtain ⟨hj, rfl⟩ := List.getElem?_eq_some_iff.1 hl
      rcases h2 with rfl | ⟨b2, o2, e2, h2⟩
      · cases hj
      · injection e2 with e2; injection e2 with e3 e4; subst e3; subst e4
        obtain ⟨u, hu, rfl, _⟩ := h2 j hj
        exact hu
    have hj : (Go.Lib.join ((ps.map fun l => (⟨l.toArray⟩ : ByteArray)).map (·.data.toList)) [47]) = joinB 47 ps := by
      rw [List.map_map, show ((fun x : ByteArray => x.data.toList) ∘ fun l : List UInt8 => (⟨l.toArray⟩ : ByteArray)) = id from funext fun l => rfl, List.map_id, join_eq]
    have hc := Go.Proofs.Any.strings_Join Tryd.laysJoin Join_extra b 0 c (ps.map fun l => (⟨l.toArray⟩ : ByteArray)) ⟨#[47]⟩ w hcell hb.2 (by simp; omega) (by simp; omega) (by
      show (Go.Lib.join _ [47]).length ≤ _
      rw [hj]; omega)
    rw [List.length_map] at hc
    unfold Does
    refine Calls.mono (show Calls Tryd.prog 108 _ w _ from hc) ?_
    rintro e w' ⟨he, hB⟩
    refine ⟨_, he, ?_, hB⟩
    show Value.string ⟨(Go.Lib.join _ [47]).toArray⟩ = _
    rw [hj]

def Tryd.laysCut_ren : Go.Shelf.Ren := ⟨fun | 145 => 48 | 220 => 74 | 219 => 94 | 217 => 111 | 225 => 112 | 224 => 113 | 267 => 114 | 266 => 132 | 314 => 133 | n => n, fun | 9 => 9 | 4 => 4 | 59 => 68 | 3 => 3 | 5 => 5 | 46 => 109 | 146 => 129 | 51 => 128 | n => n, fun | 1 => 0 | n => n⟩
theorem Tryd.laysCut : Go.Proofs.Lays.n145 Tryd.prog Tryd.laysCut_ren := {
  mixed := by kernel_rfl
  f145 := Tryd.func48.trans (congrArg some (by kernel_rfl))
  f217 := Tryd.func111.trans (congrArg some (by kernel_rfl))
  f219 := Tryd.func94.trans (congrArg some (by kernel_rfl))
  f220 := Tryd.func74.trans (congrArg some (by kernel_rfl))
  f224 := Tryd.func113.trans (congrArg some (by kernel_rfl))
  f225 := Tryd.func112.trans (congrArg some (by kernel_rfl))
  f266 := Tryd.func132.trans (congrArg some (by kernel_rfl))
  f267 := Tryd.func114.trans (congrArg some (by kernel_rfl))
  f314 := Tryd.func133.trans (congrArg some (by kernel_rfl))
  t3 := Tryd.underlying3
  a3 := Tryd.isAgg3
  z3 := Tryd.sizeOf3
  v3 := Tryd.zeroValue3
  t4 := Tryd.underlying4
  a4 := Tryd.isAgg4
  z4 := Tryd.sizeOf4
  v4 := Tryd.zeroValue4
  t5 := Tryd.underlying5
  a5 := Tryd.isAgg5
  z5 := Tryd.sizeOf5
  v5 := Tryd.zeroValue5
  t9 := Tryd.underlying9
  a9 := Tryd.isAgg9
  z9 := Tryd.sizeOf9
  v9 := Tryd.zeroValue9
  t46 := Tryd.underlying109
  a46 := Tryd.isAgg109
  z46 := Tryd.sizeOf109
  v46 := Tryd.zeroValue109
  t51 := Tryd.underlying128
  a51 := Tryd.isAgg128
  z51 := Tryd.sizeOf128
  v51 := Tryd.zeroValue128
  t59 := Tryd.underlying68
  a59 := Tryd.isAgg68
  z59 := Tryd.sizeOf68
  v59 := Tryd.zeroValue68
  t146 := Tryd.underlying129
  a146 := Tryd.isAgg129
  z146 := Tryd.sizeOf129
  v146 := Tryd.zeroValue129
  g1 := by kernel_rfl }
theorem Cut_ok (w : World) (s : List UInt8) (c : UInt8) (hM : EMx gMx w (.bool true) ()) (hs : s.length ≤ 1048576) :
    Does Tryd.prog 48 [str s, str [c]] w (Ret w (.tuple #[str (cutF c s).1, str (cutF c s).2.1, .bool (cutF c s).2.2])) := by
  obtain ⟨m, hm⟩ := hM
  have hc := Go.Proofs.Any.strings_Cut Tryd.laysCut ⟨s.toArray⟩ ⟨#[c]⟩ m w (by simp [ByteArray.size]; omega) hm
  unfold Does
  refine Calls.mono (show Calls Tryd.prog 48 _ w _ from hc) ?_
  rintro e w' ⟨he, n, rfl⟩
  refine ⟨_, he, ?_, ?_⟩
  · have := cut_eq c s
    simp only [show (#[c] : Array UInt8).toList = [c] from rfl, this]
  · exact ⟨rfl, rfl, rfl, Nat.le_refl _, fun _ _ => rfl⟩

def Tryd.laysItoa_ren : Go.Shelf.Ren := ⟨fun | 171 => 72 | 243 => 91 | 246 => 109 | 283 => 125 | 284 => 126 | 285 => 127 | 286 => 128 | 129 => 144 | 317 => 143 | 318 => 145 | 319 => 146 | 320 => 147 | 337 => 168 | 338 => 169 | n => n, fun | 3 => 3 | 9 => 9 | 2 => 2 | 4 => 4 | 171 => 121 | 0 => 0 | 53 => 122 | 37 => 43 | 5 => 5 | 173 => 125 | 212 => 139 | 51 => 128 | 20 => 20 | 213 => 140 | 46 => 109 | 232 => 164 | 233 => 165 | n => n, fun | 17 => 1 | 18 => 2 | 19 => 3 | n => n⟩
theorem Tryd.laysItoa : Go.Proofs.Lays.n171 Tryd.prog Tryd.laysItoa_ren := {
  mixed := by kernel_rfl
  f129 := Tryd.func144.trans (congrArg some (by kernel_rfl))
  f171 := Tryd.func72.trans (congrArg some (by kernel_rfl))
  f243 := Tryd.func91.trans (congrArg some (by kernel_rfl))
  f246 := Tryd.func109.trans (congrArg some (by kernel_rfl))
  f283 := Tryd.func125.trans (congrArg some (by kernel_rfl))
  f284 := Tryd.func126.trans (congrArg some (by kernel_rfl))
  f285 := Tryd.func127.trans (congrArg some (by kernel_rfl))
  f286 := Tryd.func128.trans (congrArg some (by kernel_rfl))
  f317 := Tryd.func143.trans (congrArg some (by kernel_rfl))
  f318 := Tryd.func145.trans (congrArg some (by kernel_rfl))
  f319 := Tryd.func146.trans (congrArg some (by kernel_rfl))
  f320 := Tryd.func147.trans (congrArg some (by kernel_rfl))
  f337 := Tryd.func168.trans (congrArg some (by kernel_rfl))
  f338 := Tryd.func169.trans (congrArg some (by kernel_rfl))
  t0 := Tryd.underlying0
  a0 := Tryd.isAgg0
  z0 := Tryd.sizeOf0
  v0 := Tryd.zeroValue0
  t2 := Tryd.underlying2
  a2 := Tryd.isAgg2
  z2 := Tryd.sizeOf2
  v2 := Tryd.zeroValue2
  t3 := Tryd.underlying3
  a3 := Tryd.isAgg3
  z3 := Tryd.sizeOf3
  v3 := Tryd.zeroValue3
  t4 := Tryd.underlying4
  a4 := Tryd.isAgg4
  z4 := Tryd.sizeOf4
  v4 := Tryd.zeroValue4
  t5 := Tryd.underlying5
  a5 := Tryd.isAgg5
  z5 := Tryd.sizeOf5
  v5 := Tryd.zeroValue5
  t9 := Tryd.underlying9
  a9 := Tryd.isAgg9
  z9 := Tryd.sizeOf9
  v9 := Tryd.zeroValue9
  t20 := Tryd.underlying20
  a20 := Tryd.isAgg20
  z20 := Tryd.sizeOf20
  v20 := Tryd.zeroValue20
  t37 := Tryd.underlying43
  a37 := Tryd.isAgg43
  z37 := Tryd.sizeOf43
  v37 := Tryd.zeroValue43
  t46 := Tryd.underlying109
  a46 := Tryd.isAgg109
  z46 := Tryd.sizeOf109
  v46 := Tryd.zeroValue109
  t51 := Tryd.underlying128
  a51 := Tryd.isAgg128
  z51 := Tryd.sizeOf128
  v51 := Tryd.zeroValue128
  t53 := Tryd.underlying122
  a53 := Tryd.isAgg122
  z53 := Tryd.sizeOf122
  v53 := Tryd.zeroValue122
  t171 := Tryd.underlying121
  a171 := Tryd.isAgg121
  z171 := Tryd.sizeOf121
  v171 := Tryd.zeroValue121
  t173 := Tryd.underlying125
  a173 := Tryd.isAgg125
  z173 := Tryd.sizeOf125
  v173 := Tryd.zeroValue125
  t212 := Tryd.underlying139
  a212 := Tryd.isAgg139
  z212 := Tryd.sizeOf139
  v212 := Tryd.zeroValue139
  t213 := Tryd.underlying140
  a213 := Tryd.isAgg140
  z213 := Tryd.sizeOf140
  t232 := Tryd.underlying164
  a232 := Tryd.isAgg164
  z232 := Tryd.sizeOf164
  v232 := Tryd.zeroValue164
  t233 := Tryd.underlying165
  a233 := Tryd.isAgg165
  z233 := Tryd.sizeOf165
  v233 := Tryd.zeroValue165
  g17 := by kernel_rfl
  g18 := by kernel_rfl
  g19 := by kernel_rfl }
theorem Itoa_ok (w : World) (n : Nat) (h : n < 10) : Does Tryd.prog 72 [.int .i64 (n : Int)] w (Ret w (str [dig n])) := by
  unfold Does
  refine Calls.mono (show Calls Tryd.prog 72 _ w _ from Go.Proofs.Any.strconv_Itoa_small Tryd.laysItoa n (by omega) w) ?_
  rintro e w' ⟨he, rfl⟩
  refine ⟨_, he, ?_, Ext.refl _⟩
  rw [decDigits_small h]

end Go.Proofs.YtgphoihilheoeaaDoor
namespace Go.Proofs.YtgphoihilheoeaaDoor
open Go.Hs
set_option maxRecDepth 10000
set_option maxHeartbeats 4000000
set_option linter.unusedVariables false
set_option linter.unusedSimpArgs false

theorem l1Number_ok (w : World) (n : Nat) (hn : n < 10) : Does Tryd.prog 43 [.int .i64 (n : Int)] w (Ret w (str [dig n])) := by
  refine fn_of_W1 Tryd.func43 rfl Tryd.results43 Tryd.ntmps43 rfl ?_
  focus
    refine W_seq ?_; refine W_region rfl ?_; refine Wo rfl (opv_assign (v := .string _) rfl) ?_; refine Wo_nil ?_; refine W_seq ?_; refine W_seq ?_; refine W_region rfl ?_; refine Wo rfl (opv_move (v := .int _ _) rfl) ?_
    refine Wo rfl (opv_lss rfl rfl) ?_; refine Wo_nil ?_; refine W_cond_dec rfl (fun h1 => ?_) (fun h1 => ?_); refine W_seq ?_; refine W_region rfl ?_; refine Wo rfl (opv_move (v := .int _ _) rfl) ?_; refine Wo rfl (opv_max rfl rfl) ?_
    refine Wo rfl (opv_add rfl rfl (by omega)) ?_; refine Wo rfl (opv_conv_u8 Tryd.underlying3 Tryd.underlying5 rfl (by omega)) ?_
    refine Wo_buildSlice (ps := [(0, .int _ _)]) (cs := [_]) rfl Tryd.underlying43 Tryd.sizeOf5 Tryd.zeroValue5 rfl rfl rfl rfl ?_; rintro b1 w1 hb1 E1 hB1; have hlb1 := hB1.lt; have hs1 := E1.size
    refine Wo rfl (opv_conv_b1 Tryd.underlying43 Tryd.underlying5 Tryd.underlying9 rfl (by assumption)) ?_; refine Wo rfl (opv_assign (v := .string _) rfl) ?_; refine Wo_nil ?_; refine W_ret ?_; refine at_ret (v := .string _) rfl ?_
    refine ⟨congrArg str ?_, E1⟩; rotate_left; (exfalso; omega)
  have e : (48 + max (n : Int) 0).toNat = 48 + n := by omega
  rw [e]; rfl

theorem l1Cut_ok (w : World) (s : List UInt8) (c : UInt8) (hs : s.length ≤ 1048576) : Does Tryd.prog 45 [str s, .int .u8 (c.toNat : Int)] w (RetO w XS (cutB c s)) := by
  refine fn_of_W1 Tryd.func45 rfl Tryd.results45 Tryd.ntmps45 rfl ?_
  focus
    refine W_seq ?_; refine W_region rfl ?_; refine Wo rfl (opv_assign (v := .slice _ _ _) rfl) ?_; refine Wo_nil ?_; refine W_seq ?_; refine W_region rfl ?_; refine Wo_lit0 XStr rfl el65 Tryd.sizeOf9 ?_; rintro b1 w1 hb1 b1lt E1 hO1
    have hs1 := E1.size; refine Wo rfl (opv_assign (v := .slice _ _ _) rfl) ?_; refine Wo_nil ?_; refine W_seq ?_; refine W_region rfl ?_; refine Wo rfl (opv_assign (v := .int _ _) rfl) ?_; refine Wo_nil ?_; refine W_seq ?_
    refine W_seq ?_; refine W_region rfl ?_; refine Wo rfl (opv_assign (v := .int _ _) rfl) ?_; refine Wo_nil ?_; refine W_block ?_
  refine W_loop [5, 6, 7, 9, 10, 11, 12, 13, 14, 15, 16, 17, 18, 19, 20, 21, 22, 23, 24, 25, 26, 27, 28] (fun ((k, f, u, ps) : Nat × Nat × Value × List (List UInt8)) => [(7, .int .i64 (k : Nat)), (6, .int .i64 (f : Nat)), (5, u)]) (fun (k, f, u, ps) w' => Ext w w' ∧ k ≤ s.length ∧ f ≤ k ∧ ps.length ≤ k ∧ Owned w.heap.size XS w' u ps ∧ cutB c (s.take k) = ps ++ [(s.drop f).take (k - f)]) (fun x => s.length - x.1) (0, 0, .slice (some ⟨b1, 0, none⟩) 0 0, []) (by repeat (first | exact trivial | refine And.intro rfl ?_)) ?_ ?_
  · exact ⟨by assumption, Nat.zero_le _, Nat.le_refl _, Nat.zero_le _, hO1, by simp [cutB]⟩
  rintro ⟨k, f, u, ps⟩ ρj w2 ⟨E2, hk, hf, hpl, hO2, hc⟩
  have hst := fun hk' => cut_step (s := c) (l := s) hk' hf hc
  focus
    have szE2 := E2.size; have szE1 := E1.size; refine W_seq ?_; refine W_seq ?_; refine W_region rfl ?_; refine Wo rfl (opv_move (v := .int _ _) rfl) ?_; refine Wo rfl (opv_move (v := .string _) rfl) ?_
    refine Wo rfl (opv_len_str Tryd.underlying9 rfl) ?_; refine Wo rfl (opv_lss rfl rfl) ?_; refine Wo_nil ?_; refine W_cond_dec rfl (fun h1 => ?_) (fun h1 => ?_); refine W_skip ?_; refine W_seq ?_; refine W_block ?_; refine W_seq ?_
    refine W_region rfl ?_; refine Wo rfl (opv_move (v := .string _) rfl) ?_; refine Wo rfl (opv_move (v := .int _ _) rfl) ?_; refine Wo rfl (opv_index_str Tryd.underlying9 rfl rfl (by omega)) ?_
    refine Wo rfl (opv_move (v := .int _ _) rfl) ?_; refine Wo rfl (opv_eql rfl rfl) ?_; refine Wo_nil ?_; refine W_cond_dec rfl (fun h2 => ?_) (fun h2 => ?_); refine W_seq ?_; refine W_region rfl ?_
    refine Wo rfl (opv_move (v := u) rfl) ?_; refine Wo rfl (opv_move (v := .string _) rfl) ?_; refine Wo rfl (opv_move (v := .int _ _) rfl) ?_; refine Wo rfl (opv_move (v := .int _ _) rfl) ?_
    refine Wo rfl (opv_slice_str Tryd.underlying9 rfl rfl rfl (by omega)) ?_; refine Wo_buildSlice (ps := [(0, .string _)]) (cs := [_]) rfl Tryd.underlying65 Tryd.sizeOf9 Tryd.zeroValue9 rfl rfl rfl rfl ?_; rintro b2 w3 hb2 E3 hB1
    have hlb2 := hB1.lt; have hs2 := E3.size
    refine Wo_app1 rfl el65 rfl rfl hB1 (hO2.toB.ext E3) (Owned.str (by first | omega | (simp <;> omega))) (Nat.le_refl _) (by first | omega | (simp <;> omega)) (by omega) (by omega) (E2.trans E3) (by omega) ?_
    have hT1 := (hO2.toB.ext E3); rintro v1 w4 hO2 E4 M1; have hB1 := hB1.moves M1 hT1 (by omega); have hs3 := E4.size; refine Wo rfl (opv_assign (v := v1) rfl) ?_; refine Wo_nil ?_; refine W_region rfl ?_
    refine Wo rfl (opv_move (v := .int _ _) rfl) ?_; refine Wo rfl (opv_add rfl rfl (by omega)) ?_; refine Wo rfl (opv_assign (v := .int _ _) rfl) ?_; refine Wo_nil ?_; refine W_region rfl ?_
    refine Wo rfl (opv_move (v := .int _ _) rfl) ?_; refine Wo rfl (opv_add rfl rfl (by omega)) ?_; refine Wo rfl (opv_assign (v := .int _ _) rfl) ?_; refine Wo_nil ?_; rotate_left; refine W_skip ?_; refine W_region rfl ?_
    refine Wo rfl (opv_move (v := .int _ _) rfl) ?_; refine Wo rfl (opv_add rfl rfl (by omega)) ?_; refine Wo rfl (opv_assign (v := .int _ _) rfl) ?_; refine Wo_nil ?_; rotate_left; refine W_exit ?_; refine exitX_same ?_
    refine W_seq ?_; refine W_region rfl ?_; refine Wo rfl (opv_move (v := u) rfl) ?_; refine Wo rfl (opv_move (v := .string _) rfl) ?_; refine Wo rfl (opv_move (v := .int _ _) rfl) ?_
    refine Wo rfl (opv_slice_str_lo Tryd.underlying9 rfl rfl (by omega)) ?_; refine Wo_buildSlice (ps := [(0, .string _)]) (cs := [_]) rfl Tryd.underlying65 Tryd.sizeOf9 Tryd.zeroValue9 rfl rfl rfl rfl ?_; rintro b2 w3 hb2 E3 hB1
    have hlb2 := hB1.lt; have hs2 := E3.size
    refine Wo_app1 rfl el65 rfl rfl hB1 (hO2.toB.ext E3) (Owned.str (by first | omega | (simp <;> omega))) (Nat.le_refl _) (by first | omega | (simp <;> omega)) (by omega) (by omega) (E2.trans E3) (by omega) ?_
    have hT1 := (hO2.toB.ext E3); rintro v1 w4 hO2 E4 M1; have hB1 := hB1.moves M1 hT1 (by omega); have hs3 := E4.size; refine Wo rfl (opv_assign (v := v1) rfl) ?_; refine Wo_nil ?_; refine W_ret ?_
    refine ⟨E4, (congrArg (Owned _ _ _ _) ?_).mp (hO2.toB.o.mono (by omega))⟩; rotate_left
  · refine ⟨((k + 1, k + 1, v1, ps ++ [(s.drop f).take (k - f)])), by repeat (first | exact trivial | refine And.intro rfl ?_), by repeat (first | with_reducible exact Same.refl | refine Same.upd rfl ?_ | refine Same.upds rfl ?_ | refine Same.mix rfl ?_), ?_, ?_⟩
    · rw [getD_lt (by omega)] at h2
      exact ⟨by assumption, by omega, by omega, by simp; omega, hO2, (hst (by omega)).1 (UInt8.toNat_inj.1 (by omega))⟩
    · simp only; omega
  · refine ⟨((k + 1, f, u, ps)), by repeat (first | exact trivial | refine And.intro rfl ?_), by repeat (first | with_reducible exact Same.refl | refine Same.upd rfl ?_ | refine Same.upds rfl ?_ | refine Same.mix rfl ?_), ?_, ?_⟩
    · rw [getD_lt (by omega)] at h2
      exact ⟨by assumption, by omega, by omega, by omega, hO2, (hst (by omega)).2 (fun e => h2 (by rw [e]))⟩
    · simp only; omega
  · obtain rfl : k = s.length := by omega
    rw [List.take_length] at hc
    rw [hc, List.take_of_length_le (by simp)]

theorem txj_len {p : List (List Int)} (hp : Pic p) (k : Nat) : (joinB 47 ((p.map txR).take k)).length ≤ 200 := by
  have h := txt_len hp.gr
  rw [txt, ← List.take_append_drop k (p.map txR)] at h
  refine Nat.le_trans ?_ h
  cases h1 : (p.map txR).take k with
  | nil => simp [joinB]
  | cons x xs => simp [joinB]
theorem tx_step {p : List (List Int)} (hp : Pic p) {k : Nat} (hk : k < p.length) : joinB 47 ((p.map txR).take (k + 1)) = (if k = 0 then [] else joinB 47 ((p.map txR).take k) ++ [47]) ++ ((List.range p.length).filter fun i => decide (p[k].getD i 0 = 1)).map dig := by
  have hr := (hp.2.2 _ (List.getElem_mem hk)).1
  have e : txR p[k] = ((List.range p.length).filter fun i => decide (p[k].getD i 0 = 1)).map dig := by rw [txR, arrR, hr]
  rw [List.take_succ_eq_append_getElem (by simpa using hk), List.getElem_map, ← e]
  by_cases h0 : k = 0
  · subst h0; rw [if_pos rfl]; simp [joinB]
  · rw [if_neg h0, joinB_snoc (by intro h; have := congrArg List.length h; rw [List.length_take, List.length_map, List.length_nil] at this; omega)]; simp
theorem PictureText_ok (w : World) (v : Value) (p : List (List Int)) (h : ESl Ints w v p) : Does Tryd.prog 71 [v] w (Ret w (str (if Pic p then txt p else []))) := by
  have hle := h.le
  refine fn_of_W1 Tryd.func71 rfl Tryd.results71 Tryd.ntmps71 rfl ?_
  by_cases hp : Pic p
  · have hpo : ∀ (w : World) (v : Value), ESl Ints w v p → Does Tryd.prog 70 [v] w (Ret w (.bool true)) := fun w v h => by
      have := PictureOk_ok w v p h
      rwa [decide_eq_true hp] at this
    rw [if_pos hp]
    have hp1 := hp.1
    have hp5 := hp.2.1
    focus
      refine W_seq ?_; refine W_region rfl ?_; refine Wo rfl (opv_assign (v := .string _) rfl) ?_; refine Wo_nil ?_; refine W_seq ?_; refine W_region rfl ?_; refine Wo rfl (opv_assign (v := .string _) rfl) ?_; refine Wo_nil ?_
      refine W_seq ?_; refine W_seq ?_; refine W_region rfl ?_; refine Wo rfl (opv_assign (v := .int _ _) rfl) ?_; refine Wo_nil ?_; refine W_block ?_
    refine W_loop [3, 4, 5, 6, 7, 8, 9, 10, 11, 12, 13, 14, 15, 16, 17, 18, 19, 20, 21, 22, 23, 24, 25, 26, 27, 28, 29, 30, 31, 32, 33, 34, 35, 36, 37] (fun (k : Nat) => [(4, .int .i64 (k : Nat)), (3, str (joinB 47 ((p.map txR).take k)))]) (fun k w' => Ext w w' ∧ k ≤ p.length) (fun k => p.length - k) 0 (by repeat (first | exact trivial | refine And.intro rfl ?_)) ?_ ?_
    · exact ⟨Ext.refl _, Nat.zero_le _⟩
    rintro k ρj w1 ⟨E1, hk⟩
    have hl1 := txj_len hp k
    by_cases hlt : k < p.length
    · have hr := hp.2.2 _ (List.getElem_mem hlt)
      have hrl : ∀ j, ((List.range j).filter fun i => decide (p[k].getD i 0 = 1)).length ≤ j := fun j => Nat.le_trans (List.length_filter_le _ _) (by simp)
      focus
        have szE1 := E1.size; refine W_seq ?_; refine W_seq ?_; refine W_region rfl ?_; refine Wo rfl (opv_move (v := .int _ _) rfl) ?_; refine Wo rfl (opv_move (v := v) rfl) ?_; refine Wo rfl (opv_len Tryd.underlying49 rfl h) ?_
        refine Wo rfl (opv_lss rfl rfl) ?_; refine Wo_split_dec rfl (opv_move (v := .bool _) rfl) (fun h1 => ?_) (fun h1 => ?_); refine Wo rfl (opv_move (v := v) rfl) ?_
        refine Wo_call rfl (opc1 (a := v) Tryd.call70 rfl) (hpo _ _ ((Mono.mono E1 h))) ?_; rintro _ w2 ⟨rfl, E2⟩; have hs1 := E2.size; refine Wo rfl (opv_pick_t (v := .bool _) rfl rfl) ?_; refine Wo_nil ?_; refine W_cond_true rfl ?_
        refine W_skip ?_; refine W_seq ?_; refine W_block ?_; refine W_seq ?_; refine W_seq ?_; refine W_region rfl ?_; refine Wo rfl (opv_move (v := .int _ _) rfl) ?_; refine Wo rfl (opv_gtr rfl rfl) ?_; refine Wo_nil ?_
        refine W_cond_dec rfl (fun h2 => ?_) (fun h2 => ?_); refine W_region rfl ?_; refine Wo rfl (opv_move (v := .string _) rfl) ?_; refine Wo rfl (opv_add_str rfl rfl (by simp <;> omega)) ?_
        refine Wo rfl (opv_assign (v := .string _) rfl) ?_; refine Wo_nil ?_; refine W_seq ?_; refine W_region rfl ?_; refine Wo rfl (opv_assign (v := .int _ _) rfl) ?_; refine Wo_nil ?_; refine W_block ?_; rotate_left; refine W_skip ?_
        refine W_seq ?_; refine W_region rfl ?_; refine Wo rfl (opv_assign (v := .int _ _) rfl) ?_; refine Wo_nil ?_; refine W_block ?_; rotate_left; (exfalso; omega)
      · have hk0 : 0 < k := by omega
        refine W_loop [3, 5, 20, 21, 22, 23, 24, 25, 26, 27, 28, 29, 30, 31, 32, 33, 34, 35, 36, 37] (fun ((j, t) : Nat × List UInt8) => [(5, .int .i64 (j : Nat)), (3, str t)]) (fun (j, t) w' => Ext w w' ∧ j ≤ p.length ∧ t = (joinB 47 ((p.map txR).take k) ++ [47]) ++ ((List.range j).filter fun i => decide (p[k].getD i 0 = 1)).map dig) (fun x => p.length - x.1) (0, (joinB 47 ((p.map txR).take k) ++ [47])) (by repeat (first | exact trivial | refine And.intro rfl ?_)) ?_ ?_
        · exact ⟨E1.trans E2, Nat.zero_le _, by simp⟩
        rintro ⟨j, t⟩ ρj w3 ⟨E3, hj, ht⟩
        have hjl := hrl j
        have htl : t.length ≤ 300 := by rw [ht]; simp only [List.length_append, List.length_map, List.length_cons, List.length_nil]; omega
        have hfs := filter_range_succ (fun j => decide (p[k].getD j 0 = 1)) j
        focus
          have szE3 := E3.size; have szE2 := E2.size; have szE1 := E1.size; refine W_seq ?_; refine W_seq ?_; refine W_region rfl ?_; refine Wo rfl (opv_move (v := .int _ _) rfl) ?_; refine Wo rfl (opv_move (v := v) rfl) ?_
          refine Wo rfl (opv_len Tryd.underlying49 rfl h) ?_; refine Wo rfl (opv_lss rfl rfl) ?_; refine Wo_nil ?_; refine W_cond_dec rfl (fun h3 => ?_) (fun h3 => ?_); refine W_skip ?_; refine W_seq ?_; refine W_block ?_; refine W_seq ?_
          refine W_region rfl ?_; refine Wo rfl (opv_move (v := v) rfl) ?_; refine Wo rfl (opv_move (v := .int _ _) rfl) ?_
          refine Wo_get Tryd.underlying49 Tryd.sizeOf80 Tryd.isAgg80 rfl (fun _ => rfl) rfl h E3 rfl (by first | omega | (simp <;> omega)) ?_; rintro _ u1 hu1; refine Wo rfl (opv_move (v := .int _ _) rfl) ?_
          refine Wo_get Tryd.underlying80 Tryd.sizeOf3 Tryd.isAgg3 rfl (fun _ => rfl) rfl hu1 E3 rfl (by first | omega | (simp <;> omega)) ?_; rintro _ _ rfl; refine Wo rfl (opv_eql rfl rfl) ?_; refine Wo_nil ?_
          refine W_cond_dec rfl (fun h4 => ?_) (fun h4 => ?_); refine W_region rfl ?_; refine Wo rfl (opv_move (v := .string _) rfl) ?_; refine Wo rfl (opv_move (v := .int _ _) rfl) ?_
          refine Wo_call rfl (opc1 (a := .int _ _) Tryd.call43 rfl) (l1Number_ok _ _ (by omega)) ?_; rintro _ w4 ⟨rfl, E4⟩; have hs2 := E4.size; refine Wo rfl (opv_add_str rfl rfl (by simp <;> omega)) ?_
          refine Wo rfl (opv_assign (v := .string _) rfl) ?_; refine Wo_nil ?_; refine W_region rfl ?_; refine Wo rfl (opv_move (v := .int _ _) rfl) ?_; refine Wo rfl (opv_add rfl rfl (by omega)) ?_
          refine Wo rfl (opv_assign (v := .int _ _) rfl) ?_; refine Wo_nil ?_; rotate_left; refine W_skip ?_; refine W_region rfl ?_; refine Wo rfl (opv_move (v := .int _ _) rfl) ?_; refine Wo rfl (opv_add rfl rfl (by omega)) ?_
          refine Wo rfl (opv_assign (v := .int _ _) rfl) ?_; refine Wo_nil ?_; rotate_left; refine W_exit ?_; refine exitX_same ?_; refine W_region rfl ?_; refine Wo rfl (opv_move (v := .int _ _) rfl) ?_
          refine Wo rfl (opv_add rfl rfl (by omega)) ?_; refine Wo rfl (opv_assign (v := .int _ _) rfl) ?_; refine Wo_nil ?_; rotate_left
        · refine ⟨((j + 1, t ++ [dig j])), by repeat (first | exact trivial | refine And.intro rfl ?_), by repeat (first | with_reducible exact Same.refl | refine Same.upd rfl ?_ | refine Same.upds rfl ?_ | refine Same.mix rfl ?_), ?_, ?_⟩
          · refine ⟨E3.trans E4, by omega, ?_⟩
            rw [hfs, if_pos (by rw [decide_eq_true_eq, getD_lt (by omega)]; assumption), ht]; simp
          · simp only; omega
        · refine ⟨((j + 1, t)), by repeat (first | exact trivial | refine And.intro rfl ?_), by repeat (first | with_reducible exact Same.refl | refine Same.upd rfl ?_ | refine Same.upds rfl ?_ | refine Same.mix rfl ?_), ?_, ?_⟩
          · refine ⟨by assumption, by omega, ?_⟩
            rw [hfs, if_neg (by rw [decide_eq_true_eq, getD_lt (by omega)]; assumption), ht]; simp
          · simp only; omega
        · obtain rfl : j = p.length := by omega
          have ht2 : t = joinB 47 ((p.map txR).take (k + 1)) := by
            rw [ht, tx_step hp hlt]; rw [if_neg (by omega)]
          subst ht2
          refine ⟨(k + 1), by repeat (first | exact trivial | refine And.intro rfl ?_), by repeat (first | with_reducible exact Same.refl | refine Same.upd rfl ?_ | refine Same.upds rfl ?_ | refine Same.mix rfl ?_), ?_, ?_⟩
          · exact ⟨by assumption, by omega⟩
          · omega
      · obtain rfl : k = 0 := by omega
        refine W_loop [3, 5, 20, 21, 22, 23, 24, 25, 26, 27, 28, 29, 30, 31, 32, 33, 34, 35, 36, 37] (fun ((j, t) : Nat × List UInt8) => [(5, .int .i64 (j : Nat)), (3, str t)]) (fun (j, t) w' => Ext w w' ∧ j ≤ p.length ∧ t = [] ++ ((List.range j).filter fun i => decide (p[0].getD i 0 = 1)).map dig) (fun x => p.length - x.1) (0, []) (by repeat (first | exact trivial | refine And.intro rfl ?_)) ?_ ?_
        · exact ⟨E1.trans E2, Nat.zero_le _, by simp⟩
        rintro ⟨j, t⟩ ρj w3 ⟨E3, hj, ht⟩
        have hjl := hrl j
        have htl : t.length ≤ 300 := by rw [ht]; simp only [List.length_append, List.length_map, List.length_cons, List.length_nil]; omega
        have hfs := filter_range_succ (fun j => decide (p[0].getD j 0 = 1)) j
        focus
          have szE3 := E3.size; have szE2 := E2.size; have szE1 := E1.size; refine W_seq ?_; refine W_seq ?_; refine W_region rfl ?_; refine Wo rfl (opv_move (v := .int _ _) rfl) ?_; refine Wo rfl (opv_move (v := v) rfl) ?_
          refine Wo rfl (opv_len Tryd.underlying49 rfl h) ?_; refine Wo rfl (opv_lss rfl rfl) ?_; refine Wo_nil ?_; refine W_cond_dec rfl (fun h3 => ?_) (fun h3 => ?_); refine W_skip ?_; refine W_seq ?_; refine W_block ?_; refine W_seq ?_
          refine W_region rfl ?_; refine Wo rfl (opv_move (v := v) rfl) ?_; refine Wo rfl (opv_move (v := .int _ _) rfl) ?_
          refine Wo_get Tryd.underlying49 Tryd.sizeOf80 Tryd.isAgg80 rfl (fun _ => rfl) rfl h E3 rfl (by first | omega | (simp <;> omega)) ?_; rintro _ u1 hu1; refine Wo rfl (opv_move (v := .int _ _) rfl) ?_
          refine Wo_get Tryd.underlying80 Tryd.sizeOf3 Tryd.isAgg3 rfl (fun _ => rfl) rfl hu1 E3 rfl (by first | omega | (simp <;> omega)) ?_; rintro _ _ rfl; refine Wo rfl (opv_eql rfl rfl) ?_; refine Wo_nil ?_
          refine W_cond_dec rfl (fun h4 => ?_) (fun h4 => ?_); refine W_region rfl ?_; refine Wo rfl (opv_move (v := .string _) rfl) ?_; refine Wo rfl (opv_move (v := .int _ _) rfl) ?_
          refine Wo_call rfl (opc1 (a := .int _ _) Tryd.call43 rfl) (l1Number_ok _ _ (by omega)) ?_; rintro _ w4 ⟨rfl, E4⟩; have hs2 := E4.size; refine Wo rfl (opv_add_str rfl rfl (by simp <;> omega)) ?_
          refine Wo rfl (opv_assign (v := .string _) rfl) ?_; refine Wo_nil ?_; refine W_region rfl ?_; refine Wo rfl (opv_move (v := .int _ _) rfl) ?_; refine Wo rfl (opv_add rfl rfl (by omega)) ?_
          refine Wo rfl (opv_assign (v := .int _ _) rfl) ?_; refine Wo_nil ?_; rotate_left; refine W_skip ?_; refine W_region rfl ?_; refine Wo rfl (opv_move (v := .int _ _) rfl) ?_; refine Wo rfl (opv_add rfl rfl (by omega)) ?_
          refine Wo rfl (opv_assign (v := .int _ _) rfl) ?_; refine Wo_nil ?_; rotate_left; refine W_exit ?_; refine exitX_same ?_; refine W_region rfl ?_; refine Wo rfl (opv_move (v := .int _ _) rfl) ?_
          refine Wo rfl (opv_add rfl rfl (by omega)) ?_; refine Wo rfl (opv_assign (v := .int _ _) rfl) ?_; refine Wo_nil ?_; rotate_left
        · refine ⟨((j + 1, t ++ [dig j])), by repeat (first | exact trivial | refine And.intro rfl ?_), by repeat (first | with_reducible exact Same.refl | refine Same.upd rfl ?_ | refine Same.upds rfl ?_ | refine Same.mix rfl ?_), ?_, ?_⟩
          · refine ⟨E3.trans E4, by omega, ?_⟩
            rw [hfs, if_pos (by rw [decide_eq_true_eq, getD_lt (by omega)]; assumption), ht]; simp
          · simp only; omega
        · refine ⟨((j + 1, t)), by repeat (first | exact trivial | refine And.intro rfl ?_), by repeat (first | with_reducible exact Same.refl | refine Same.upd rfl ?_ | refine Same.upds rfl ?_ | refine Same.mix rfl ?_), ?_, ?_⟩
          · refine ⟨by assumption, by omega, ?_⟩
            rw [hfs, if_neg (by rw [decide_eq_true_eq, getD_lt (by omega)]; assumption), ht]; simp
          · simp only; omega
        · obtain rfl : j = p.length := by omega
          have ht2 : t = joinB 47 ((p.map txR).take (0 + 1)) := by
            rw [ht, tx_step hp hlt]; simp [joinB]
          subst ht2
          refine ⟨(0 + 1), by repeat (first | exact trivial | refine And.intro rfl ?_), by repeat (first | with_reducible exact Same.refl | refine Same.upd rfl ?_ | refine Same.upds rfl ?_ | refine Same.mix rfl ?_), ?_, ?_⟩
          · exact ⟨by assumption, by omega⟩
          · omega
    · obtain rfl : k = p.length := by omega
      focus
        have szE1 := E1.size; refine W_seq ?_; refine W_seq ?_; refine W_region rfl ?_; refine Wo rfl (opv_move (v := .int _ _) rfl) ?_; refine Wo rfl (opv_move (v := v) rfl) ?_; refine Wo rfl (opv_len Tryd.underlying49 rfl h) ?_
        refine Wo rfl (opv_lss rfl rfl) ?_; refine Wo_split_dec rfl (opv_move (v := .bool _) rfl) (fun h1 => ?_) (fun h1 => ?_); (exfalso; omega); refine Wo_skip rfl ?_; refine Wo_skip rfl ?_
        refine Wo rfl (opv_pick_f (v := .bool _) rfl rfl) ?_; refine Wo_nil ?_; refine W_cond_false rfl ?_; refine W_exit ?_; refine exitX_same ?_; refine W_seq ?_; refine W_region rfl ?_; refine Wo rfl (opv_move (v := .string _) rfl) ?_
        refine Wo rfl (opv_assign (v := .string _) rfl) ?_; refine Wo_nil ?_; refine W_ret ?_; refine at_ret (v := .string _) rfl ?_; refine ⟨congrArg str ?_, E1⟩
      rw [txt, List.take_of_length_le (by simp)]
  · have hpo : ∀ (w : World) (v : Value), ESl Ints w v p → Does Tryd.prog 70 [v] w (Ret w (.bool false)) := fun w v h => by
      have := PictureOk_ok w v p h
      rwa [decide_eq_false hp] at this
    rw [if_neg hp]
    focus
      refine W_seq ?_; refine W_region rfl ?_; refine Wo rfl (opv_assign (v := .string _) rfl) ?_; refine Wo_nil ?_; refine W_seq ?_; refine W_region rfl ?_; refine Wo rfl (opv_assign (v := .string _) rfl) ?_; refine Wo_nil ?_
      refine W_seq ?_; refine W_seq ?_; refine W_region rfl ?_; refine Wo rfl (opv_assign (v := .int _ _) rfl) ?_; refine Wo_nil ?_; refine W_block ?_
    refine W_loop [3, 4, 5, 6, 7, 8, 9, 10, 11, 12, 13, 14, 15, 16, 17, 18, 19, 20, 21, 22, 23, 24, 25, 26, 27, 28, 29, 30, 31, 32, 33, 34, 35, 36, 37] (fun (_ : Unit) => [(4, .int .i64 0), (3, str [])]) (fun _ w' => Ext w w') (fun _ => 0) () (by repeat (first | exact trivial | refine And.intro rfl ?_)) ?_ ?_
    · exact Ext.refl _
    rintro ⟨⟩ ρj w1 E1
    by_cases h0 : 0 < p.length
    · focus
        have szE1 := E1.size; refine W_seq ?_; refine W_seq ?_; refine W_region rfl ?_; refine Wo rfl (opv_move (v := .int _ _) rfl) ?_; refine Wo rfl (opv_move (v := v) rfl) ?_; refine Wo rfl (opv_len Tryd.underlying49 rfl h) ?_
        refine Wo rfl (opv_lss rfl rfl) ?_; refine Wo_split_dec rfl (opv_move (v := .bool _) rfl) (fun h1 => ?_) (fun h1 => ?_); refine Wo rfl (opv_move (v := v) rfl) ?_
        refine Wo_call rfl (opc1 (a := v) Tryd.call70 rfl) (hpo _ _ ((Mono.mono E1 h))) ?_; rintro _ w2 ⟨rfl, E2⟩; have hs1 := E2.size; refine Wo rfl (opv_pick_t (v := .bool _) rfl rfl) ?_; refine Wo_nil ?_; refine W_cond_false rfl ?_
        refine W_exit ?_; refine exitX_same ?_; refine W_seq ?_; refine W_region rfl ?_; refine Wo rfl (opv_move (v := .string _) rfl) ?_; refine Wo rfl (opv_assign (v := .string _) rfl) ?_; refine Wo_nil ?_; refine W_ret ?_
        exact ⟨rfl, (E1.trans E2)⟩; (exfalso; omega)
    · focus
        have szE1 := E1.size; refine W_seq ?_; refine W_seq ?_; refine W_region rfl ?_; refine Wo rfl (opv_move (v := .int _ _) rfl) ?_; refine Wo rfl (opv_move (v := v) rfl) ?_; refine Wo rfl (opv_len Tryd.underlying49 rfl h) ?_
        refine Wo rfl (opv_lss rfl rfl) ?_; refine Wo_split_dec rfl (opv_move (v := .bool _) rfl) (fun h1 => ?_) (fun h1 => ?_); (exfalso; omega); refine Wo_skip rfl ?_; refine Wo_skip rfl ?_
        refine Wo rfl (opv_pick_f (v := .bool _) rfl rfl) ?_; refine Wo_nil ?_; refine W_cond_false rfl ?_; refine W_exit ?_; refine exitX_same ?_; refine W_seq ?_; refine W_region rfl ?_; refine Wo rfl (opv_move (v := .string _) rfl) ?_
        refine Wo rfl (opv_assign (v := .string _) rfl) ?_; refine Wo_nil ?_; refine W_ret ?_; exact ⟨rfl, E1⟩

end Go.Proofs.YtgphoihilheoeaaDoor
set_option linter.unusedVariables false
set_option linter.unusedSimpArgs false
namespace Go.Hs
/-- the orders that go on from one, by numbers below x -/
def oxt (x : Nat) (o : List Nat) : List (List Nat) := ((List.range x).filter fun y => decide (1 ≤ y) && !o.contains y).map fun y => o ++ [y]
theorem ordS_succ (n k : Nat) : ordS n (k + 1) = (ordS n k).flatMap (oxt n) := rfl
theorem oxt_one (o : List Nat) : oxt 1 o = [] := rfl
theorem oxt_yes {x : Nat} {o : List Nat} (hx : 1 ≤ x) (h : o.contains x = false) : oxt (x + 1) o = oxt x o ++ [o ++ [x]] := by
  unfold oxt
  rw [filter_range_succ, decide_eq_true hx, h]
  simp
theorem oxt_no {x : Nat} {o : List Nat} (h : o.contains x = true) : oxt (x + 1) o = oxt x o := by
  unfold oxt
  rw [filter_range_succ, h]
  simp
theorem oxt_len (x : Nat) (o : List Nat) : (oxt x o).length ≤ x := by
  unfold oxt
  rw [List.length_map]
  exact Nat.le_trans (List.length_filter_le _ _) (by simp)
theorem flatMap_len {α β : Type} (f : α → List β) (m : Nat) : ∀ (l : List α), (∀ x ∈ l, (f x).length ≤ m) → (l.flatMap f).length ≤ l.length * m
  | [], _ => by simp
  | x :: l, h => by
    rw [List.flatMap_cons, List.length_append, List.length_cons]
    have := flatMap_len f m l fun y hy => h y (by simp [hy])
    have := h x (by simp)
    rw [Nat.succ_mul]; omega
theorem ordS_len (n : Nat) : ∀ k, (ordS n k).length ≤ n ^ k
  | 0 => by simp [ordS]
  | k + 1 => by
    rw [ordS_succ]
    have h1 := flatMap_len (oxt n) n (ordS n k) fun x _ => oxt_len n x
    have h2 := Nat.mul_le_mul_right n (ordS_len n k)
    rw [Nat.pow_succ]; omega
theorem ordS_len5 {n k : Nat} (hn : n ≤ 5) (hk : k ≤ 5) : (ordS n k).length ≤ 3125 := by
  have h1 := ordS_len n k
  have h2 : n ^ k ≤ 5 ^ k := Nat.pow_le_pow_left hn k
  have h3 : 5 ^ k ≤ 5 ^ 5 := Nat.pow_le_pow_right (by omega) hk
  have : (5 : Nat) ^ 5 = 3125 := rfl
  omega
theorem iis_get {D : List (List Nat)} {i : Nat} (h : i < (D.map ints).length) : (D.map ints)[i] = ints (D[i]'(by simpa using h)) := by simp
end Go.Hs
set_option linter.unusedVariables false
set_option linter.unusedSimpArgs false
namespace Go.Hs
section
variable {α : Type} {X : World → List Nat → Value → α → Prop} {w : World} {lo hi b : Nat} {e : TypeId} {r : Value} {x : α}
theorem Owned.single [Loc X] (hr : OwnedB lo hi X w r x) (hb : w.heap[b]? = some (.cells [r].toArray e (0, 0))) (hl : lo ≤ b) (hh : hi ≤ b) : Owned lo (XSl e X) w (.slice (some ⟨b, 0, none⟩) 1 1) [x] := by
  obtain ⟨f, h1, h2, h3⟩ := hr
  have hc := Loc.cell h3
  refine ⟨b :: f, List.nodup_cons.2 ⟨fun hm => by have := h2 b hm; omega, h1⟩, fun k hk => ?_, [r], [f], ?_, by simp [Value.ownBlock], ⟨h3, trivial⟩⟩
  · rcases List.mem_cons.1 hk with rfl | hk
    · exact hl
    · exact (h2 k hk).1
  · have := ownsRow_block (e := e) (cs := [r]) hb (by unfold maxLen; simp)
    exact this
end
section
variable {P : Program} {n : Nat} {N : Env → World → Prop} {ρ : Env} {w : World} {all : Array Oper} {rest : List Oper} {d : Nat} {ty t el : TypeId} {pos : String} {after : Array Edge} {g : Option (Nat × Bool)} {x : Operand} {z v : Value}
/-- []T{v}, v any value of one cell -/
theorem Wo_buildSlice1 (hw : wantedE all ⟨some d, .buildSlice t 1 #[(0, x)], ty, pos, after, g⟩ ρ = true) (ht : P.underlying t = some (.slice el)) (hs : ∀ w, (sizeOf el).run P w = .ok 1 w)
    (hz : ∀ w, (zeroValue el).run P w = .ok z w) (h1 : isCell z = true) (hv : isCell v = true) (hx : evalE ρ x = v)
    (hk : ∀ b w1, w.heap.size ≤ b → Ext w w1 → Blk w1 b [v] → w1.heap[b]? = some (.cells [v].toArray el (0, 0)) → Wops P n all rest N (upd ρ d (.slice (some ⟨b, 0, none⟩) 1 1)) w1) :
    Wops P n all (⟨some d, .buildSlice t 1 #[(0, x)], ty, pos, after, g⟩ :: rest) N ρ w := by
  refine Wo_buildSliceH (ps := [(0, v)]) (cs := [v]) hw ht hs hz h1 rfl (by simp [hx]) ?_ hk
  simp [fillF, hv, show Nat.blt 0 1 = true from rfl]
end
end Go.Hs
set_option linter.unusedVariables false
set_option linter.unusedSimpArgs false
namespace Go.Hs
section
variable {P : Program} {n : Nat} {N : Env → World → Prop} {ρ : Env} {w w0 : World} {all : Array Oper} {rest : List Oper} {d : Nat} {ty t tl : TypeId} {pos : String} {after : Array Edge} {g : Option (Nat × Bool)} {x y : Operand} {u1 u2 z1 z2 v1 v2 : Value} {b : Nat}
theorem opv_load2 (ht : ∀ w, (isAgg tl).run P w = .ok true w) (hs : ∀ w, (sizeOf tl).run P w = .ok 2 w) (hx : evalE ρ x = .pointer (some ⟨b, 0, none⟩)) (hB : Blk w b [u1, u2]) : OpV P (.load tl x) ty ρ w (.agg #[u1, u2]) := by
  have h0 : w.cell? ⟨b, 0, none⟩ = some u1 := hB.cell rfl
  have h1 : w.cell? ⟨b, 1, none⟩ = some u2 := hB.cell rfl
  simp [OpV, execOp, hx, Instr.loadAt, Instr.sureAddr, loadVar, ht, hs, loadCells, loadCellsFrom, Addr.add, h0, h1]
theorem Wo_alloc2 (hw : wantedE all ⟨some d, .alloc t, ty, pos, after, g⟩ ρ = true) (hF : Flat P t [z1, z2])
    (hk : ∀ b w1, w.heap.size ≤ b → Ext w w1 → Blk w1 b [z1, z2] → Wops P n all rest N (upd ρ d (.pointer (some ⟨b, 0, none⟩))) w1) :
    Wops P n all (⟨some d, .alloc t, ty, pos, after, g⟩ :: rest) N ρ w := by
  obtain ⟨fs, hund, hzero, hplaces⟩ := hF
  refine Wo_run (v := .pointer (some ⟨w.heap.size, 0, none⟩)) (w' := w.alloc (.cells [z1, z2].toArray t)) hw ?_ (hk _ _ (Nat.le_refl _) ((Ext.refl w).alloc _) (Blk.new w [z1, z2] t))
  simp [execOp, Instr.alloc, newVar, newRow, hzero, Value.cells]
theorem ops_store2 {c1 c2 : Value} (hs : ∀ w, (sizeOf tl).run P w = .ok 2 w) (hx : evalE ρ x = .pointer (some ⟨b, 0, none⟩)) (hy : evalE ρ y = .agg #[v1, v2]) (h1 : isCell v1 = true) (h2 : isCell v2 = true) (hB : Blk w b [c1, c2]) :
    OpS P (.store tl x y) ty ρ w ((w.setCell ⟨b, 0, none⟩ v1).setCell ⟨b, 1, none⟩ v2) := by
  have hB' : Blk (w.setCell ⟨b, 0, none⟩ v1) b [v1, c2] := hB.set v1
  have k1 := run_store_cell (P := P) (w := w) (ad := ⟨b, 0, none⟩) h1 (hB.cell (i := 0) rfl) hB.frozen
  have k2 := run_store_cell (P := P) (w := w.setCell ⟨b, 0, none⟩ v1) (ad := ⟨b, 1, none⟩) h2 (hB'.cell (i := 1) rfl) hB'.frozen
  simp [OpS, execOp, hx, hy, Instr.storeAt, Instr.sureAddr, storeVar, hs, Value.cells, storeCells, Addr.add, k1, k2]
theorem Wo_st2 {c1 c2 : Value} (hw : wantedE all ⟨none, .store t x y, ty, pos, after, g⟩ ρ = true) (hs : ∀ w, (sizeOf t).run P w = .ok 2 w) (hx : evalE ρ x = .pointer (some ⟨b, 0, none⟩)) (hy : evalE ρ y = .agg #[v1, v2]) (h1 : isCell v1 = true) (h2 : isCell v2 = true)
    (hb : Blk w b [c1, c2]) (h0 : w0.heap.size ≤ b) (hE : Ext w0 w)
    (hk : ∀ w1, Ext w0 w1 → Blk w1 b [v1, v2] → (∀ k, k ≠ b → w1.heap[k]? = w.heap[k]?) → w1.heap.size = w.heap.size → Wops P n all rest N ρ w1) :
    Wops P n all (⟨none, .store t x y, ty, pos, after, g⟩ :: rest) N ρ w := by
  have hb' : Blk (w.setCell ⟨b, 0, none⟩ v1) b [v1, c2] := hb.set v1
  refine Wo_store hw (ops_store2 hs hx hy h1 h2 hb) (hk _ ((hE.setCell h0 v1).setCell h0 v2) (hb'.set v2) (fun k h => ?_) ?_)
  · rw [heap_setCell_other _ h, heap_setCell_other _ h]
  · rw [size_setCell, size_setCell]
end
/-- A pointer to a struct of two cells, and what is said of the struct. -/
def CellS (w : World) (p : Value) (K : Value → Prop) : Prop := ∃ b u1 u2, p = .pointer (some ⟨b, 0, none⟩) ∧ Blk w b [u1, u2] ∧ K (.agg #[u1, u2])
section
variable {P : Program} {t a a' : Tmp} {ta ta' : TypeId} {w : World} {v : Value}
theorem run_loadVar2 {b : Nat} {u1 u2 : Value} (ht : ∀ w, (isAgg ta).run P w = .ok true w) (hs : ∀ w, (sizeOf ta).run P w = .ok 2 w) (hB : Blk w b [u1, u2]) : (loadVar ta ⟨b, 0, none⟩).run P w = .ok (.agg #[u1, u2]) w := by
  have h0 : w.cell? ⟨b, 0, none⟩ = some u1 := hB.cell rfl
  have h1 : w.cell? ⟨b, 1, none⟩ = some u2 := hB.cell rfl
  simp [loadVar, ht, hs, loadCells, loadCellsFrom, Addr.add, h0, h1]
theorem results_c {fn : Func} {b : Nat} {u1 u2 : Value} (h : fn.results = #[.cell a ta]) (tmps : Array Value) (ht : ∀ w, (isAgg ta).run P w = .ok true w) (hs : ∀ w, (sizeOf ta).run P w = .ok 2 w)
    (hp : tmps.getD a undef = .pointer (some ⟨b, 0, none⟩)) (hB : Blk w b [u1, u2]) : (results fn tmps).run P w = .ok (.agg #[u1, u2]) w := by
  rw [Array.getD_eq_getD_getElem?] at hp
  simp [results, h, hp, asAddr, run_loadVar2 ht hs hB]
theorem results_ct {fn : Func} {b : Nat} {u1 u2 : Value} (h : fn.results = #[.cell a ta, .tmp t]) (tmps : Array Value) (ht : ∀ w, (isAgg ta).run P w = .ok true w) (hs : ∀ w, (sizeOf ta).run P w = .ok 2 w)
    (hp : tmps.getD a undef = .pointer (some ⟨b, 0, none⟩)) (hB : Blk w b [u1, u2]) : (results fn tmps).run P w = .ok (.tuple #[.agg #[u1, u2], tmps.getD t undef]) w := by
  rw [Array.getD_eq_getD_getElem?] at hp
  simp [results, h, hp, asAddr, run_loadVar2 ht hs hB]
/-- A function whose result lies in a variable. -/
theorem fn_of_Wc {f : FuncId} {fn : Func} {c : Code} {args : List Value} {S : Value → World → Prop} (hf : P.funcs[f]? = some fn) (hb : fn.body = some c)
    (hr : fn.results = #[.cell a ta]) {n : Nat} (hn : fn.ntmps = n) (hl : Nat.ble args.length n = true) (ht : ∀ w, (isAgg ta).run P w = .ok true w) (hs : ∀ w, (sizeOf ta).run P w = .ok 2 w)
    (h : W P n c (fun ρ w' => CellS w' (ρ a) fun v => S v w') (fun _ _ _ => False) (fun ρ w' => CellS w' (ρ a) fun v => S v w') (envOf args) w) : Does P f args w S := by
  subst hn
  unfold W at h
  unfold Does
  refine calls_of_wp hf hb (Go.wp_mono (h _ (Rep.start args _ hl)) fun e a w q => ?_)
  cases e with
  | normal =>
    obtain ⟨ρ, h1, b, u1, u2, h2, h3, h4⟩ := q
    exact ⟨h1.defers, _, results_c hr _ ht hs ((h1.get _).trans h2) h3, _, rfl, h4⟩
  | ret =>
    obtain ⟨ρ, h1, b, u1, u2, h2, h3, h4⟩ := q
    exact ⟨h1.defers, _, results_c hr _ ht hs ((h1.get _).trans h2) h3, _, rfl, h4⟩
  | exit i => obtain ⟨ρ, h1, h2⟩ := q; exact h2.elim
  | goto l => exact q.elim
  | panic ch => exact q.elim
  | outgrown => exact q.elim
theorem fn_of_Wct {f : FuncId} {fn : Func} {c : Code} {args : List Value} {S : Value → World → Prop} (hf : P.funcs[f]? = some fn) (hb : fn.body = some c)
    (hr : fn.results = #[.cell a ta, .tmp t]) {n : Nat} (hn : fn.ntmps = n) (hl : Nat.ble args.length n = true) (ht : ∀ w, (isAgg ta).run P w = .ok true w) (hs : ∀ w, (sizeOf ta).run P w = .ok 2 w)
    (h : W P n c (fun ρ w' => CellS w' (ρ a) fun v => S (.tuple #[v, ρ t]) w') (fun _ _ _ => False) (fun ρ w' => CellS w' (ρ a) fun v => S (.tuple #[v, ρ t]) w') (envOf args) w) : Does P f args w S := by
  subst hn
  unfold W at h
  unfold Does
  refine calls_of_wp hf hb (Go.wp_mono (h _ (Rep.start args _ hl)) fun e a w q => ?_)
  cases e with
  | normal =>
    obtain ⟨ρ, h1, b, u1, u2, h2, h3, h4⟩ := q
    exact ⟨h1.defers, _, by rw [results_ct hr _ ht hs ((h1.get _).trans h2) h3, h1.get], _, rfl, h4⟩
  | ret =>
    obtain ⟨ρ, h1, b, u1, u2, h2, h3, h4⟩ := q
    exact ⟨h1.defers, _, by rw [results_ct hr _ ht hs ((h1.get _).trans h2) h3, h1.get], _, rfl, h4⟩
  | exit i => obtain ⟨ρ, h1, h2⟩ := q; exact h2.elim
  | goto l => exact q.elim
  | panic ch => exact q.elim
  | outgrown => exact q.elim
end
theorem OwnedB.isC {α : Type} {X : World → List Nat → Value → α → Prop} {w : World} {v : Value} {e : TypeId} {xs : List α} {lo hi : Nat} (h : OwnedB lo hi (XSl e X) w v xs) : isCell v = true := by
  obtain ⟨fp, h1, h2, cs, fps, h3, rfl, h5⟩ := h
  rcases h3.2 with ⟨rfl, _⟩ | ⟨g, cap, cur, rfl, _⟩ <;> rfl
theorem OwnedB.capOk {α : Type} {X : World → List Nat → Value → α → Prop} {w : World} {v : Value} {e : TypeId} {xs : List α} {lo hi : Nat} (h : OwnedB lo hi (XSl e X) w v xs) : CapOk v := by
  obtain ⟨fp, h1, h2, cs, fps, h3, rfl, h5⟩ := h
  rcases h3.2 with ⟨rfl, h0⟩ | ⟨g, cap, cur, rfl, _, _, hc, _⟩
  · exact ⟨none, 0, 0, rfl, Nat.le_refl _⟩
  · exact ⟨_, _, _, rfl, hc⟩
end Go.Hs
set_option linter.unusedVariables false
namespace Go.Hs
section
variable {P : Program} {n fuel : Nat} {N : Env → World → Prop} {ρ : Env} {w w0 : World} {all : Array Oper} {S : World → Prop} {listed : Array Bool} {d d2 : Nat} {ty t el tl ty2 : TypeId} {pos pos2 : String} {after after2 : Array Edge} {g g2 : Option (Nat × Bool)} {x y : Operand} {v : Value}
theorem Wh_get {α : Type} {E : World → Value → α → Prop} {xs : List α} {k : Nat} (i j : Nat) (hi : all[i]? = some ⟨some d, .indexAddr t x y, ty, pos, after, g⟩) (hf : Region.free .any all listed i = true) (hr : (Region.ready .any all listed).contains i = true)
    (hw : wantedE all ⟨some d, .indexAddr t x y, ty, pos, after, g⟩ ρ = true)
    (hi2 : all[j]? = some ⟨some d2, .load tl (.tmp d), ty2, pos2, after2, g2⟩) (hf2 : Region.free .any all (listed.setIfInBounds i true) j = true) (hr2 : (Region.ready .any all (listed.setIfInBounds i true)).contains j = true)
    (hw2 : ∀ v, wantedE all ⟨some d2, .load tl (.tmp d), ty2, pos2, after2, g2⟩ (upd ρ d v) = true)
    (ht : P.underlying t = some (.slice el)) (hs : ∀ w, (sizeOf el).run P w = .ok 1 w) (hta : ∀ w, (isAgg tl).run P w = .ok false w)
    (hx : evalE ρ x = v) (hR : ESl E w0 v xs) (hE : ∀ w', S w' → Ext w0 w') (hy : evalE ρ y = .int .i64 (k : Int)) (hk : k < xs.length) (hS : S w)
    (hk' : ∀ ad u, E w0 u xs[k] → Wh P n all S fuel ((listed.setIfInBounds i true).setIfInBounds j true) N (upd (upd ρ d (.pointer (some ad))) d2 u) w) :
    Wh P n all S (fuel + 2) listed N ρ w := by
  obtain ⟨a, c, rfl, hR⟩ := hR
  obtain ⟨b, o, u, rfl, hc, hu⟩ := hR.at hk
  refine Wh_take i hi hf hr hw (fun _ _ => opv_indexAddr ht hs hx hy hk) hS ?_
  refine Wh_take j hi2 hf2 hr2 (hw2 _) (fun w' hw' => opv_load hta ?_ ((hE w' hw').cell hc)) hS (hk' _ u hu)
  show upd ρ d _ d = _
  unfold upd; rw [Nat.beq_refl]; rfl
theorem Wh_get_z {α : Type} {E : World → Value → α → Prop} {xs : List α} {z : Int} (i j : Nat) (hi : all[i]? = some ⟨some d, .indexAddr t x y, ty, pos, after, g⟩) (hf : Region.free .any all listed i = true) (hr : (Region.ready .any all listed).contains i = true)
    (hw : wantedE all ⟨some d, .indexAddr t x y, ty, pos, after, g⟩ ρ = true)
    (hi2 : all[j]? = some ⟨some d2, .load tl (.tmp d), ty2, pos2, after2, g2⟩) (hf2 : Region.free .any all (listed.setIfInBounds i true) j = true) (hr2 : (Region.ready .any all (listed.setIfInBounds i true)).contains j = true)
    (hw2 : ∀ v, wantedE all ⟨some d2, .load tl (.tmp d), ty2, pos2, after2, g2⟩ (upd ρ d v) = true)
    (ht : P.underlying t = some (.slice el)) (hs : ∀ w, (sizeOf el).run P w = .ok 1 w) (hta : ∀ w, (isAgg tl).run P w = .ok false w)
    (hx : evalE ρ x = v) (hR : ESl E w0 v xs) (hE : ∀ w', S w' → Ext w0 w') (hy : evalE ρ y = .int .i64 z) (hk : 0 ≤ z ∧ z.toNat < xs.length) (hS : S w)
    (hk' : ∀ ad u, E w0 u xs[z.toNat] → Wh P n all S fuel ((listed.setIfInBounds i true).setIfInBounds j true) N (upd (upd ρ d (.pointer (some ad))) d2 u) w) :
    Wh P n all S (fuel + 2) listed N ρ w :=
  Wh_get i j hi hf hr hw hi2 hf2 hr2 hw2 ht hs hta hx hR hE (by rw [hy, toNat_cast hk.1]) hk.2 hS hk'
end
end Go.Hs
