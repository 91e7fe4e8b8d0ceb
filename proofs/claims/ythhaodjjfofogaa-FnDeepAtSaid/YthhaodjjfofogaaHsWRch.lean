/- Walks: what a node reaches, on both sides. -/
import Derived.Test.YthhaodjjfofogaaHsWFun
import Derived.Test.YthhaodjjfofogaaHsWSort
import Derived.Test.YthhaodjjfofogaaHsAny
import Derived.Test.YthhaodjjfofogaaHsFnd
import Derived.Test.YthhaodjjfofogaaHsRch
import Derived.Test.YthhaodjjfofogaaHsBits
namespace Go.Proofs.Ythhaodjjfofogaa
open Go.Hs
set_option maxRecDepth 10000
set_option maxHeartbeats 4000000
set_option linter.unusedVariables false
set_option linter.unusedSimpArgs false
noncomputable def rfV (p : List (List Int)) (z : Int) : List Nat := if Nod p z then rf p z.toNat else []

theorem spec_ReachedFrom_ok (w : World) (v : Value) (p : List (List Int)) (z : Int) (h : ESl Ints w v p) : Does Try.prog 72 [v, .int .i64 z] w (RetO w XI (ints (rfV p z))) := by
  have hle := h.le
  by_cases hp : Pic p
  · have hpic : ∀ (w : World) (pv : Value), ESl Ints w pv p → Does Try.prog 28 [pv] w (Ret w (.bool true)) := fun w pv h => by
      have := PictureOk_ok w pv p h
      rw [decide_eq_true hp] at this; exact this
    by_cases hz : 0 ≤ z ∧ z < p.length
    · have hV : rfV p z = rf p z.toNat := if_pos ⟨hp, hz⟩
      rw [hV]
      obtain ⟨i, rfl⟩ := Int.eq_ofNat_of_zero_le hz.1
      have hi : i < p.length := by omega
      have hp5 := hp.2.1
      have h2 := pow_le5 (k := p.length) (by omega)
      have hsli := shl_le (g := 1) (k := i) (by omega) (by omega)
      have e0 : ((i : Int)).toNat = i := rfl
      rw [e0]
      have h1p : ∀ j, j < p.length → 1 <<< j < 2 ^ p.length := fun j hj => by rw [Nat.one_shiftLeft]; exact Nat.pow_lt_pow_right (by omega) hj
      have h1b : ∀ j k, (1 <<< j).testBit k = decide (j = k) := fun j k => by rw [Nat.one_shiftLeft, Nat.testBit_two_pow]
      refine fn_of_W1 Try.func72 rfl Try.results72 Try.ntmps72 rfl ?_
      focus
        refine W_seq ?_; refine W_region rfl ?_; refine Wo rfl (opv_assign (v := .slice _ _ _) rfl) ?_; refine Wo_nil ?_; refine W_seq ?_; refine W_region rfl ?_; refine Wo_lit0 XInt rfl el24 Try.sizeOf3 ?_; rintro b1 w1 hb1 b1lt E1 hO1
        have hs1 := E1.size; refine Wo rfl (opv_assign (v := .slice _ _ _) rfl) ?_; refine Wo_nil ?_; refine W_seq ?_; refine W_seq ?_; refine W_region rfl ?_; refine Wo rfl (opv_move (v := v) rfl) ?_
        refine Wo_call rfl (opc1 (a := v) Try.call28 rfl) (hpic _ _ ((Mono.mono E1 h))) ?_; rintro _ w2 ⟨rfl, E2⟩; have hs2 := E2.size; refine Wo rfl (opv_not rfl) ?_
        refine Wo_split rfl (opv_move (v := .bool _) rfl) (fun h1 => ?_) (fun h1 => ?_); contradiction; refine Wo rfl (opv_move (v := .int _ _) rfl) ?_; refine Wo rfl (opv_move (v := v) rfl) ?_
        refine Wo rfl (opv_len Try.underlying22 rfl h) ?_; refine Wo rfl (opv_sub rfl rfl (by omega)) ?_; refine Wo_call rfl (opc3 (a := .int _ _) (b := .int _ _) (c := .int _ _) Try.call46 rfl rfl rfl) (l1In_ok _ _ _ _) ?_
        rintro _ w3 ⟨rfl, E3⟩; have hs3 := E3.size; refine Wo rfl (opv_not rfl) ?_; refine Wo rfl (opv_pick_f (v := .bool _) rfl rfl) ?_; refine Wo_nil ?_; refine W_cond_ndec rfl (fun h3 => ?_) (fun h3 => ?_); (exfalso; omega)
        refine W_skip ?_; refine W_seq ?_; refine W_region rfl ?_; refine Wo rfl (opv_move (v := .int _ _) rfl) ?_; refine Wo rfl (opv_shl rfl rfl (by omega)) ?_; refine Wo rfl (opv_assign (v := .int _ _) rfl) ?_; refine Wo_nil ?_
        refine W_seq ?_; refine W_seq ?_; refine W_region rfl ?_; refine Wo rfl (opv_assign (v := .int _ _) rfl) ?_; refine Wo_nil ?_; refine W_block ?_
      refine W_loop [6, 7, 8, 9, 26, 27, 28, 29, 30, 31, 32, 33, 34, 35, 36, 37, 38, 39, 40, 41, 42, 43, 44, 45, 46, 47, 48, 49, 50, 51, 52, 53, 54, 55, 56, 57, 58, 59, 60, 61, 62] (fun (n, M) => [(7, .int .i64 (n : Nat)), (6, .int .i64 (M : Nat))]) (fun (n, M) w' => w' = w3 ∧ n ≤ p.length ∧ M < 2 ^ p.length ∧ (∀ j, st p i n j → M.testBit j = true) ∧ (∀ j, M.testBit j = true → Rch p i j)) (fun x => p.length - x.1) (0, 1 <<< i) (by repeat (first | exact trivial | refine And.intro rfl ?_)) ?_ ?_
      · refine ⟨rfl, Nat.zero_le _, h1p i hi, fun j hj => ?_, fun j hj => ?_⟩
        · rw [show j = i from hj, h1b]; simp
        · rw [h1b] at hj; rw [← of_decide_eq_true hj]; exact .refl _
      rintro ⟨n, M⟩ ρj w4 ⟨rfl, hn, hM, hC, hS⟩
      by_cases hnl : n < p.length
      · focus
          have szE3 := E3.size; have szE2 := E2.size; have szE1 := E1.size; refine W_seq ?_; refine W_seq ?_; refine W_region rfl ?_; refine Wo rfl (opv_move (v := .int _ _) rfl) ?_; refine Wo rfl (opv_move (v := v) rfl) ?_
          refine Wo rfl (opv_len Try.underlying22 rfl h) ?_; refine Wo rfl (opv_lss rfl rfl) ?_; refine Wo_nil ?_; refine W_cond_dec rfl (fun h4 => ?_) (fun h4 => ?_); refine W_skip ?_; refine W_seq ?_; refine W_block ?_; refine W_seq ?_
          refine W_region rfl ?_; refine Wo rfl (opv_assign (v := .int _ _) rfl) ?_; refine Wo_nil ?_; refine W_block ?_; rotate_left; (exfalso; omega)
        refine W_loop [6, 8, 9, 32, 33, 34, 35, 36, 37, 38, 39, 40, 41, 42, 43, 44, 45, 46, 47, 48, 49, 50, 51, 52, 53, 54, 55, 56, 57, 58, 59, 60, 61, 62] (fun (k, M) => [(8, .int .i64 (k : Nat)), (6, .int .i64 (M : Nat))]) (fun (k, M) w' => w' = w4 ∧ k ≤ p.length ∧ M < 2 ^ p.length ∧ (∀ j, st p i n j → M.testBit j = true) ∧ (∀ j, M.testBit j = true → Rch p i j) ∧ ∀ k', k' < k → st p i n k' → ∀ j ∈ arr p k', M.testBit j = true) (fun x => p.length - x.1) (0, M) (by repeat (first | exact trivial | refine And.intro rfl ?_)) ?_ ?_
        · exact ⟨rfl, Nat.zero_le _, hM, hC, hS, fun k' hk' => by omega⟩
        clear hM hC hS
        rintro ⟨k, M⟩ ρk w5 ⟨rfl, hk, hM, hC, hS, hK⟩
        by_cases hkl : k < p.length
        · have hrow := hp.row hkl
          focus
            have szE3 := E3.size; have szE2 := E2.size; have szE1 := E1.size; refine W_seq ?_; refine W_seq ?_; refine W_region rfl ?_; refine Wo rfl (opv_move (v := .int _ _) rfl) ?_; refine Wo rfl (opv_move (v := v) rfl) ?_
            refine Wo rfl (opv_len Try.underlying22 rfl h) ?_; refine Wo rfl (opv_lss rfl rfl) ?_; refine Wo_nil ?_; refine W_cond_dec rfl (fun h5 => ?_) (fun h5 => ?_); refine W_skip ?_; refine W_seq ?_; refine W_block ?_; refine W_seq ?_
            refine W_region rfl ?_; refine Wo rfl (opv_assign (v := .int _ _) rfl) ?_; refine Wo_nil ?_; refine W_block ?_; rotate_left; (exfalso; omega)
          refine W_loop [6, 9, 38, 39, 40, 41, 42, 43, 44, 45, 46, 47, 48, 49, 50, 51, 52, 53, 54, 55, 56, 57, 58, 59, 60, 61, 62] (fun (j, M) => [(9, .int .i64 (j : Nat)), (6, .int .i64 (M : Nat))]) (fun (j, M) w' => w' = w5 ∧ j ≤ p.length ∧ M < 2 ^ p.length ∧ (∀ j, st p i n j → M.testBit j = true) ∧ (∀ j, M.testBit j = true → Rch p i j) ∧ (∀ k', k' < k → st p i n k' → ∀ j ∈ arr p k', M.testBit j = true) ∧ ∀ j', j' < j → st p i n k → j' ∈ arr p k → M.testBit j' = true) (fun x => p.length - x.1) (0, M) (by repeat (first | exact trivial | refine And.intro rfl ?_)) ?_ ?_
          · exact ⟨rfl, Nat.zero_le _, hM, hC, hS, hK, fun j' hj' => by omega⟩
          clear hM hC hS hK
          rintro ⟨j, M⟩ ρl w6 ⟨rfl, hj, hM, hC, hS, hK, hJ⟩
          by_cases hjl : j < p.length
          · have hgd := getD_lt (l := p[k]) (i := j) (d := 0) (by omega)
            have hsm := shr_mod M k
            have hsl := shl_le (g := 1) (k := j) (by omega) (by omega)
            have hsl0 : (0 : Int) ≤ ((1 <<< j : Nat) : Int) := Int.natCast_nonneg _
            have hma := mem_arr (j := j) hp hkl
            have hbit : bit p k j = p[k][j] := by unfold bit; rw [getD_lt hkl, hgd]
            rw [hbit] at hma
            focus
              have szE3 := E3.size; have szE2 := E2.size; have szE1 := E1.size; refine W_seq ?_; refine W_seq ?_; refine W_region rfl ?_; refine Wo rfl (opv_move (v := .int _ _) rfl) ?_; refine Wo rfl (opv_move (v := v) rfl) ?_
              refine Wo rfl (opv_len Try.underlying22 rfl h) ?_; refine Wo rfl (opv_lss rfl rfl) ?_; refine Wo_nil ?_; refine W_cond_dec rfl (fun h6 => ?_) (fun h6 => ?_); refine W_skip ?_; refine W_seq ?_; refine W_block ?_; refine W_seq ?_
              refine W_region rfl ?_; refine Wo rfl (opv_move (v := .int _ _) rfl) ?_; refine Wo rfl (opv_move (v := .int _ _) rfl) ?_; refine Wo rfl (opv_shr rfl rfl (by omega)) ?_
              refine Wo rfl (opv_rem rfl rfl ⟨Int.natCast_nonneg _, by omega⟩) ?_; refine Wo rfl (opv_eql rfl rfl) ?_; refine Wo_split_dec rfl (opv_move (v := .bool _) rfl) (fun h7 => ?_) (fun h7 => ?_); refine Wo rfl (opv_move (v := v) rfl) ?_
              refine Wo rfl (opv_move (v := .int _ _) rfl) ?_; refine Wo_get Try.underlying22 Try.sizeOf24 Try.isAgg24 rfl (fun _ => rfl) rfl h ((E1.trans E2).trans E3) rfl (by first | omega | (simp <;> omega)) ?_; rintro _ u1 hu1
              refine Wo rfl (opv_move (v := .int _ _) rfl) ?_; refine Wo_get Try.underlying24 Try.sizeOf3 Try.isAgg3 rfl (fun _ => rfl) rfl hu1 ((E1.trans E2).trans E3) rfl (by first | omega | (simp <;> omega)) ?_; rintro _ _ rfl
              refine Wo rfl (opv_eql rfl rfl) ?_; refine Wo rfl (opv_pick_t (v := .bool _) rfl rfl) ?_; refine Wo_nil ?_; refine W_cond_dec rfl (fun h8 => ?_) (fun h8 => ?_); refine W_region rfl ?_; refine Wo rfl (opv_move (v := .int _ _) rfl) ?_
              refine Wo rfl (opv_move (v := .int _ _) rfl) ?_; refine Wo rfl (opv_shl rfl rfl (by omega)) ?_
              refine Wo rfl (opv_or rfl rfl ⟨Int.natCast_nonneg _, by omega, Int.natCast_nonneg _, Int.le_trans (Int.ofNat_le.2 (show _ ≤ 4096 by assumption)) (by decide)⟩) ?_; refine Wo rfl (opv_assign (v := .int _ _) rfl) ?_; refine Wo_nil ?_
              refine W_region rfl ?_; refine Wo rfl (opv_move (v := .int _ _) rfl) ?_; refine Wo rfl (opv_add rfl rfl (by omega)) ?_; refine Wo rfl (opv_assign (v := .int _ _) rfl) ?_; refine Wo_nil ?_; rotate_left; refine W_skip ?_
              refine W_region rfl ?_; refine Wo rfl (opv_move (v := .int _ _) rfl) ?_; refine Wo rfl (opv_add rfl rfl (by omega)) ?_; refine Wo rfl (opv_assign (v := .int _ _) rfl) ?_; refine Wo_nil ?_; rotate_left; refine Wo_skip rfl ?_
              refine Wo_skip rfl ?_; refine Wo_skip rfl ?_; refine Wo_skip rfl ?_; refine Wo_skip rfl ?_; refine Wo_skip rfl ?_; refine Wo_skip rfl ?_; refine Wo_skip rfl ?_; refine Wo rfl (opv_pick_f (v := .bool _) rfl rfl) ?_; refine Wo_nil ?_
              refine W_cond_false rfl ?_; refine W_skip ?_; refine W_region rfl ?_; refine Wo rfl (opv_move (v := .int _ _) rfl) ?_; refine Wo rfl (opv_add rfl rfl (by omega)) ?_; refine Wo rfl (opv_assign (v := .int _ _) rfl) ?_
              refine Wo_nil ?_; rotate_left; (exfalso; omega)
            · have h9 : ((M >>> k : Nat) : Int) % 2 = 1 := by assumption
              have hb : p[k][j] = 1 := by assumption
              have hMk : M.testBit k = true := by
                cases hc : M.testBit k with
                | true => rfl
                | false => rw [hc, if_neg Bool.false_ne_true] at hsm; omega
              have hor : ∀ x, (M ||| 1 <<< j).testBit x = (M.testBit x || decide (j = x)) := fun x => by rw [Nat.testBit_or, h1b]
              refine ⟨((j + 1, M ||| 1 <<< j)), by repeat (first | exact trivial | refine And.intro rfl ?_), by repeat (first | with_reducible exact Same.refl | refine Same.upd rfl ?_ | refine Same.upds rfl ?_ | refine Same.mix rfl ?_), ?_, ?_⟩
              · refine ⟨rfl, by omega, Nat.or_lt_two_pow hM (h1p j hjl), fun x hx => by rw [hor, hC x hx]; rfl, fun x hx => ?_, fun k' hk' hs x hx => by rw [hor, hK k' hk' hs x hx]; rfl, fun x hx hs hm => ?_⟩
                · rw [hor] at hx
                  by_cases e : j = x
                  · subst e; exact (hS k hMk).step (hma.2 ⟨hjl, hb⟩)
                  · rw [decide_eq_false e, Bool.or_false] at hx; exact hS x hx
                · rw [hor]
                  by_cases e : j = x
                  · rw [decide_eq_true e]; simp
                  · rw [hJ x (by omega) hs hm]; rfl
              · simp only; omega
            · have hb : ¬ p[k][j] = 1 := by assumption
              refine ⟨((j + 1, M)), by repeat (first | exact trivial | refine And.intro rfl ?_), by repeat (first | with_reducible exact Same.refl | refine Same.upd rfl ?_ | refine Same.upds rfl ?_ | refine Same.mix rfl ?_), ?_, ?_⟩
              · refine ⟨rfl, by omega, hM, hC, hS, hK, fun x hx hs hm => ?_⟩
                by_cases e : j = x
                · subst e; exact absurd (hma.1 hm).2 hb
                · exact hJ x (by omega) hs hm
              · simp only; omega
            · have h9 : ¬ ((M >>> k : Nat) : Int) % 2 = 1 := by assumption
              have hMk : ¬ M.testBit k = true := fun hc => by
                rw [hc, if_pos rfl] at hsm; omega
              refine ⟨((j + 1, M)), by repeat (first | exact trivial | refine And.intro rfl ?_), by repeat (first | with_reducible exact Same.refl | refine Same.upd rfl ?_ | refine Same.upds rfl ?_ | refine Same.mix rfl ?_), ?_, ?_⟩
              · refine ⟨rfl, by omega, hM, hC, hS, hK, fun x hx hs hm => absurd (hC k hs) hMk⟩
              · simp only; omega
          · obtain rfl : j = p.length := by omega
            focus
              have szE3 := E3.size; have szE2 := E2.size; have szE1 := E1.size; refine W_seq ?_; refine W_seq ?_; refine W_region rfl ?_; refine Wo rfl (opv_move (v := .int _ _) rfl) ?_; refine Wo rfl (opv_move (v := v) rfl) ?_
              refine Wo rfl (opv_len Try.underlying22 rfl h) ?_; refine Wo rfl (opv_lss rfl rfl) ?_; refine Wo_nil ?_; refine W_cond_dec rfl (fun h6 => ?_) (fun h6 => ?_); (exfalso; omega); refine W_exit ?_; refine exitX_same ?_
              refine W_region rfl ?_; refine Wo rfl (opv_move (v := .int _ _) rfl) ?_; refine Wo rfl (opv_add rfl rfl (by omega)) ?_; refine Wo rfl (opv_assign (v := .int _ _) rfl) ?_; refine Wo_nil ?_
            refine ⟨((k + 1, M)), by repeat (first | exact trivial | refine And.intro rfl ?_), by repeat (first | with_reducible exact Same.refl | refine Same.upd rfl ?_ | refine Same.upds rfl ?_ | refine Same.mix rfl ?_), ?_, ?_⟩
            · refine ⟨rfl, by omega, hM, hC, hS, fun k' hk' hs x hx => ?_⟩
              by_cases e : k' = k
              · subst e; exact hJ x ((mem_arr hp hkl).1 hx).1 hs hx
              · exact hK k' (by omega) hs x hx
            · simp only; omega
        · obtain rfl : k = p.length := by omega
          focus
            have szE3 := E3.size; have szE2 := E2.size; have szE1 := E1.size; refine W_seq ?_; refine W_seq ?_; refine W_region rfl ?_; refine Wo rfl (opv_move (v := .int _ _) rfl) ?_; refine Wo rfl (opv_move (v := v) rfl) ?_
            refine Wo rfl (opv_len Try.underlying22 rfl h) ?_; refine Wo rfl (opv_lss rfl rfl) ?_; refine Wo_nil ?_; refine W_cond_dec rfl (fun h5 => ?_) (fun h5 => ?_); (exfalso; omega); refine W_exit ?_; refine exitX_same ?_
            refine W_region rfl ?_; refine Wo rfl (opv_move (v := .int _ _) rfl) ?_; refine Wo rfl (opv_add rfl rfl (by omega)) ?_; refine Wo rfl (opv_assign (v := .int _ _) rfl) ?_; refine Wo_nil ?_
          refine ⟨((n + 1, M)), by repeat (first | exact trivial | refine And.intro rfl ?_), by repeat (first | with_reducible exact Same.refl | refine Same.upd rfl ?_ | refine Same.upds rfl ?_ | refine Same.mix rfl ?_), ?_, ?_⟩
          · refine ⟨rfl, by omega, hM, fun x hx => ?_, hS⟩
            rcases hx with hx | ⟨k', h9, h10⟩
            · exact hC x hx
            · exact hK k' ((st_rch h9).lt hp hi) h9 x h10
          · simp only; omega
      · obtain rfl : n = p.length := by omega
        have hb : ∀ k, M.testBit k = rch p i k := fun k => by
          cases hc : rch p i k with
          | true => exact hC k (rch_st hp hi (rch_iff.1 hc))
          | false => cases hd : M.testBit k with
            | true => rw [rch_iff.2 (hS k hd)] at hc; cases hc
            | false => rfl
        clear hC hS
        focus
          have szE3 := E3.size; have szE2 := E2.size; have szE1 := E1.size; refine W_seq ?_; refine W_seq ?_; refine W_region rfl ?_; refine Wo rfl (opv_move (v := .int _ _) rfl) ?_; refine Wo rfl (opv_move (v := v) rfl) ?_
          refine Wo rfl (opv_len Try.underlying22 rfl h) ?_; refine Wo rfl (opv_lss rfl rfl) ?_; refine Wo_nil ?_; refine W_cond_dec rfl (fun h4 => ?_) (fun h4 => ?_); (exfalso; omega); refine W_exit ?_; refine exitX_same ?_; refine W_seq ?_
          refine W_seq ?_; refine W_region rfl ?_; refine Wo rfl (opv_assign (v := .int _ _) rfl) ?_; refine Wo_nil ?_; refine W_block ?_
        refine W_loop [5, 10, 63, 64, 65, 66, 67, 68, 69, 70, 71, 72, 73, 74, 75, 76, 77] (fun (k, u) => [(10, .int .i64 (k : Nat)), (5, u)]) (fun (k, u) w' => Ext w w' ∧ k ≤ p.length ∧ Owned w.heap.size XI w' u (ints ((List.range k).filter (rch p i)))) (fun x => p.length - x.1) (0, .slice (some ⟨b1, 0, none⟩) 0 0) (by repeat (first | exact trivial | refine And.intro rfl ?_)) ?_ ?_
        · exact ⟨(E1.trans E2).trans E3, Nat.zero_le _, by simpa [ints] using hO1.ext (E2.trans E3)⟩
        rintro ⟨k, u⟩ ρk w5 ⟨E5, hk, hO5⟩
        have hll : (ints ((List.range k).filter (rch p i))).length ≤ k := by
          rw [ints_len]; exact Nat.le_trans (List.length_filter_le _ _) (by simp)
        have hfs := filter_range_succ (rch p i) k
        have hsm := shr_mod M k
        by_cases hlt : k < p.length
        · rw [hb k] at hsm
          focus
            have szE5 := E5.size; have szE3 := E3.size; have szE2 := E2.size; have szE1 := E1.size; refine W_seq ?_; refine W_seq ?_; refine W_region rfl ?_; refine Wo rfl (opv_move (v := .int _ _) rfl) ?_
            refine Wo rfl (opv_move (v := v) rfl) ?_; refine Wo rfl (opv_len Try.underlying22 rfl h) ?_; refine Wo rfl (opv_lss rfl rfl) ?_; refine Wo_nil ?_; refine W_cond_dec rfl (fun h5 => ?_) (fun h5 => ?_); refine W_skip ?_
            refine W_seq ?_; refine W_block ?_; refine W_seq ?_; refine W_region rfl ?_; refine Wo rfl (opv_move (v := .int _ _) rfl) ?_; refine Wo rfl (opv_move (v := .int _ _) rfl) ?_; refine Wo rfl (opv_shr rfl rfl (by omega)) ?_
            refine Wo rfl (opv_rem rfl rfl ⟨Int.natCast_nonneg _, by omega⟩) ?_; refine Wo rfl (opv_eql rfl rfl) ?_; refine Wo_nil ?_; refine W_cond_dec rfl (fun h6 => ?_) (fun h6 => ?_); refine W_region rfl ?_
            refine Wo rfl (opv_move (v := u) rfl) ?_; refine Wo rfl (opv_move (v := .int _ _) rfl) ?_; refine Wo_buildSlice (ps := [(0, .int _ _)]) (cs := [_]) rfl Try.underlying24 Try.sizeOf3 Try.zeroValue3 rfl rfl rfl rfl ?_
            rintro b2 w3 hb2 E4 hB1; have hlb2 := hB1.lt; have hs4 := E4.size
            refine Wo_app1 rfl el24 rfl rfl hB1 (hO5.toB.ext E4) Owned.int (Nat.le_refl _) (by first | omega | (simp <;> omega)) (by omega) (by omega) (E5.trans E4) (by omega) ?_; have hT1 := (hO5.toB.ext E4); rintro v1 w6 hO5 E6 M1
            have hB1 := hB1.moves M1 hT1 (by omega); have hs5 := E6.size; refine Wo rfl (opv_assign (v := v1) rfl) ?_; refine Wo_nil ?_; refine W_region rfl ?_; refine Wo rfl (opv_move (v := .int _ _) rfl) ?_
            refine Wo rfl (opv_add rfl rfl (by omega)) ?_; refine Wo rfl (opv_assign (v := .int _ _) rfl) ?_; refine Wo_nil ?_; rotate_left; refine W_skip ?_; refine W_region rfl ?_; refine Wo rfl (opv_move (v := .int _ _) rfl) ?_
            refine Wo rfl (opv_add rfl rfl (by omega)) ?_; refine Wo rfl (opv_assign (v := .int _ _) rfl) ?_; refine Wo_nil ?_; rotate_left; (exfalso; omega)
          · have h1 : ((M >>> k : Nat) : Int) % 2 = 1 := by assumption
            have hf : rch p i k = true := by
              cases hc : rch p i k with
              | true => rfl
              | false => rw [hc, if_neg Bool.false_ne_true] at hsm; omega
            refine ⟨((k + 1, v1)), by repeat (first | exact trivial | refine And.intro rfl ?_), by repeat (first | with_reducible exact Same.refl | refine Same.upd rfl ?_ | refine Same.upds rfl ?_ | refine Same.mix rfl ?_), ?_, ?_⟩
            · refine ⟨by assumption, by omega, ?_⟩
              rw [hfs, if_pos hf, ints_append]
              assumption
            · simp only; omega
          · have h1 : ¬ ((M >>> k : Nat) : Int) % 2 = 1 := by assumption
            have hf : rch p i k = false := by
              cases hc : rch p i k with
              | false => rfl
              | true => rw [hc, if_pos rfl] at hsm; omega
            refine ⟨((k + 1, u)), by repeat (first | exact trivial | refine And.intro rfl ?_), by repeat (first | with_reducible exact Same.refl | refine Same.upd rfl ?_ | refine Same.upds rfl ?_ | refine Same.mix rfl ?_), ?_, ?_⟩
            · refine ⟨by assumption, by omega, ?_⟩
              rw [hfs, if_neg (by rw [hf]; exact Bool.false_ne_true), List.append_nil]
              assumption
            · simp only; omega
        · obtain rfl : k = p.length := by omega
          focus
            have szE5 := E5.size; have szE3 := E3.size; have szE2 := E2.size; have szE1 := E1.size; refine W_seq ?_; refine W_seq ?_; refine W_region rfl ?_; refine Wo rfl (opv_move (v := .int _ _) rfl) ?_
            refine Wo rfl (opv_move (v := v) rfl) ?_; refine Wo rfl (opv_len Try.underlying22 rfl h) ?_; refine Wo rfl (opv_lss rfl rfl) ?_; refine Wo_nil ?_; refine W_cond_dec rfl (fun h5 => ?_) (fun h5 => ?_); contradiction; refine W_exit ?_
            refine exitX_same ?_; refine W_seq ?_; refine W_region rfl ?_; refine Wo rfl (opv_move (v := u) rfl) ?_; refine Wo rfl (opv_assign (v := u) rfl) ?_; refine Wo_nil ?_; refine W_ret ?_; exact ⟨E5, hO5.toB.o.mono (by omega)⟩
    · have hV : rfV p z = [] := if_neg (fun h => hz h.2)
      rw [hV]
      refine fn_of_W1 Try.func72 rfl Try.results72 Try.ntmps72 rfl ?_
      focus
        refine W_seq ?_; refine W_region rfl ?_; refine Wo rfl (opv_assign (v := .slice _ _ _) rfl) ?_; refine Wo_nil ?_; refine W_seq ?_; refine W_region rfl ?_; refine Wo_lit0 XInt rfl el24 Try.sizeOf3 ?_; rintro b1 w1 hb1 b1lt E1 hO1
        have hs1 := E1.size; refine Wo rfl (opv_assign (v := .slice _ _ _) rfl) ?_; refine Wo_nil ?_; refine W_seq ?_; refine W_seq ?_; refine W_region rfl ?_; refine Wo rfl (opv_move (v := v) rfl) ?_
        refine Wo_call rfl (opc1 (a := v) Try.call28 rfl) (hpic _ _ ((Mono.mono E1 h))) ?_; rintro _ w2 ⟨rfl, E2⟩; have hs2 := E2.size; refine Wo rfl (opv_not rfl) ?_
        refine Wo_split rfl (opv_move (v := .bool _) rfl) (fun h1 => ?_) (fun h1 => ?_); contradiction; refine Wo rfl (opv_move (v := .int _ _) rfl) ?_; refine Wo rfl (opv_move (v := v) rfl) ?_
        refine Wo rfl (opv_len Try.underlying22 rfl h) ?_; refine Wo rfl (opv_sub rfl rfl (by omega)) ?_; refine Wo_call rfl (opc3 (a := .int _ _) (b := .int _ _) (c := .int _ _) Try.call46 rfl rfl rfl) (l1In_ok _ _ _ _) ?_
        rintro _ w3 ⟨rfl, E3⟩; have hs3 := E3.size; refine Wo rfl (opv_not rfl) ?_; refine Wo rfl (opv_pick_f (v := .bool _) rfl rfl) ?_; refine Wo_nil ?_; refine W_cond_ndec rfl (fun h2 => ?_) (fun h2 => ?_); refine W_seq ?_
        refine W_region rfl ?_; refine Wo rfl (opv_move (v := .slice _ _ _) rfl) ?_; refine Wo rfl (opv_assign (v := .slice _ _ _) rfl) ?_; refine Wo_nil ?_; refine W_ret ?_
        exact ⟨((E1.trans E2).trans E3), (hO1.toB.ext (E2.trans E3)).o.mono (by omega)⟩; (exfalso; omega)
  · have hpic : ∀ (w : World) (pv : Value), ESl Ints w pv p → Does Try.prog 28 [pv] w (Ret w (.bool false)) := fun w pv h => by
      have := PictureOk_ok w pv p h
      rw [decide_eq_false hp] at this; exact this
    have hV : rfV p z = [] := if_neg (fun h => hp h.1)
    rw [hV]
    refine fn_of_W1 Try.func72 rfl Try.results72 Try.ntmps72 rfl ?_
    focus
      refine W_seq ?_; refine W_region rfl ?_; refine Wo rfl (opv_assign (v := .slice _ _ _) rfl) ?_; refine Wo_nil ?_; refine W_seq ?_; refine W_region rfl ?_; refine Wo_lit0 XInt rfl el24 Try.sizeOf3 ?_; rintro b1 w1 hb1 b1lt E1 hO1
      have hs1 := E1.size; refine Wo rfl (opv_assign (v := .slice _ _ _) rfl) ?_; refine Wo_nil ?_; refine W_seq ?_; refine W_seq ?_; refine W_region rfl ?_; refine Wo rfl (opv_move (v := v) rfl) ?_
      refine Wo_call rfl (opc1 (a := v) Try.call28 rfl) (hpic _ _ ((Mono.mono E1 h))) ?_; rintro _ w2 ⟨rfl, E2⟩; have hs2 := E2.size; refine Wo rfl (opv_not rfl) ?_
      refine Wo_split rfl (opv_move (v := .bool _) rfl) (fun h1 => ?_) (fun h1 => ?_); refine Wo_skip rfl ?_; refine Wo_skip rfl ?_; refine Wo_skip rfl ?_; refine Wo_skip rfl ?_; refine Wo_skip rfl ?_; refine Wo_skip rfl ?_
      refine Wo rfl (opv_pick_t (v := .bool _) rfl rfl) ?_; refine Wo_nil ?_; refine W_cond_true rfl ?_; refine W_seq ?_; refine W_region rfl ?_; refine Wo rfl (opv_move (v := .slice _ _ _) rfl) ?_
      refine Wo rfl (opv_assign (v := .slice _ _ _) rfl) ?_; refine Wo_nil ?_; refine W_ret ?_; exact ⟨(E1.trans E2), (hO1.toB.ext E2).o.mono (by omega)⟩; contradiction

end Go.Proofs.Ythhaodjjfofogaa
