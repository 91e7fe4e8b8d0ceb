/- Walks: FoundedIn on both sides. -/
import Derived.Test.YthhaodjjfofogaaHsWFun
import Derived.Test.YthhaodjjfofogaaHsAny
import Derived.Test.YthhaodjjfofogaaHsWMark
import Derived.Test.YthhaodjjfofogaaHsFnd
import Derived.Test.YthhaodjjfofogaaHsBits
namespace Go.Proofs.Ythhaodjjfofogaa
open Go.Hs
set_option maxRecDepth 10000
set_option maxHeartbeats 4000000
set_option linter.unusedVariables false
set_option linter.unusedSimpArgs false

theorem foundedV_no {p : List (List Int)} {z : Int} (h : ¬ (Pic p ∧ 0 ≤ z ∧ z ≤ 5)) : foundedV p z = [] := if_neg h
theorem spec_FoundedIn_ok (w : World) (v : Value) (p : List (List Int)) (z : Int) (h : ESl Ints w v p) : Does Try.prog 14 [v, .int .i64 z] w (RetO w XI (ints (foundedV p z))) := by
  have hle := h.le
  by_cases hp : Pic p
  · have hpic : ∀ (w : World) (pv : Value), ESl Ints w pv p → Does Try.prog 28 [pv] w (Ret w (.bool true)) := fun w pv h => by
      have := PictureOk_ok w pv p h
      rw [decide_eq_true hp] at this; exact this
    by_cases hz : 0 ≤ z ∧ z ≤ 5
    · have hV : foundedV p z = (List.range p.length).filter (fnd p z.toNat) := if_pos ⟨hp, hz⟩
      have hp5 := hp.2.1
      have h2 := pow_le5 (k := p.length) (by omega)
      refine fn_of_W1 Try.func14 rfl Try.results14 Try.ntmps14 rfl ?_
      focus
        refine W_seq ?_; refine W_region rfl ?_; refine Wo rfl (opv_assign (v := .slice _ _ _) rfl) ?_; refine Wo_nil ?_; refine W_seq ?_; refine W_region rfl ?_; refine Wo_lit0 XInt rfl el24 Try.sizeOf3 ?_; rintro b1 w1 hb1 b1lt E1 hO1
        have hs1 := E1.size; refine Wo rfl (opv_assign (v := .slice _ _ _) rfl) ?_; refine Wo_nil ?_; refine W_seq ?_; refine W_seq ?_; refine W_region rfl ?_; refine Wo rfl (opv_move (v := v) rfl) ?_
        refine Wo_call rfl (opc1 (a := v) Try.call28 rfl) (hpic _ _ ((Mono.mono E1 h))) ?_; rintro _ w2 ⟨rfl, E2⟩; have hs2 := E2.size; refine Wo rfl (opv_not rfl) ?_
        refine Wo_split rfl (opv_move (v := .bool _) rfl) (fun h1 => ?_) (fun h1 => ?_); contradiction; refine Wo rfl (opv_move (v := .int _ _) rfl) ?_
        refine Wo_call rfl (opc3 (a := .int _ _) (b := .int _ _) (c := .int _ _) Try.call46 rfl rfl rfl) (l1In_ok _ _ _ _) ?_; rintro _ w3 ⟨rfl, E3⟩; have hs3 := E3.size; refine Wo rfl (opv_not rfl) ?_
        refine Wo rfl (opv_pick_f (v := .bool _) rfl rfl) ?_; refine Wo_nil ?_; refine W_cond_ndec rfl (fun h3 => ?_) (fun h3 => ?_); contradiction; refine W_skip ?_; refine W_seq ?_; refine W_region rfl ?_
        refine Wo rfl (opv_assign (v := .int _ _) rfl) ?_; refine Wo_nil ?_; refine W_seq ?_; refine W_seq ?_; refine W_region rfl ?_; refine Wo rfl (opv_assign (v := .int _ _) rfl) ?_; refine Wo_nil ?_; refine W_block ?_
      refine W_loop [6, 7, 8, 9, 10, 11, 23, 24, 25, 26, 27, 28, 29, 30, 31, 32, 33, 34, 35, 36, 37, 38, 39, 40, 41, 42, 43, 44, 45, 46, 47, 48, 49, 50, 51, 52, 53, 54, 55, 56, 57, 58, 59, 60] (fun (n, N) => [(7, .int .i64 (n : Nat)), (6, .int .i64 (N : Nat))]) (fun (n, N) w' => w' = w3 ∧ n ≤ z.toNat ∧ N < 2 ^ p.length ∧ ∀ j, j < p.length → N.testBit j = fnd p n j) (fun x => z.toNat - x.1) (0, 0) (by repeat (first | exact trivial | refine And.intro rfl ?_)) ?_ ?_
      · exact ⟨rfl, Nat.zero_le _, Nat.two_pow_pos _, fun j _ => by simp [fnd]⟩
      rintro ⟨n, N⟩ ρj w4 ⟨rfl, hn, hN, hNb⟩
      focus
        have szE3 := E3.size; have szE2 := E2.size; have szE1 := E1.size; refine W_seq ?_; refine W_seq ?_; refine W_region rfl ?_; refine Wo rfl (opv_move (v := .int _ _) rfl) ?_; refine Wo rfl (opv_move (v := .int _ _) rfl) ?_
        refine Wo rfl (opv_lss rfl rfl) ?_; refine Wo_nil ?_; refine W_cond_dec rfl (fun h4 => ?_) (fun h4 => ?_); refine W_skip ?_; refine W_seq ?_; refine W_block ?_; refine W_seq ?_; refine W_region rfl ?_
        refine Wo rfl (opv_assign (v := .int _ _) rfl) ?_; refine Wo_nil ?_; refine W_seq ?_; refine W_seq ?_; refine W_region rfl ?_; refine Wo rfl (opv_assign (v := .int _ _) rfl) ?_; refine Wo_nil ?_; refine W_block ?_; rotate_left
        refine W_exit ?_; refine exitX_same ?_; refine W_seq ?_; refine W_seq ?_; refine W_region rfl ?_; refine Wo rfl (opv_assign (v := .int _ _) rfl) ?_; refine Wo_nil ?_; refine W_block ?_; rotate_left
      · refine W_loop [8, 9, 10, 11, 28, 29, 30, 31, 32, 33, 34, 35, 36, 37, 38, 39, 40, 41, 42, 43, 44, 45, 46, 47, 48, 49, 50, 51, 52, 53, 54, 55, 56, 57, 58, 59] (fun (k, M) => [(9, .int .i64 (k : Nat)), (8, .int .i64 (M : Nat))]) (fun (k, M) w' => w' = w4 ∧ k ≤ p.length ∧ M < 2 ^ k ∧ ∀ j, j < k → M.testBit j = fnd p (n + 1) j) (fun x => p.length - x.1) (0, 0) (by repeat (first | exact trivial | refine And.intro rfl ?_)) ?_ ?_
        · exact ⟨rfl, Nat.zero_le _, by simp, fun j hj => by omega⟩
        rintro ⟨k, M⟩ ρk w5 ⟨rfl, hk, hM, hMb⟩
        have hMp := pow_le5 (k := k) (by omega)
        by_cases hlt : k < p.length
        · have hrow := hp.row hlt
          focus
            have szE3 := E3.size; have szE2 := E2.size; have szE1 := E1.size; refine W_seq ?_; refine W_seq ?_; refine W_region rfl ?_; refine Wo rfl (opv_move (v := .int _ _) rfl) ?_; refine Wo rfl (opv_move (v := v) rfl) ?_
            refine Wo rfl (opv_len Try.underlying22 rfl h) ?_; refine Wo rfl (opv_lss rfl rfl) ?_; refine Wo_nil ?_; refine W_cond_dec rfl (fun h5 => ?_) (fun h5 => ?_); refine W_skip ?_; refine W_seq ?_; refine W_block ?_; refine W_seq ?_
            refine W_region rfl ?_; refine Wo rfl (opv_assign (v := .int _ _) rfl) ?_; refine Wo_nil ?_; refine W_seq ?_; refine W_seq ?_; refine W_region rfl ?_; refine Wo rfl (opv_assign (v := .int _ _) rfl) ?_; refine Wo_nil ?_
            refine W_block ?_; rotate_left; (exfalso; omega)
          refine W_loop [10, 11, 34, 35, 36, 37, 38, 39, 40, 41, 42, 43, 44, 45, 46, 47, 48, 49, 50, 51, 52, 53, 54] (fun (j, g) => [(11, .int .i64 (j : Nat)), (10, .int .i64 (g : Nat))]) (fun (j, g) w' => w' = w5 ∧ j ≤ p.length ∧ g = (if (List.range j).any (fun j => decide (p[k].getD j 0 = 1) && !(fnd p n j)) then 0 else 1)) (fun x => p.length - x.1) (0, 1) (by repeat (first | exact trivial | refine And.intro rfl ?_)) ?_ ?_
          · exact ⟨rfl, Nat.zero_le _, by simp⟩
          rintro ⟨j, g⟩ ρl w6 ⟨rfl, hj, hg⟩
          have hg1 : g ≤ 1 := by rw [hg]; split <;> omega
          by_cases hjl : j < p.length
          · have hgd := getD_lt (l := p[k]) (i := j) (d := 0) (by omega)
            have hsu := any_range_succ (fun j => decide (p[k].getD j 0 = 1) && !(fnd p n j)) j
            have hsm := shr_mod N j
            rw [hNb j hjl] at hsm
            focus
              have szE3 := E3.size; have szE2 := E2.size; have szE1 := E1.size; refine W_seq ?_; refine W_seq ?_; refine W_region rfl ?_; refine Wo rfl (opv_move (v := .int _ _) rfl) ?_; refine Wo rfl (opv_move (v := v) rfl) ?_
              refine Wo rfl (opv_len Try.underlying22 rfl h) ?_; refine Wo rfl (opv_lss rfl rfl) ?_; refine Wo_nil ?_; refine W_cond_dec rfl (fun h6 => ?_) (fun h6 => ?_); refine W_skip ?_; refine W_seq ?_; refine W_block ?_; refine W_seq ?_
              refine W_region rfl ?_; refine Wo rfl (opv_move (v := v) rfl) ?_; refine Wo rfl (opv_move (v := .int _ _) rfl) ?_
              refine Wo_get Try.underlying22 Try.sizeOf24 Try.isAgg24 rfl (fun _ => rfl) rfl h ((E1.trans E2).trans E3) rfl (by first | omega | (simp <;> omega)) ?_; rintro _ u1 hu1; refine Wo rfl (opv_move (v := .int _ _) rfl) ?_
              refine Wo_get Try.underlying24 Try.sizeOf3 Try.isAgg3 rfl (fun _ => rfl) rfl hu1 ((E1.trans E2).trans E3) rfl (by first | omega | (simp <;> omega)) ?_; rintro _ _ rfl; refine Wo rfl (opv_eql rfl rfl) ?_
              refine Wo_split_dec rfl (opv_move (v := .bool _) rfl) (fun h7 => ?_) (fun h7 => ?_); refine Wo rfl (opv_move (v := .int _ _) rfl) ?_; refine Wo rfl (opv_move (v := .int _ _) rfl) ?_; refine Wo rfl (opv_shr rfl rfl (by omega)) ?_
              refine Wo rfl (opv_rem rfl rfl ⟨Int.natCast_nonneg _, by omega⟩) ?_; refine Wo rfl (opv_eql rfl rfl) ?_; refine Wo rfl (opv_pick_t (v := .bool _) rfl rfl) ?_; refine Wo_nil ?_; refine W_cond_dec rfl (fun h8 => ?_) (fun h8 => ?_)
              refine W_region rfl ?_; refine Wo rfl (opv_assign (v := .int _ _) rfl) ?_; refine Wo_nil ?_; refine W_region rfl ?_; refine Wo rfl (opv_move (v := .int _ _) rfl) ?_; refine Wo rfl (opv_add rfl rfl (by omega)) ?_
              refine Wo rfl (opv_assign (v := .int _ _) rfl) ?_; refine Wo_nil ?_; rotate_left; refine W_skip ?_; refine W_region rfl ?_; refine Wo rfl (opv_move (v := .int _ _) rfl) ?_; refine Wo rfl (opv_add rfl rfl (by omega)) ?_
              refine Wo rfl (opv_assign (v := .int _ _) rfl) ?_; refine Wo_nil ?_; rotate_left; refine Wo_skip rfl ?_; refine Wo_skip rfl ?_; refine Wo_skip rfl ?_; refine Wo_skip rfl ?_; refine Wo_skip rfl ?_
              refine Wo rfl (opv_pick_f (v := .bool _) rfl rfl) ?_; refine Wo_nil ?_; refine W_cond_false rfl ?_; refine W_skip ?_; refine W_region rfl ?_; refine Wo rfl (opv_move (v := .int _ _) rfl) ?_
              refine Wo rfl (opv_add rfl rfl (by omega)) ?_; refine Wo rfl (opv_assign (v := .int _ _) rfl) ?_; refine Wo_nil ?_; rotate_left; (exfalso; omega)
            · have hb : p[k][j] = 1 := by assumption
              have h0 : ((N >>> j : Nat) : Int) % 2 = 0 := by assumption
              have hf : fnd p n j = false := by
                cases hc : fnd p n j with
                | false => rfl
                | true => rw [hc, if_pos rfl] at hsm; omega
              refine ⟨((j + 1, 0)), by repeat (first | exact trivial | refine And.intro rfl ?_), by repeat (first | with_reducible exact Same.refl | refine Same.upd rfl ?_ | refine Same.upds rfl ?_ | refine Same.mix rfl ?_), ?_, ?_⟩
              · refine ⟨rfl, by omega, ?_⟩
                rw [hsu, hgd, decide_eq_true hb, hf]; simp
              · simp only; omega
            · have hb : p[k][j] = 1 := by assumption
              have h0 : ¬ ((N >>> j : Nat) : Int) % 2 = 0 := by assumption
              have hf : fnd p n j = true := by
                cases hc : fnd p n j with
                | true => rfl
                | false => rw [hc, if_neg Bool.false_ne_true] at hsm; omega
              refine ⟨((j + 1, g)), by repeat (first | exact trivial | refine And.intro rfl ?_), by repeat (first | with_reducible exact Same.refl | refine Same.upd rfl ?_ | refine Same.upds rfl ?_ | refine Same.mix rfl ?_), ?_, ?_⟩
              · refine ⟨rfl, by omega, ?_⟩
                rw [hsu, hf, hg]; simp
              · simp only; omega
            · have hb : ¬ p[k][j] = 1 := by assumption
              refine ⟨((j + 1, g)), by repeat (first | exact trivial | refine And.intro rfl ?_), by repeat (first | with_reducible exact Same.refl | refine Same.upd rfl ?_ | refine Same.upds rfl ?_ | refine Same.mix rfl ?_), ?_, ?_⟩
              · refine ⟨rfl, by omega, ?_⟩
                rw [hsu, hgd, decide_eq_false hb, hg]; simp
              · simp only; omega
          · obtain rfl : j = p.length := by omega
            have hsl := shl_le (g := g) (k := k) hg1 (by omega)
            have hsl0 : (0 : Int) ≤ ((g <<< k : Nat) : Int) := Int.natCast_nonneg _
            focus
              have szE3 := E3.size; have szE2 := E2.size; have szE1 := E1.size; refine W_seq ?_; refine W_seq ?_; refine W_region rfl ?_; refine Wo rfl (opv_move (v := .int _ _) rfl) ?_; refine Wo rfl (opv_move (v := v) rfl) ?_
              refine Wo rfl (opv_len Try.underlying22 rfl h) ?_; refine Wo rfl (opv_lss rfl rfl) ?_; refine Wo_nil ?_; refine W_cond_dec rfl (fun h6 => ?_) (fun h6 => ?_); (exfalso; omega); refine W_exit ?_; refine exitX_same ?_
              refine W_region rfl ?_; refine Wo rfl (opv_move (v := .int _ _) rfl) ?_; refine Wo rfl (opv_move (v := .int _ _) rfl) ?_; refine Wo rfl (opv_move (v := .int _ _) rfl) ?_; refine Wo rfl (opv_shl rfl rfl (by omega)) ?_
              refine Wo rfl (opv_add rfl rfl (by simp only [Int.toNat_natCast]; omega)) ?_; refine Wo rfl (opv_assign (v := .int _ _) rfl) ?_; refine Wo_nil ?_; refine W_region rfl ?_; refine Wo rfl (opv_move (v := .int _ _) rfl) ?_
              refine Wo rfl (opv_add rfl rfl (by omega)) ?_; refine Wo rfl (opv_assign (v := .int _ _) rfl) ?_; refine Wo_nil ?_
            obtain ⟨hb1, hb2⟩ := bit_add hM g hg1
            refine ⟨((k + 1, M + g <<< k)), by repeat (first | exact trivial | refine And.intro rfl ?_), by repeat (first | with_reducible exact Same.refl | refine Same.upd rfl ?_ | refine Same.upds rfl ?_ | refine Same.mix rfl ?_), ?_, ?_⟩
            · refine ⟨rfl, by omega, hb1, fun j hj => ?_⟩
              rw [hb2 j hj]
              split
              · rename_i e
                subst e
                show _ = fstep p (fnd p n) j
                unfold fstep
                rw [arr_any hp hlt, hg]
                split <;> simp_all
              · exact hMb j (by omega)
            · simp only; omega
        · obtain rfl : k = p.length := by omega
          focus
            have szE3 := E3.size; have szE2 := E2.size; have szE1 := E1.size; refine W_seq ?_; refine W_seq ?_; refine W_region rfl ?_; refine Wo rfl (opv_move (v := .int _ _) rfl) ?_; refine Wo rfl (opv_move (v := v) rfl) ?_
            refine Wo rfl (opv_len Try.underlying22 rfl h) ?_; refine Wo rfl (opv_lss rfl rfl) ?_; refine Wo_nil ?_; refine W_cond_dec rfl (fun h5 => ?_) (fun h5 => ?_); (exfalso; omega); refine W_exit ?_; refine exitX_same ?_
            refine W_region rfl ?_; refine Wo rfl (opv_move (v := .int _ _) rfl) ?_; refine Wo rfl (opv_assign (v := .int _ _) rfl) ?_; refine Wo_nil ?_; refine W_region rfl ?_; refine Wo rfl (opv_move (v := .int _ _) rfl) ?_
            refine Wo rfl (opv_add rfl rfl (by omega)) ?_; refine Wo rfl (opv_assign (v := .int _ _) rfl) ?_; refine Wo_nil ?_
          refine ⟨((n + 1, M)), by repeat (first | exact trivial | refine And.intro rfl ?_), by repeat (first | with_reducible exact Same.refl | refine Same.upd rfl ?_ | refine Same.upds rfl ?_ | refine Same.mix rfl ?_), ?_, ?_⟩
          · exact ⟨rfl, by omega, hM, hMb⟩
          · simp only; omega
      · obtain rfl : n = z.toNat := by omega
        refine W_loop [5, 12, 61, 62, 63, 64, 65, 66, 67, 68, 69, 70, 71, 72, 73, 74, 75] (fun (k, u) => [(12, .int .i64 (k : Nat)), (5, u)]) (fun (k, u) w' => Ext w w' ∧ k ≤ p.length ∧ Owned w.heap.size XI w' u (ints ((List.range k).filter (fnd p z.toNat)))) (fun x => p.length - x.1) (0, .slice (some ⟨b1, 0, none⟩) 0 0) (by repeat (first | exact trivial | refine And.intro rfl ?_)) ?_ ?_
        · exact ⟨(E1.trans E2).trans E3, Nat.zero_le _, by simpa [ints] using hO1.ext (E2.trans E3)⟩
        rintro ⟨k, u⟩ ρk w5 ⟨E5, hk, hO5⟩
        have hll : (ints ((List.range k).filter (fnd p z.toNat))).length ≤ k := by
          rw [ints_len]; exact Nat.le_trans (List.length_filter_le _ _) (by simp)
        have hfs := filter_range_succ (fnd p z.toNat) k
        have hsm := shr_mod N k
        by_cases hlt : k < p.length
        · rw [hNb k hlt] at hsm
          focus
            have szE5 := E5.size; have szE3 := E3.size; have szE2 := E2.size; have szE1 := E1.size; refine W_seq ?_; refine W_seq ?_; refine W_region rfl ?_; refine Wo rfl (opv_move (v := .int _ _) rfl) ?_
            refine Wo rfl (opv_move (v := v) rfl) ?_; refine Wo rfl (opv_len Try.underlying22 rfl h) ?_; refine Wo rfl (opv_lss rfl rfl) ?_; refine Wo_nil ?_; refine W_cond_dec rfl (fun h5 => ?_) (fun h5 => ?_); refine W_skip ?_
            refine W_seq ?_; refine W_block ?_; refine W_seq ?_; refine W_region rfl ?_; refine Wo rfl (opv_move (v := .int _ _) rfl) ?_; refine Wo rfl (opv_move (v := .int _ _) rfl) ?_; refine Wo rfl (opv_shr rfl rfl (by omega)) ?_
            refine Wo rfl (opv_rem rfl rfl ⟨Int.natCast_nonneg _, by omega⟩) ?_; refine Wo rfl (opv_eql rfl rfl) ?_; refine Wo_nil ?_; refine W_cond_dec rfl (fun h6 => ?_) (fun h6 => ?_); refine W_region rfl ?_
            refine Wo rfl (opv_move (v := u) rfl) ?_; refine Wo rfl (opv_move (v := .int _ _) rfl) ?_; refine Wo_buildSlice (ps := [(0, .int _ _)]) (cs := [_]) rfl Try.underlying24 Try.sizeOf3 Try.zeroValue3 rfl rfl rfl rfl ?_
            rintro b2 w3 hb2 E4 hB1; have hlb2 := hB1.lt; have hs4 := E4.size
            refine Wo_app1 rfl el24 rfl rfl hB1 (hO5.toB.ext E4) Owned.int (Nat.le_refl _) (by first | omega | (simp <;> omega)) (by omega) (by omega) (E5.trans E4) (by omega) ?_; have hT1 := (hO5.toB.ext E4); rintro v1 w6 hO5 E6 M1
            have hB1 := hB1.moves M1 hT1 (by omega); have hs5 := E6.size; refine Wo rfl (opv_assign (v := v1) rfl) ?_; refine Wo_nil ?_; refine W_region rfl ?_; refine Wo rfl (opv_move (v := .int _ _) rfl) ?_
            refine Wo rfl (opv_add rfl rfl (by omega)) ?_; refine Wo rfl (opv_assign (v := .int _ _) rfl) ?_; refine Wo_nil ?_; rotate_left; refine W_skip ?_; refine W_region rfl ?_; refine Wo rfl (opv_move (v := .int _ _) rfl) ?_
            refine Wo rfl (opv_add rfl rfl (by omega)) ?_; refine Wo rfl (opv_assign (v := .int _ _) rfl) ?_; refine Wo_nil ?_; rotate_left; (exfalso; omega)
          · have h1 : ((N >>> k : Nat) : Int) % 2 = 1 := by assumption
            have hf : fnd p z.toNat k = true := by
              cases hc : fnd p z.toNat k with
              | true => rfl
              | false => rw [hc, if_neg Bool.false_ne_true] at hsm; omega
            refine ⟨((k + 1, v1)), by repeat (first | exact trivial | refine And.intro rfl ?_), by repeat (first | with_reducible exact Same.refl | refine Same.upd rfl ?_ | refine Same.upds rfl ?_ | refine Same.mix rfl ?_), ?_, ?_⟩
            · refine ⟨by assumption, by omega, ?_⟩
              rw [hfs, if_pos hf, ints_append]
              assumption
            · simp only; omega
          · have h1 : ¬ ((N >>> k : Nat) : Int) % 2 = 1 := by assumption
            have hf : fnd p z.toNat k = false := by
              cases hc : fnd p z.toNat k with
              | false => rfl
              | true => rw [hc, if_pos rfl] at hsm; omega
            refine ⟨((k + 1, u)), by repeat (first | exact trivial | refine And.intro rfl ?_), by repeat (first | with_reducible exact Same.refl | refine Same.upd rfl ?_ | refine Same.upds rfl ?_ | refine Same.mix rfl ?_), ?_, ?_⟩
            · refine ⟨E5, by omega, ?_⟩
              rw [hfs, if_neg (by rw [hf]; simp), List.append_nil]
              exact hO5
            · simp only; omega
        · obtain rfl : k = p.length := by omega
          focus
            have szE5 := E5.size; have szE3 := E3.size; have szE2 := E2.size; have szE1 := E1.size; refine W_seq ?_; refine W_seq ?_; refine W_region rfl ?_; refine Wo rfl (opv_move (v := .int _ _) rfl) ?_
            refine Wo rfl (opv_move (v := v) rfl) ?_; refine Wo rfl (opv_len Try.underlying22 rfl h) ?_; refine Wo rfl (opv_lss rfl rfl) ?_; refine Wo_nil ?_; refine W_cond_dec rfl (fun h5 => ?_) (fun h5 => ?_); (exfalso; omega)
            refine W_exit ?_; refine exitX_same ?_; refine W_seq ?_; refine W_region rfl ?_; refine Wo rfl (opv_move (v := u) rfl) ?_; refine Wo rfl (opv_assign (v := u) rfl) ?_; refine Wo_nil ?_; refine W_ret ?_
            refine ⟨E5, (congrArg (Owned _ _ _ _) ?_).mp (hO5.toB.o.mono (by omega))⟩
          rw [hV]
    · rw [foundedV_no (fun h => hz h.2)]
      refine fn_of_W1 Try.func14 rfl Try.results14 Try.ntmps14 rfl ?_
      focus
        refine W_seq ?_; refine W_region rfl ?_; refine Wo rfl (opv_assign (v := .slice _ _ _) rfl) ?_; refine Wo_nil ?_; refine W_seq ?_; refine W_region rfl ?_; refine Wo_lit0 XInt rfl el24 Try.sizeOf3 ?_; rintro b1 w1 hb1 b1lt E1 hO1
        have hs1 := E1.size; refine Wo rfl (opv_assign (v := .slice _ _ _) rfl) ?_; refine Wo_nil ?_; refine W_seq ?_; refine W_seq ?_; refine W_region rfl ?_; refine Wo rfl (opv_move (v := v) rfl) ?_
        refine Wo_call rfl (opc1 (a := v) Try.call28 rfl) (hpic _ _ ((Mono.mono E1 h))) ?_; rintro _ w2 ⟨rfl, E2⟩; have hs2 := E2.size; refine Wo rfl (opv_not rfl) ?_
        refine Wo_split rfl (opv_move (v := .bool _) rfl) (fun h1 => ?_) (fun h1 => ?_); contradiction; refine Wo rfl (opv_move (v := .int _ _) rfl) ?_
        refine Wo_call rfl (opc3 (a := .int _ _) (b := .int _ _) (c := .int _ _) Try.call46 rfl rfl rfl) (l1In_ok _ _ _ _) ?_; rintro _ w3 ⟨rfl, E3⟩; have hs3 := E3.size; refine Wo rfl (opv_not rfl) ?_
        refine Wo rfl (opv_pick_f (v := .bool _) rfl rfl) ?_; refine Wo_nil ?_; refine W_cond_ndec rfl (fun h2 => ?_) (fun h2 => ?_); refine W_seq ?_; refine W_region rfl ?_; refine Wo rfl (opv_move (v := .slice _ _ _) rfl) ?_
        refine Wo rfl (opv_assign (v := .slice _ _ _) rfl) ?_; refine Wo_nil ?_; refine W_ret ?_; exact ⟨((E1.trans E2).trans E3), (hO1.toB.ext (E2.trans E3)).o.mono (by omega)⟩; contradiction
  · have hpic : ∀ (w : World) (pv : Value), ESl Ints w pv p → Does Try.prog 28 [pv] w (Ret w (.bool false)) := fun w pv h => by
      have := PictureOk_ok w pv p h
      rw [decide_eq_false hp] at this; exact this
    rw [foundedV_no (fun h => hp h.1)]
    refine fn_of_W1 Try.func14 rfl Try.results14 Try.ntmps14 rfl ?_
    focus
      refine W_seq ?_; refine W_region rfl ?_; refine Wo rfl (opv_assign (v := .slice _ _ _) rfl) ?_; refine Wo_nil ?_; refine W_seq ?_; refine W_region rfl ?_; refine Wo_lit0 XInt rfl el24 Try.sizeOf3 ?_; rintro b1 w1 hb1 b1lt E1 hO1
      have hs1 := E1.size; refine Wo rfl (opv_assign (v := .slice _ _ _) rfl) ?_; refine Wo_nil ?_; refine W_seq ?_; refine W_seq ?_; refine W_region rfl ?_; refine Wo rfl (opv_move (v := v) rfl) ?_
      refine Wo_call rfl (opc1 (a := v) Try.call28 rfl) (hpic _ _ ((Mono.mono E1 h))) ?_; rintro _ w2 ⟨rfl, E2⟩; have hs2 := E2.size; refine Wo rfl (opv_not rfl) ?_
      refine Wo_split rfl (opv_move (v := .bool _) rfl) (fun h1 => ?_) (fun h1 => ?_); refine Wo_skip rfl ?_; refine Wo_skip rfl ?_; refine Wo_skip rfl ?_; refine Wo rfl (opv_pick_t (v := .bool _) rfl rfl) ?_; refine Wo_nil ?_
      refine W_cond_true rfl ?_; refine W_seq ?_; refine W_region rfl ?_; refine Wo rfl (opv_move (v := .slice _ _ _) rfl) ?_; refine Wo rfl (opv_assign (v := .slice _ _ _) rfl) ?_; refine Wo_nil ?_; refine W_ret ?_
      exact ⟨(E1.trans E2), (hO1.toB.ext E2).o.mono (by omega)⟩; contradiction

abbrev XB := XSl 4 XBool
theorem impl_FoundedIn_ok (w : World) (v : Value) (p : List (List Int)) (z : Int) (h : ESl Ints w v p) : Does Try.prog 16 [v, .int .i64 z] w (RetO w XI (ints (foundedV p z))) := by
  have hle := h.le
  by_cases hpz : Pic p ∧ 0 ≤ z ∧ z ≤ 5
  · have hV : foundedV p z = (List.range p.length).filter (fnd p z.toNat) := if_pos hpz
    obtain ⟨hp, hz0, hz5⟩ := hpz
    have hp5 := hp.2.1
    have hpic : ∀ (w : World) (pv : Value), ESl Ints w pv p → Does Try.prog 48 [pv] w (Ret w (.bool true)) := fun w pv h => by
      have := isPicture_ok w pv p h
      rw [decide_eq_true hp] at this; exact this
    have harr : ∀ (w : World) (pv : Value) (z : Int), ESl Ints w pv p → 0 ≤ z ∧ z < p.length → Does Try.prog 50 [pv, .int .i64 z] w (RetO w XI (ints (arr p z.toNat))) := fun w pv z h hz =>
      arrowsOf_ok w pv p h z hz (by rw [getD_lt (by omega), hp.row (by omega)]; omega)
    have hmem : ∀ (z x : Int), 0 ≤ z ∧ z < p.length → x ∈ ints (arr p z.toNat) → 0 ≤ x ∧ x < p.length := by
      intro z x hz hx
      simp only [ints, List.mem_map] at hx
      obtain ⟨j, hj, rfl⟩ := hx
      have := ((mem_arr hp (show z.toNat < p.length by omega)).1 hj).1
      omega
    have hcl : ∀ (f : Nat → Bool) (w1 : World) (bp : Nat) (fv : Value) (x : Int), Blk w1 bp [fv] → Bools w1 fv ((List.range p.length).map f) → 0 ≤ x ∧ x < p.length →
        Does Try.prog 51 [.int .i64 x, .pointer (some ⟨bp, 0, none⟩)] w1 (Ret w1 (.bool (!(f x.toNat)))) := by
      intro f w1 bp fv x hB hF hx
      have hat : ((List.range p.length).map f)[x.toNat]'(by simp; omega) = f x.toNat := by simp
      obtain ⟨fa, fc, rfl, _⟩ := id hF
      refine fn_of_W1 Try.func51 rfl Try.results51 Try.ntmps51 rfl ?_
      focus
        refine W_seq ?_; refine W_region rfl ?_; refine Wo rfl (opv_assign (v := .bool _) rfl) ?_; refine Wo_nil ?_; refine W_seq ?_; refine W_region rfl ?_; refine Wo (v := .slice _ _ _) rfl (opv_load Try.isAgg46 rfl (hB.cell rfl)) ?_
        refine Wo rfl (opv_move (v := .int _ _) rfl) ?_; refine Wo_get_z Try.underlying46 Try.sizeOf4 Try.isAgg4 rfl (fun _ => rfl) rfl hF (Ext.refl _) rfl (by first | omega | (simp <;> omega)) ?_; rintro _ _ rfl
        refine Wo rfl (opv_not rfl) ?_; refine Wo rfl (opv_assign (v := .bool _) rfl) ?_; refine Wo_nil ?_; refine W_ret ?_; refine at_ret (v := .bool _) rfl ?_; refine ⟨congrArg Value.bool ?_, (Ext.refl _)⟩
      rw [hat]
    have hcon : ∀ (f : Nat → Bool) (w1 : World) (u : Value) (bp : Nat) (fv : Value) (z : Int), Blk w1 bp [fv] → Bools w1 fv ((List.range p.length).map f) → 0 ≤ z ∧ z < p.length → Ints w1 u (ints (arr p z.toNat)) →
        Does Try.prog 49 [u, .func (.func 51) [].toArray [.pointer (some ⟨bp, 0, none⟩)].toArray] w1 (Ret w1 (.bool ((arr p z.toNat).any fun j => !(f j)))) := by
      intro f w1 u bp fv z hB hF hz hu
      have := ContainsFunc_ok w1 u _ hu 51 [.pointer (some ⟨bp, 0, none⟩)] (fun x => !(f x.toNat)) Try.call51 (fun x w' hx e => hcl f w' bp fv x (hB.ext e) (Mono.mono e hF) (hmem z x hz hx))
      rw [any_ints _ (fun j => !(f j))] at this
      exact this
    refine fn_of_W1 Try.func16 rfl Try.results16 Try.ntmps16 rfl ?_
    focus
      refine W_seq ?_; refine W_region rfl ?_; refine Wo rfl (opv_assign (v := .slice _ _ _) rfl) ?_; refine Wo_nil ?_; refine W_seq ?_; refine W_seq ?_; refine W_region rfl ?_; refine Wo rfl (opv_move (v := v) rfl) ?_
      refine Wo_call rfl (opc1 (a := v) Try.call48 rfl) (hpic _ _ (h)) ?_; rintro _ w1 ⟨rfl, E1⟩; have hs1 := E1.size; refine Wo rfl (opv_not rfl) ?_; refine Wo_split rfl (opv_move (v := .bool _) rfl) (fun h1 => ?_) (fun h1 => ?_)
      contradiction; refine Wo rfl (opv_move (v := .int _ _) rfl) ?_; refine Wo rfl (opv_lss rfl rfl) ?_; refine Wo rfl (opv_pick_f (v := .bool _) rfl rfl) ?_
      refine Wo_split_dec rfl (opv_move (v := .bool _) rfl) (fun h2 => ?_) (fun h2 => ?_); (exfalso; omega); refine Wo rfl (opv_move (v := .int _ _) rfl) ?_; refine Wo rfl (opv_gtr rfl rfl) ?_
      refine Wo rfl (opv_pick_f (v := .bool _) rfl rfl) ?_; refine Wo_nil ?_; refine W_cond_dec rfl (fun h3 => ?_) (fun h3 => ?_); (exfalso; omega); refine W_skip ?_; refine W_seq ?_; refine W_region rfl ?_
      refine Wo rfl (opv_move (v := v) rfl) ?_; refine Wo rfl (opv_len Try.underlying22 rfl h) ?_; refine Wo_makeB rfl el46 rfl (by omega) ?_; rintro b1 w2 hb1 b1lt E2 hO1; have hs2 := E2.size; refine Wo_alloc rfl Try.zeroValue46 rfl ?_
      rintro b2 w3 hb2 E3 hB1; have hlb2 := hB1.lt; have hs3 := E3.size; refine Wo_st (v := .slice _ _ _) rfl Try.sizeOf46 rfl rfl rfl hB1 (by decide) (by omega) ((E1.trans E2).trans E3) ?_; rintro w4 E4 hB1 K1 hz1
      have E5 := (E2.trans E3).wroteAt ((E1.trans E2).trans E3) E4 K1 hz1 (by omega); have szE5 := E5.size; have E6 := E3.wroteAt ((E1.trans E2).trans E3) E4 K1 hz1 (by omega); have szE6 := E6.size; simp only [List.set] at hB1
      have hO1 := (hO1.toB.ext E3).wrote K1 (by omega); refine Wo_nil ?_; refine W_seq ?_; refine W_seq ?_; refine W_region rfl ?_; refine Wo rfl (opv_move (v := .int _ _) rfl) ?_; refine Wo rfl (opv_move (v := .int _ _) rfl) ?_
      refine Wo_nil ?_; refine W_block ?_
    have hrep : List.replicate p.length false = (List.range p.length).map (fnd p 0) := by
      apply List.ext_getElem
      · simp
      · intro i h1 h2; simp [fnd]
    rw [hrep] at hO1
    refine W_loop [6, 7, 26, 27, 28, 29, 30, 31, 32, 33, 34, 35, 36, 37, 38, 39, 40, 41, 42, 43, 44, 45, 46, 47] (fun (n, fb) => [(26, .int .i64 (n : Nat))]) (fun (n, fb) w' => Ext w1 w' ∧ n ≤ z.toNat ∧ Blk w' b2 [.slice (some ⟨fb, 0, none⟩) p.length p.length] ∧ Owned w1.heap.size XB w' (.slice (some ⟨fb, 0, none⟩) p.length p.length) ((List.range p.length).map (fnd p n))) (fun x => z.toNat - x.1) (0, b1) (by repeat (first | exact trivial | refine And.intro rfl ?_)) ?_ ?_
    · exact ⟨by assumption, Nat.zero_le _, by assumption, hO1.o⟩
    rintro ⟨n, fb⟩ ρj w5 ⟨E5, hn, hB5, hO5⟩
    have hO5r := hO5.read
    have hb2 : b2 < w5.heap.size := hB5.lt
    have hat : ∀ k (hk : k < p.length), ((List.range p.length).map (fnd p n))[k]'(by simpa using hk) = fnd p n k := fun k hk => by simp
    by_cases hlt : n < z.toNat
    · focus
        have szE5 := E5.size; have szE6 := E6.size; have szE5 := E5.size; have szE4 := E4.size; have szE3 := E3.size; have szE2 := E2.size; have szE1 := E1.size; refine W_seq ?_; refine W_region rfl ?_; refine Wo rfl (opv_lss rfl rfl) ?_
        refine Wo_nil ?_; refine W_seq ?_; refine W_cond_dec rfl (fun h4 => ?_) (fun h4 => ?_); refine W_skip ?_; refine W_seq ?_; refine W_block ?_; refine W_seq ?_; refine W_region rfl ?_; refine Wo rfl (opv_move (v := v) rfl) ?_
        refine Wo rfl (opv_len Try.underlying22 rfl h) ?_; refine Wo_makeB rfl el46 rfl (by omega) ?_; rintro b3 w6 hb3 b3lt E7 hO2; have hs4 := E7.size; refine Wo rfl (opv_assign (v := .slice _ _ _) rfl) ?_; refine Wo_nil ?_
        refine W_seq ?_; refine W_seq ?_; refine W_region rfl ?_; refine Wo rfl (opv_move (v := v) rfl) ?_; refine Wo rfl (opv_len Try.underlying22 rfl h) ?_; refine Wo rfl (opv_move (v := .int _ _) rfl) ?_; refine Wo_nil ?_
        refine W_block ?_; rotate_left; (exfalso; omega)
      obtain ⟨L, hLl, hLat, hLe⟩ : ∃ L : List Bool, L.length = p.length ∧ (∀ k (hk : k < L.length), L[k] = !((arr p k).any fun j => !(fnd p n j))) ∧ L = (List.range p.length).map (fnd p (n + 1)) := ⟨_, by simp, fun k hk => by simp [fnd, fstep], rfl⟩
      refine W_loop [7, 33, 34, 35, 36, 37, 38, 39, 40, 41, 42, 43, 44, 45] (fun (k : Nat) => [(33, .int .i64 (k : Nat))]) (fun k w' => Ext w5 w' ∧ k ≤ p.length ∧ Owned w5.heap.size XB w' (.slice (some ⟨b3, 0, none⟩) p.length p.length) (L.take k ++ List.replicate (p.length - k) false)) (fun x => p.length - x) 0 (by repeat (first | exact trivial | refine And.intro rfl ?_)) ?_ ?_
      · exact ⟨by assumption, Nat.zero_le _, by simpa using hO2⟩
      rintro k ρk w7 ⟨E7, hk, hO7⟩
      have hcon1 := hcon (fnd p n)
      by_cases hkl : k < p.length
      · have hsf := set_fill L k (by omega) false
        rw [hLat k (by omega), hLl] at hsf
        focus
          have szE7 := E7.size; have szE7 := E7.size; have szE5 := E5.size; have szE6 := E6.size; have szE5 := E5.size; have szE4 := E4.size; have szE3 := E3.size; have szE2 := E2.size; have szE1 := E1.size; refine W_seq ?_
          refine W_region rfl ?_; refine Wo rfl (opv_lss rfl rfl) ?_; refine Wo_nil ?_; refine W_seq ?_; refine W_cond_dec rfl (fun h5 => ?_) (fun h5 => ?_); refine W_skip ?_; refine W_seq ?_; refine W_block ?_; refine W_seq ?_
          refine W_region rfl ?_; refine Wo rfl (opv_move (v := .int _ _) rfl) ?_; refine Wo rfl (opv_assign (v := .int _ _) rfl) ?_; refine Wo_nil ?_; refine W_region rfl ?_; refine Wo rfl (opv_move (v := .slice _ _ _) rfl) ?_
          refine Wo rfl (opv_move (v := .int _ _) rfl) ?_; refine Wo rfl (opv_move (v := v) rfl) ?_; refine Wo rfl (opv_move (v := .int _ _) rfl) ?_
          refine Wo_call rfl (opc2 (a := v) (b := .int _ _) Try.call50 rfl rfl) (harr _ _ _ ((Mono.mono ((E1.trans E5).trans E7) h)) (by omega)) ?_; rintro u1 w8 ⟨E8, hO3⟩; have hs5 := E8.size; refine Wo rfl (opv_makeFunc rfl rfl) ?_
          refine Wo_call rfl (opc2 (a := u1) (b := .func _ _ _) Try.call49 rfl rfl) (hcon1 _ _ _ _ _ ((hB5.ext (E7.trans E8))) ((Mono.mono (E7.trans E8) hO5r)) (by omega) ((Owned.read hO3))) ?_; rintro _ w9 ⟨rfl, E9⟩; have hs6 := E9.size
          refine Wo rfl (opv_not rfl) ?_; refine Wo rfl (opv_indexAddr Try.underlying46 Try.sizeOf4 rfl rfl (by omega)) ?_
          refine Wo_set rfl Try.sizeOf4 rfl rfl (hO7.toB.ext (E8.trans E9)) (by first | omega | (simp <;> omega)) Owned.bool (Nat.le_refl _) (by omega) ?_; rintro w10 hO7 On1 K2 hz2
          have E10 := On1.ext1 ((((E1.trans E5).trans E7).trans E8).trans E9) (by omega); have E11 := On1.ext1 (((E5.trans E7).trans E8).trans E9) (by omega); have szE11 := E11.size; have E12 := On1.ext1 ((E7.trans E8).trans E9) (by omega)
          have szE12 := E12.size; have hB5 := (hB5.ext ((E7.trans E8).trans E9)).of_heap (K2 _ (by omega)); have hO5 := (hO5.toB.ext ((E7.trans E8).trans E9)).wrote K2 (by omega); have hs7 := On1.size; refine Wo_nil ?_; refine W_region rfl ?_
          refine Wo rfl (opv_add rfl rfl (by omega)) ?_; refine Wo rfl (opv_move (v := .int _ _) rfl) ?_; refine Wo_nil ?_; rotate_left; (exfalso; omega)
        refine ⟨(k + 1), by repeat (first | exact trivial | refine And.intro rfl ?_), by repeat (first | with_reducible exact Same.refl | refine Same.upd rfl ?_ | refine Same.upds rfl ?_ | refine Same.mix rfl ?_), ?_, ?_⟩
        · refine ⟨by assumption, by omega, ?_⟩
          rw [← hsf]; assumption
        · omega
      · obtain rfl : k = p.length := by omega
        have hL : L.take p.length ++ List.replicate (p.length - p.length) false = (List.range p.length).map (fnd p (n + 1)) := by
          rw [← hLl, List.take_length, hLl, hLe]; simp
        rw [hL] at hO7
        focus
          have szE7 := E7.size; have szE7 := E7.size; have szE5 := E5.size; have szE6 := E6.size; have szE5 := E5.size; have szE4 := E4.size; have szE3 := E3.size; have szE2 := E2.size; have szE1 := E1.size; refine W_seq ?_
          refine W_region rfl ?_; refine Wo rfl (opv_lss rfl rfl) ?_; refine Wo_nil ?_; refine W_seq ?_; refine W_cond_dec rfl (fun h5 => ?_) (fun h5 => ?_); (exfalso; omega); refine W_exit ?_; refine exitX_same ?_; refine W_region rfl ?_
          refine Wo rfl (opv_move (v := .slice _ _ _) rfl) ?_; refine Wo_st (v := .slice _ _ _) rfl Try.sizeOf46 rfl rfl rfl (hB5.ext E7) (by simp) (by omega) ((E1.trans E5).trans E7) ?_; rintro w8 E8 hB5 K2 hz2
          have E9 := (E5.trans E7).wroteAt ((E1.trans E5).trans E7) E8 K2 hz2 (by omega); have szE9 := E9.size; simp only [List.set] at hB5; have hO7 := hO7.toB.wrote K2 (by omega); refine Wo_nil ?_; refine W_region rfl ?_
          refine Wo rfl (opv_add rfl rfl (by omega)) ?_; refine Wo rfl (opv_move (v := .int _ _) rfl) ?_; refine Wo_nil ?_
        refine ⟨((n + 1, b3)), by repeat (first | exact trivial | refine And.intro rfl ?_), by repeat (first | with_reducible exact Same.refl | refine Same.upd rfl ?_ | refine Same.upds rfl ?_ | refine Same.mix rfl ?_), ?_, ?_⟩
        · exact ⟨by assumption, by omega, by assumption, hO7.o.mono (by omega)⟩
        · simp only; omega
    · obtain rfl : n = z.toNat := by omega
      have hml : ((List.range p.length).map (fnd p z.toNat)).length = p.length := by simp
      focus
        have szE5 := E5.size; have szE6 := E6.size; have szE5 := E5.size; have szE4 := E4.size; have szE3 := E3.size; have szE2 := E2.size; have szE1 := E1.size; refine W_seq ?_; refine W_region rfl ?_; refine Wo rfl (opv_lss rfl rfl) ?_
        refine Wo_nil ?_; refine W_seq ?_; refine W_cond_dec rfl (fun h4 => ?_) (fun h4 => ?_); (exfalso; omega); refine W_exit ?_; refine exitX_same ?_; refine W_seq ?_; refine W_region rfl ?_; refine Wo_lit0 XInt rfl el24 Try.sizeOf3 ?_
        rintro b3 w6 hb3 b3lt E7 hO2; have hs4 := E7.size; refine Wo rfl (opv_assign (v := .slice _ _ _) rfl) ?_; refine Wo_nil ?_; refine W_seq ?_; refine W_seq ?_; refine W_region rfl ?_
        refine Wo (v := .slice _ _ _) rfl (opv_load Try.isAgg46 rfl ((hB5.ext E7).cell rfl)) ?_; refine Wo rfl (opv_len Try.underlying46 rfl hO5r) ?_; refine Wo rfl (opv_move (v := .int _ _) rfl) ?_; refine Wo_nil ?_; refine W_block ?_
      refine W_loop [8, 9, 10, 51, 52, 53, 54, 55, 56, 57, 58, 59, 60, 61] (fun (k, u) => [(51, .int .i64 (k : Nat)), (8, u)]) (fun (k, u) w' => Ext w5 w' ∧ k ≤ p.length ∧ Owned w5.heap.size XI w' u (ints ((List.range k).filter (fnd p z.toNat)))) (fun x => p.length - x.1) (0, .slice (some ⟨b3, 0, none⟩) 0 0) (by repeat (first | exact trivial | refine And.intro rfl ?_)) ?_ ?_
      · exact ⟨by assumption, Nat.zero_le _, by simpa [ints] using hO2⟩
      rintro ⟨k, u⟩ ρk w7 ⟨E7, hk, hO7⟩
      have hll : (ints ((List.range k).filter (fnd p z.toNat))).length ≤ k := by
        rw [ints_len]; exact Nat.le_trans (List.length_filter_le _ _) (by simp)
      have hfs := filter_range_succ (fnd p z.toNat) k
      by_cases hkl : k < p.length
      · have hatk := hat k hkl
        focus
          have szE7 := E7.size; have szE7 := E7.size; have szE5 := E5.size; have szE6 := E6.size; have szE5 := E5.size; have szE4 := E4.size; have szE3 := E3.size; have szE2 := E2.size; have szE1 := E1.size; refine W_seq ?_
          refine W_region rfl ?_; refine Wo rfl (opv_lss rfl rfl) ?_; refine Wo_nil ?_; refine W_seq ?_; refine W_cond_dec rfl (fun h5 => ?_) (fun h5 => ?_); refine W_skip ?_; refine W_seq ?_; refine W_block ?_; refine W_seq ?_
          refine W_region rfl ?_; refine Wo rfl (opv_move (v := .int _ _) rfl) ?_; refine Wo_get Try.underlying46 Try.sizeOf4 Try.isAgg4 rfl (fun _ => rfl) rfl hO5r E7 rfl (by first | omega | (simp <;> omega)) ?_; rintro _ _ rfl
          refine Wo rfl (opv_assign (v := .int _ _) rfl) ?_; refine Wo rfl (opv_assign (v := .bool _) rfl) ?_; refine Wo_nil ?_; refine W_seq ?_; refine W_region rfl ?_; refine Wo rfl (opv_move (v := .bool _) rfl) ?_; refine Wo_nil ?_
          refine W_cond rfl (fun h6 => ?_) (fun h6 => ?_); refine W_region rfl ?_; refine Wo rfl (opv_move (v := u) rfl) ?_; refine Wo rfl (opv_move (v := .int _ _) rfl) ?_
          refine Wo_buildSlice (ps := [(0, .int _ _)]) (cs := [_]) rfl Try.underlying24 Try.sizeOf3 Try.zeroValue3 rfl rfl rfl rfl ?_; rintro b4 w8 hb4 E8 hB2; have hlb4 := hB2.lt; have hs5 := E8.size
          refine Wo_app1 rfl el24 rfl rfl hB2 (hO7.toB.ext E8) Owned.int (Nat.le_refl _) (by first | omega | (simp <;> omega)) (by omega) (by omega) (((E1.trans E5).trans E7).trans E8) (by omega) ?_; have hT1 := (hO7.toB.ext E8)
          rintro v1 w9 hO7 E9 M1; have E10 := M1.ext hT1 ((E5.trans E7).trans E8) (by omega); have szE10 := E10.size; have E11 := M1.ext hT1 (E7.trans E8) (by omega); have szE11 := E11.size
          have hB5 := (hB5.ext (E7.trans E8)).moves M1 hT1 (by omega); have hO5 := (hO5.toB.ext (E7.trans E8)).moves M1 hT1 (by omega); have hB2 := hB2.moves M1 hT1 (by omega); have hs6 := E9.size; refine Wo rfl (opv_assign (v := v1) rfl) ?_
          refine Wo_nil ?_; refine W_region rfl ?_; refine Wo rfl (opv_add rfl rfl (by omega)) ?_; refine Wo rfl (opv_move (v := .int _ _) rfl) ?_; refine Wo_nil ?_; rotate_left; refine W_skip ?_; refine W_region rfl ?_
          refine Wo rfl (opv_add rfl rfl (by omega)) ?_; refine Wo rfl (opv_move (v := .int _ _) rfl) ?_; refine Wo_nil ?_; rotate_left; (exfalso; omega)
        · refine ⟨((k + 1, v1)), by repeat (first | exact trivial | refine And.intro rfl ?_), by repeat (first | with_reducible exact Same.refl | refine Same.upd rfl ?_ | refine Same.upds rfl ?_ | refine Same.mix rfl ?_), ?_, ?_⟩
          · refine ⟨by assumption, by omega, ?_⟩
            rw [hfs, if_pos (by rw [← hatk]; assumption), ints_append]
            assumption
          · simp only; omega
        · refine ⟨((k + 1, u)), by repeat (first | exact trivial | refine And.intro rfl ?_), by repeat (first | with_reducible exact Same.refl | refine Same.upd rfl ?_ | refine Same.upds rfl ?_ | refine Same.mix rfl ?_), ?_, ?_⟩
          · refine ⟨E7, by omega, ?_⟩
            rw [hfs, if_neg (by rw [← hatk]; simp_all), List.append_nil]
            exact hO7
          · simp only; omega
      · obtain rfl : k = p.length := by omega
        focus
          have szE7 := E7.size; have szE7 := E7.size; have szE5 := E5.size; have szE6 := E6.size; have szE5 := E5.size; have szE4 := E4.size; have szE3 := E3.size; have szE2 := E2.size; have szE1 := E1.size; refine W_seq ?_
          refine W_region rfl ?_; refine Wo rfl (opv_lss rfl rfl) ?_; refine Wo_nil ?_; refine W_seq ?_; refine W_cond_dec rfl (fun h5 => ?_) (fun h5 => ?_); (exfalso; omega); refine W_exit ?_; refine exitX_same ?_; refine W_seq ?_
          refine W_region rfl ?_; refine Wo rfl (opv_move (v := u) rfl) ?_; refine Wo rfl (opv_assign (v := u) rfl) ?_; refine Wo_nil ?_; refine W_ret ?_
          refine ⟨((E1.trans E5).trans E7), (congrArg (Owned _ _ _ _) ?_).mp (hO7.toB.o.mono (by omega))⟩
        rw [hV]
  · rw [foundedV_no hpz]
    by_cases hp : Pic p
    · have hpic : ∀ (w : World) (pv : Value), ESl Ints w pv p → Does Try.prog 48 [pv] w (Ret w (.bool true)) := fun w pv h => by
        have := isPicture_ok w pv p h
        rw [decide_eq_true hp] at this; exact this
      have hz : ¬ (0 ≤ z ∧ z ≤ 5) := fun h => hpz ⟨hp, h⟩
      refine fn_of_W1 Try.func16 rfl Try.results16 Try.ntmps16 rfl ?_
      focus
        refine W_seq ?_; refine W_region rfl ?_; refine Wo rfl (opv_assign (v := .slice _ _ _) rfl) ?_; refine Wo_nil ?_; refine W_seq ?_; refine W_seq ?_; refine W_region rfl ?_; refine Wo rfl (opv_move (v := v) rfl) ?_
        refine Wo_call rfl (opc1 (a := v) Try.call48 rfl) (hpic _ _ (h)) ?_; rintro _ w1 ⟨rfl, E1⟩; have hs1 := E1.size; refine Wo rfl (opv_not rfl) ?_; refine Wo_split rfl (opv_move (v := .bool _) rfl) (fun h1 => ?_) (fun h1 => ?_)
        contradiction; refine Wo rfl (opv_move (v := .int _ _) rfl) ?_; refine Wo rfl (opv_lss rfl rfl) ?_; refine Wo rfl (opv_pick_f (v := .bool _) rfl rfl) ?_
        refine Wo_split_dec rfl (opv_move (v := .bool _) rfl) (fun h2 => ?_) (fun h2 => ?_); refine Wo_skip rfl ?_; refine Wo_skip rfl ?_; refine Wo rfl (opv_pick_t (v := .bool _) rfl rfl) ?_; refine Wo_nil ?_; refine W_cond_true rfl ?_
        refine W_seq ?_; refine W_region rfl ?_; refine Wo rfl (opv_assign (v := .slice _ _ _) rfl) ?_; refine Wo_nil ?_; refine W_ret ?_; refine at_ret (v := .slice _ _ _) rfl ?_; rotate_left
        refine Wo rfl (opv_move (v := .int _ _) rfl) ?_; refine Wo rfl (opv_gtr rfl rfl) ?_; refine Wo rfl (opv_pick_f (v := .bool _) rfl rfl) ?_; refine Wo_nil ?_; refine W_cond_dec rfl (fun h3 => ?_) (fun h3 => ?_); refine W_seq ?_
        refine W_region rfl ?_; refine Wo rfl (opv_assign (v := .slice _ _ _) rfl) ?_; refine Wo_nil ?_; refine W_ret ?_; refine at_ret (v := .slice _ _ _) rfl ?_; rotate_left; (exfalso; omega)
      all_goals exact ⟨E1, Owned.nil⟩
    · have hpic : ∀ (w : World) (pv : Value), ESl Ints w pv p → Does Try.prog 48 [pv] w (Ret w (.bool false)) := fun w pv h => by
        have := isPicture_ok w pv p h
        rw [decide_eq_false hp] at this; exact this
      refine fn_of_W1 Try.func16 rfl Try.results16 Try.ntmps16 rfl ?_
      focus
        refine W_seq ?_; refine W_region rfl ?_; refine Wo rfl (opv_assign (v := .slice _ _ _) rfl) ?_; refine Wo_nil ?_; refine W_seq ?_; refine W_seq ?_; refine W_region rfl ?_; refine Wo rfl (opv_move (v := v) rfl) ?_
        refine Wo_call rfl (opc1 (a := v) Try.call48 rfl) (hpic _ _ (h)) ?_; rintro _ w1 ⟨rfl, E1⟩; have hs1 := E1.size; refine Wo rfl (opv_not rfl) ?_; refine Wo_split rfl (opv_move (v := .bool _) rfl) (fun h1 => ?_) (fun h1 => ?_)
        refine Wo_skip rfl ?_; refine Wo_skip rfl ?_; refine Wo rfl (opv_pick_t (v := .bool _) rfl rfl) ?_; refine Wo rfl (opv_move (v := .bool _) rfl) ?_; refine Wo_skip rfl ?_; refine Wo_skip rfl ?_
        refine Wo rfl (opv_pick_t (v := .bool _) rfl rfl) ?_; refine Wo_nil ?_; refine W_cond_true rfl ?_; refine W_seq ?_; refine W_region rfl ?_; refine Wo rfl (opv_assign (v := .slice _ _ _) rfl) ?_; refine Wo_nil ?_; refine W_ret ?_
        refine at_ret (v := .slice _ _ _) rfl ?_; rotate_left; contradiction
      exact ⟨E1, Owned.nil⟩

end Go.Proofs.Ythhaodjjfofogaa
