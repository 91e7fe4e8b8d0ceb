/- Walks: texts that tell two nodes apart: the reference. -/
import Derived.Test.YtjdfnngmbaojjaaHsWHld
import Derived.Test.YtjdfnngmbaojjaaHsWFmP
namespace Go.Proofs.Ytjdfnngmbaojjaa
open Go.Hs
set_option maxRecDepth 10000
set_option maxHeartbeats 4000000
set_option linter.unusedVariables false
set_option linter.unusedSimpArgs false
theorem arr_iff {p : List (List Int)} (hp : Pic p) {a k : Nat} (ha : a < p.length) (hk : k < p.length) : k ∈ arr p a ↔ (p[a])[k]'(by rw [hp.row ha]; exact hk) = 1 := by
  rw [mem_arr hp ha]
  unfold bit
  rw [getD_lt ha, getD_lt (by rw [hp.row ha]; exact hk)]
  exact ⟨fun h => h.2, fun h => ⟨hk, h⟩⟩
theorem arr_no {p : List (List Int)} (hp : Pic p) {a k : Nat} (ha : a < p.length) (hk : k < p.length) (h : (p[a])[k]'(by rw [hp.row ha]; exact hk) = 0) : k ∉ arr p a := fun hm => by
  rw [arr_iff hp ha hk, h] at hm; cases hm
theorem arr_yes {p : List (List Int)} (hp : Pic p) {a k : Nat} (ha : a < p.length) (hk : k < p.length) (h : ¬(p[a])[k]'(by rw [hp.row ha]; exact hk) = 0) : k ∈ arr p a := by
  rw [arr_iff hp ha hk]
  rcases hp.el01 ha (by rw [hp.row ha]; exact hk) with h2 | h2
  · exact absurd h2 h
  · exact h2
def arrT (p : List (List Int)) (b j : Nat) : List Nat := (List.range j).filter fun i => decide (i ∈ arr p b)
theorem arrT_succ (p : List (List Int)) (b j : Nat) : arrT p b (j + 1) = arrT p b j ++ if j ∈ arr p b then [j] else [] := by
  unfold arrT; rw [filter_range_succ]; simp
theorem arrT_all {p : List (List Int)} (hp : Pic p) {b : Nat} (hb : b < p.length) : arrT p b p.length = arr p b := by
  unfold arrT
  rw [List.filter_congr (q := fun i => decide ((p.getD b []).getD i 0 = 1))]
  · conv => rhs; unfold arr arrR
    rw [getD_lt hb, hp.row hb]
  · intro i hi
    have := mem_arr hp hb (j := i)
    have hl := List.mem_range.1 hi
    rw [decide_eq_decide, this]
    exact ⟨fun h => h.2, fun h => ⟨hl, h⟩⟩
noncomputable def apT (p : List (List Int)) (r k b j : Nat) : List UInt8 := (conj ((arrT p b j).map (apF p r k))).enc
theorem apT_skip {p : List (List Int)} {r k b j : Nat} (h : j ∉ arr p b) : apT p r k b (j + 1) = apT p r k b j := by unfold apT; rw [arrT_succ, if_neg h]; simp
theorem apT_zero {p : List (List Int)} {r k b j : Nat} (h : arrT p b j = []) : apT p r k b j = [116] := by unfold apT; rw [h]; rfl
theorem apT_one {p : List (List Int)} {r k b j : Nat} (hj : j ∈ arr p b) (h : arrT p b j = []) : apT p r k b (j + 1) = (apF p r k j).enc := by unfold apT; rw [arrT_succ, h, if_pos hj]; rfl
theorem apT_more {p : List (List Int)} {r k b j : Nat} (hj : j ∈ arr p b) (h : arrT p b j ≠ []) : apT p r k b (j + 1) = [40] ++ apT p r k b j ++ [38] ++ (apF p r k j).enc ++ [41] := by
  unfold apT; rw [arrT_succ, if_pos hj, List.map_append, List.map_cons, List.map_nil, conj_snoc _ _ (by simpa using h)]; simp [Fm.enc]
theorem apT_ne {p : List (List Int)} {r k b j : Nat} (hr : 0 < r) (h : arrT p b j ≠ []) : apT p r k b j ≠ [116] := by
  refine enc_t (conj_ne _ (by simpa using h) fun f hf => ?_)
  obtain ⟨i, _, rfl⟩ := List.mem_map.1 hf
  exact apF_ne r k i hr
theorem apF_len' {p : List (List Int)} (hp : Pic p) {r a b : Nat} (hr : r ≤ 11) (ha : a < p.length) (hb : b < p.length) : (apF p r a b).enc.length ≤ 1000000000 := by
  have h1 := apF_len hp r a b ha hb
  have h2 : 5 ^ r ≤ 5 ^ 11 := Nat.pow_le_pow_right (by omega) hr
  have : (5 : Nat) ^ 11 = 48828125 := by decide
  omega
theorem arrT_len (p : List (List Int)) (b j : Nat) : (arrT p b j).length ≤ j := by
  have := List.length_filter_le (fun i => decide (i ∈ arr p b)) (List.range j)
  unfold arrT
  rw [List.length_range] at this; exact this
theorem apT_len {p : List (List Int)} (hp : Pic p) {r k b j : Nat} (hr : r ≤ 11) (hk : k < p.length) (hb : b < p.length) (hj : j ≤ p.length) : (apT p r k b j).length ≤ 10000000000 := by
  have h1 := conj_len ((arrT p b j).map (apF p r k)) 1000000000 fun f hf => by
    obtain ⟨i, hi, rfl⟩ := List.mem_map.1 hf
    simp only [arrT, List.mem_filter, decide_eq_true_eq] at hi
    exact apF_len' hp hr hk (arr_lt hp hb hi.2)
  have h2 := arrT_len p b j
  have h3 := hp.2.1
  rw [List.length_map] at h1
  have h4 : (arrT p b j).length ≤ 5 := by omega
  have h5 := Nat.mul_le_mul_right (1000000000 + 3) h4
  unfold apT; omega

theorem l10Apart_ok (p : List (List Int)) (hp : Pic p) : ∀ (r : Nat), r ≤ 11 → ∀ (w : World) (pv : Value) (a b : Nat), ESl Ints w pv p → a < p.length → b < p.length → bsm p p.length a b = false → mu p a b < r →
    Does Try.prog 66 [pv, .int .i64 (a : Int), .int .i64 (b : Int)] w (Ret w (str (apF p r a b).enc)) := by
  have hp5 := hp.2.1
  have hf : ∀ (a b : Nat), a < p.length → b < p.length → bsm p p.length a b = false → ∀ (w : World) (pv : Value), ESl Ints w pv p → Does Try.prog 65 [pv, .int .i64 (a : Int), .int .i64 (b : Int)] w (Ret w (.tuple #[.int .i64 (hld p a b : Int), .bool true])) := fun a b ha hb hs w pv h => by
    have := spec_HeldFor_ok w pv p h a b
    rw [show heldV p a b = ((hld p a b : Int), true) from if_pos ⟨⟨hp, by omega, by omega⟩, ⟨hp, by omega, by omega⟩, hs⟩] at this
    exact this
  have hf2 : ∀ (a b : Nat), a < p.length → b < p.length → bsm p p.length a b = true → ∀ (w : World) (pv : Value), ESl Ints w pv p → Does Try.prog 65 [pv, .int .i64 (a : Int), .int .i64 (b : Int)] w (Ret w (.tuple #[.int .i64 (-1), .bool false])) := fun a b ha hb hs w pv h => by
    have := spec_HeldFor_ok w pv p h a b
    rw [show heldV p a b = (-1, false) from if_neg (by rintro ⟨_, _, h⟩; rw [show ((a : Int)).toNat = a by omega, show ((b : Int)).toNat = b by omega, hs] at h; cases h)] at this
    exact this
  intro r
  induction r with
  | zero => intro _ w pv a b _ _ _ _ h; omega
  | succ r ih =>
    intro hr w pv a b h ha hb hs hm
    have hle := h.le
    obtain ⟨g1, g2, g3⟩ := hld_spec hs
    have hrow := hp.row ha
    have hrowb := hp.row hb
    have k1 := hf a b ha hb hs
    obtain ⟨n, hn⟩ : ∃ n, n = hld p a b := ⟨_, rfl⟩
    rw [← hn] at k1 g3
    refine fn_of_W1 Try.func66 rfl Try.results66 Try.ntmps66 rfl ?_
    focus
      refine W_seq ?_; refine W_region rfl ?_; refine Wo rfl (opv_assign (v := .string _) rfl) ?_; refine Wo_nil ?_; refine W_seq ?_; refine W_region rfl ?_; refine Wo rfl (opv_move (v := pv) rfl) ?_
      refine Wo rfl (opv_move (v := .int _ _) rfl) ?_; refine Wo rfl (opv_move (v := .int _ _) rfl) ?_; refine Wo_call rfl (opc3 (a := pv) (b := .int _ _) (c := .int _ _) Try.call65 rfl rfl rfl) (k1 _ _ (h)) ?_; rintro _ w1 ⟨rfl, E1⟩
      have hs1 := E1.size; refine Wo rfl (opv_move (v := .tuple _) rfl) ?_; refine Wo rfl (opv_extract (v := .int _ _) rfl rfl) ?_; refine Wo rfl (opv_extract (v := .bool _) rfl rfl) ?_; refine Wo rfl (opv_assign (v := .int _ _) rfl) ?_
      refine Wo rfl (opv_assign (v := .bool _) rfl) ?_; refine Wo_nil ?_; refine W_seq ?_; refine W_seq ?_; refine W_region rfl ?_; refine Wo rfl (opv_assign (v := .int _ _) rfl) ?_; refine Wo_nil ?_; refine W_block ?_
    refine W_loop [6, 9, 10, 11, 12, 13, 14, 15, 23, 24, 25, 26, 27, 28, 29, 30, 31, 32, 33, 34, 35, 36, 37, 38, 39, 40, 41, 42, 43, 44, 45, 46, 47, 48, 49, 50, 51, 52, 53, 54, 55, 56, 57, 58, 59, 60, 61, 62, 63, 64, 65, 66, 67, 68, 69, 70, 71, 72, 73, 74, 75, 76, 77, 78, 79, 80] (fun (k : Nat) => [(9, .int .i64 (k : Nat))]) (fun k w' => Ext w w' ∧ k ≤ p.length ∧ ∀ i ∈ arr p a, i < k → ∃ j ∈ arr p b, bsm p n i j = true) (fun x => p.length - x) 0 (by repeat (first | exact trivial | refine And.intro rfl ?_)) ?_ ?_
    · exact ⟨by assumption, Nat.zero_le _, fun i _ h => by omega⟩
    rintro k ρj w2 ⟨E2, hk, hg⟩
    by_cases hkl : k < p.length
    · by_cases hka : p[a][k] = 0
      · focus
          have szE2 := E2.size; have szE1 := E1.size; refine W_seq ?_; refine W_seq ?_; refine W_region rfl ?_; refine Wo rfl (opv_move (v := .int _ _) rfl) ?_; refine Wo rfl (opv_move (v := pv) rfl) ?_
          refine Wo rfl (opv_len Try.underlying30 rfl h) ?_; refine Wo rfl (opv_lss rfl rfl) ?_; refine Wo_nil ?_; refine W_cond_dec rfl (fun h1 => ?_) (fun h1 => ?_); refine W_skip ?_; refine W_seq ?_; refine W_block ?_; refine W_seq ?_
          refine W_seq ?_; refine W_region rfl ?_; refine Wo rfl (opv_move (v := pv) rfl) ?_; refine Wo rfl (opv_move (v := .int _ _) rfl) ?_
          refine Wo_get Try.underlying30 Try.sizeOf38 Try.isAgg38 rfl (fun _ => rfl) rfl h E2 rfl (by first | omega | (simp <;> omega)) ?_; rintro _ u1 hu1; refine Wo rfl (opv_move (v := .int _ _) rfl) ?_
          refine Wo_get Try.underlying38 Try.sizeOf3 Try.isAgg3 rfl (fun _ => rfl) rfl hu1 E2 rfl (by first | omega | (simp <;> omega)) ?_; rintro _ _ rfl; refine Wo rfl (opv_eql rfl rfl) ?_; refine Wo_nil ?_
          refine W_cond_dec rfl (fun h2 => ?_) (fun h2 => ?_); refine W_exit ?_; refine exitX_same ?_; refine W_region rfl ?_; refine Wo rfl (opv_move (v := .int _ _) rfl) ?_; refine Wo rfl (opv_add rfl rfl (by omega)) ?_
          refine Wo rfl (opv_assign (v := .int _ _) rfl) ?_; refine Wo_nil ?_; rotate_left; contradiction; (exfalso; omega)
        refine ⟨(k + 1), by repeat (first | exact trivial | refine And.intro rfl ?_), by repeat (first | with_reducible exact Same.refl | refine Same.upd rfl ?_ | refine Same.upds rfl ?_ | refine Same.mix rfl ?_), ?_, ?_⟩
        · refine ⟨by assumption, by omega, fun i hi hl => ?_⟩
          by_cases e : i = k
          · subst e; exact absurd hi (arr_no hp ha hkl hka)
          · exact hg i hi (by omega)
        · omega
      · have hkm := arr_yes hp ha hkl hka
        focus
          have szE2 := E2.size; have szE1 := E1.size; refine W_seq ?_; refine W_seq ?_; refine W_region rfl ?_; refine Wo rfl (opv_move (v := .int _ _) rfl) ?_; refine Wo rfl (opv_move (v := pv) rfl) ?_
          refine Wo rfl (opv_len Try.underlying30 rfl h) ?_; refine Wo rfl (opv_lss rfl rfl) ?_; refine Wo_nil ?_; refine W_cond_dec rfl (fun h1 => ?_) (fun h1 => ?_); refine W_skip ?_; refine W_seq ?_; refine W_block ?_; refine W_seq ?_
          refine W_seq ?_; refine W_region rfl ?_; refine Wo rfl (opv_move (v := pv) rfl) ?_; refine Wo rfl (opv_move (v := .int _ _) rfl) ?_
          refine Wo_get Try.underlying30 Try.sizeOf38 Try.isAgg38 rfl (fun _ => rfl) rfl h E2 rfl (by first | omega | (simp <;> omega)) ?_; rintro _ u1 hu1; refine Wo rfl (opv_move (v := .int _ _) rfl) ?_
          refine Wo_get Try.underlying38 Try.sizeOf3 Try.isAgg3 rfl (fun _ => rfl) rfl hu1 E2 rfl (by first | omega | (simp <;> omega)) ?_; rintro _ _ rfl; refine Wo rfl (opv_eql rfl rfl) ?_; refine Wo_nil ?_
          refine W_cond_dec rfl (fun h2 => ?_) (fun h2 => ?_); contradiction; refine W_skip ?_; refine W_seq ?_; refine W_region rfl ?_; refine Wo rfl (opv_assign (v := .string _) rfl) ?_; refine Wo_nil ?_; refine W_seq ?_
          refine W_region rfl ?_; refine Wo rfl (opv_assign (v := .bool _) rfl) ?_; refine Wo_nil ?_; refine W_seq ?_; refine W_seq ?_; refine W_region rfl ?_; refine Wo rfl (opv_assign (v := .int _ _) rfl) ?_; refine Wo_nil ?_
          refine W_block ?_; rotate_left; (exfalso; omega)
        refine W_loop [10, 11, 12, 13, 14, 15, 37, 38, 39, 40, 41, 42, 43, 44, 45, 46, 47, 48, 49, 50, 51, 52, 53, 54, 55, 56, 57, 58, 59, 60, 61, 62, 63, 64, 65, 66, 67, 68, 69, 70, 71, 72, 73, 74, 75, 76, 77] (fun (j, o) => [(10, str o), (11, .bool true), (12, .int .i64 (j : Nat))]) (fun (j, o) w' => Ext w w' ∧ j ≤ p.length ∧ (∀ i ∈ arr p b, i < j → bsm p n k i = false) ∧ o = apT p r k b j) (fun x => p.length - x.1) (0, [116]) (by repeat (first | exact trivial | refine And.intro rfl ?_)) ?_ ?_
        · exact ⟨E2, Nat.zero_le _, fun i _ h => by omega, (apT_zero rfl).symm⟩
        rintro ⟨j, o⟩ ρk w3 ⟨E3, hj, hjg, ho⟩
        by_cases hjl : j < p.length
        · by_cases hjb : p[b][j] = 0
          · have hjn := arr_no hp hb hjl hjb
            focus
              have szE3 := E3.size; have szE2 := E2.size; have szE1 := E1.size; refine W_seq ?_; refine W_seq ?_; refine W_region rfl ?_; refine Wo rfl (opv_move (v := .int _ _) rfl) ?_; refine Wo rfl (opv_move (v := pv) rfl) ?_
              refine Wo rfl (opv_len Try.underlying30 rfl h) ?_; refine Wo rfl (opv_lss rfl rfl) ?_; refine Wo_nil ?_; refine W_cond_dec rfl (fun h3 => ?_) (fun h3 => ?_); refine W_skip ?_; refine W_seq ?_; refine W_block ?_; refine W_seq ?_
              refine W_seq ?_; refine W_region rfl ?_; refine Wo rfl (opv_move (v := pv) rfl) ?_; refine Wo rfl (opv_move (v := .int _ _) rfl) ?_
              refine Wo_get Try.underlying30 Try.sizeOf38 Try.isAgg38 rfl (fun _ => rfl) rfl h E3 rfl (by first | omega | (simp <;> omega)) ?_; rintro _ u2 hu2; refine Wo rfl (opv_move (v := .int _ _) rfl) ?_
              refine Wo_get Try.underlying38 Try.sizeOf3 Try.isAgg3 rfl (fun _ => rfl) rfl hu2 E3 rfl (by first | omega | (simp <;> omega)) ?_; rintro _ _ rfl; refine Wo rfl (opv_eql rfl rfl) ?_; refine Wo_nil ?_
              refine W_cond_dec rfl (fun h4 => ?_) (fun h4 => ?_); refine W_exit ?_; refine exitX_same ?_; refine W_region rfl ?_; refine Wo rfl (opv_move (v := .int _ _) rfl) ?_; refine Wo rfl (opv_add rfl rfl (by omega)) ?_
              refine Wo rfl (opv_assign (v := .int _ _) rfl) ?_; refine Wo_nil ?_; rotate_left; contradiction; (exfalso; omega)
            refine ⟨((j + 1, o)), by repeat (first | exact trivial | refine And.intro rfl ?_), by repeat (first | with_reducible exact Same.refl | refine Same.upd rfl ?_ | refine Same.upds rfl ?_ | refine Same.mix rfl ?_), ?_, ?_⟩
            · refine ⟨by assumption, by omega, fun i hi hl => ?_, by rw [apT_skip hjn, ho]⟩
              by_cases e : i = j
              · subst e; exact absurd hi hjn
              · exact hjg i hi (by omega)
            · simp only; omega
          · have hjm := arr_yes hp hb hjl hjb
            cases hkj : bsm p n k j with
            | true =>
              have hnext : ∀ i ∈ arr p a, i < k + 1 → ∃ j ∈ arr p b, bsm p n i j = true := fun i hi hl => by
                by_cases e : i = k
                · subst e; exact ⟨j, hjm, hkj⟩
                · exact hg i hi (by omega)
              cases hsk : bsm p p.length k j with
              | true =>
                have k2 := hf2 k j hkl hjl hsk
                focus
                  have szE3 := E3.size; have szE2 := E2.size; have szE1 := E1.size; refine W_seq ?_; refine W_seq ?_; refine W_region rfl ?_; refine Wo rfl (opv_move (v := .int _ _) rfl) ?_; refine Wo rfl (opv_move (v := pv) rfl) ?_
                  refine Wo rfl (opv_len Try.underlying30 rfl h) ?_; refine Wo rfl (opv_lss rfl rfl) ?_; refine Wo_nil ?_; refine W_cond_dec rfl (fun h3 => ?_) (fun h3 => ?_); refine W_skip ?_; refine W_seq ?_; refine W_block ?_; refine W_seq ?_
                  refine W_seq ?_; refine W_region rfl ?_; refine Wo rfl (opv_move (v := pv) rfl) ?_; refine Wo rfl (opv_move (v := .int _ _) rfl) ?_
                  refine Wo_get Try.underlying30 Try.sizeOf38 Try.isAgg38 rfl (fun _ => rfl) rfl h E3 rfl (by first | omega | (simp <;> omega)) ?_; rintro _ u2 hu2; refine Wo rfl (opv_move (v := .int _ _) rfl) ?_
                  refine Wo_get Try.underlying38 Try.sizeOf3 Try.isAgg3 rfl (fun _ => rfl) rfl hu2 E3 rfl (by first | omega | (simp <;> omega)) ?_; rintro _ _ rfl; refine Wo rfl (opv_eql rfl rfl) ?_; refine Wo_nil ?_
                  refine W_cond_dec rfl (fun h4 => ?_) (fun h4 => ?_); contradiction; refine W_skip ?_; refine W_seq ?_; refine W_region rfl ?_; refine Wo rfl (opv_move (v := pv) rfl) ?_; refine Wo rfl (opv_move (v := .int _ _) rfl) ?_
                  refine Wo rfl (opv_move (v := .int _ _) rfl) ?_; refine Wo_call rfl (opc3 (a := pv) (b := .int _ _) (c := .int _ _) Try.call65 rfl rfl rfl) (k2 _ _ ((Mono.mono E3 h))) ?_; rintro _ w4 ⟨rfl, E4⟩; have hs2 := E4.size
                  refine Wo rfl (opv_move (v := .tuple _) rfl) ?_; refine Wo rfl (opv_extract (v := .int _ _) rfl rfl) ?_; refine Wo rfl (opv_extract (v := .bool _) rfl rfl) ?_; refine Wo rfl (opv_assign (v := .int _ _) rfl) ?_
                  refine Wo rfl (opv_assign (v := .bool _) rfl) ?_; refine Wo_nil ?_; refine W_seq ?_; refine W_seq ?_; refine W_region rfl ?_; refine Wo rfl (opv_move (v := .bool _) rfl) ?_; refine Wo rfl (opv_not rfl) ?_
                  refine Wo_split rfl (opv_move (v := .bool _) rfl) (fun h5 => ?_) (fun h5 => ?_); refine Wo_skip rfl ?_; refine Wo_skip rfl ?_; refine Wo_skip rfl ?_; refine Wo rfl (opv_pick_t (v := .bool _) rfl rfl) ?_; refine Wo_nil ?_
                  refine W_cond_true rfl ?_; refine W_seq ?_; refine W_region rfl ?_; refine Wo rfl (opv_assign (v := .bool _) rfl) ?_; refine Wo_nil ?_; refine W_exit ?_; refine exitX_other rfl ?_; refine exitX_same ?_; refine W_seq ?_
                  refine W_region rfl ?_; refine Wo rfl (opv_move (v := .bool _) rfl) ?_; refine Wo_nil ?_; refine W_cond_false rfl ?_; refine W_skip ?_; refine W_region rfl ?_; refine Wo rfl (opv_move (v := .int _ _) rfl) ?_
                  refine Wo rfl (opv_add rfl rfl (by omega)) ?_; refine Wo rfl (opv_assign (v := .int _ _) rfl) ?_; refine Wo_nil ?_; rotate_left; contradiction; (exfalso; omega)
                refine ⟨(k + 1), by repeat (first | exact trivial | refine And.intro rfl ?_), by repeat (first | with_reducible exact Same.refl | refine Same.upd rfl ?_ | refine Same.upds rfl ?_ | refine Same.mix rfl ?_), ?_, ?_⟩
                · exact ⟨E3.trans E4, by omega, hnext⟩
                · omega
              | false =>
                have k2 := hf k j hkl hjl hsk
                have hge := (hld_ge hp hkl hjl (n := n) (by omega)).2 hkj
                have hlt := (hld_spec hsk).2.2
                generalize hld p k j = m at *
                focus
                  have szE3 := E3.size; have szE2 := E2.size; have szE1 := E1.size; refine W_seq ?_; refine W_seq ?_; refine W_region rfl ?_; refine Wo rfl (opv_move (v := .int _ _) rfl) ?_; refine Wo rfl (opv_move (v := pv) rfl) ?_
                  refine Wo rfl (opv_len Try.underlying30 rfl h) ?_; refine Wo rfl (opv_lss rfl rfl) ?_; refine Wo_nil ?_; refine W_cond_dec rfl (fun h3 => ?_) (fun h3 => ?_); refine W_skip ?_; refine W_seq ?_; refine W_block ?_; refine W_seq ?_
                  refine W_seq ?_; refine W_region rfl ?_; refine Wo rfl (opv_move (v := pv) rfl) ?_; refine Wo rfl (opv_move (v := .int _ _) rfl) ?_
                  refine Wo_get Try.underlying30 Try.sizeOf38 Try.isAgg38 rfl (fun _ => rfl) rfl h E3 rfl (by first | omega | (simp <;> omega)) ?_; rintro _ u2 hu2; refine Wo rfl (opv_move (v := .int _ _) rfl) ?_
                  refine Wo_get Try.underlying38 Try.sizeOf3 Try.isAgg3 rfl (fun _ => rfl) rfl hu2 E3 rfl (by first | omega | (simp <;> omega)) ?_; rintro _ _ rfl; refine Wo rfl (opv_eql rfl rfl) ?_; refine Wo_nil ?_
                  refine W_cond_dec rfl (fun h4 => ?_) (fun h4 => ?_); contradiction; refine W_skip ?_; refine W_seq ?_; refine W_region rfl ?_; refine Wo rfl (opv_move (v := pv) rfl) ?_; refine Wo rfl (opv_move (v := .int _ _) rfl) ?_
                  refine Wo rfl (opv_move (v := .int _ _) rfl) ?_; refine Wo_call rfl (opc3 (a := pv) (b := .int _ _) (c := .int _ _) Try.call65 rfl rfl rfl) (k2 _ _ ((Mono.mono E3 h))) ?_; rintro _ w4 ⟨rfl, E4⟩; have hs2 := E4.size
                  refine Wo rfl (opv_move (v := .tuple _) rfl) ?_; refine Wo rfl (opv_extract (v := .int _ _) rfl rfl) ?_; refine Wo rfl (opv_extract (v := .bool _) rfl rfl) ?_; refine Wo rfl (opv_assign (v := .int _ _) rfl) ?_
                  refine Wo rfl (opv_assign (v := .bool _) rfl) ?_; refine Wo_nil ?_; refine W_seq ?_; refine W_seq ?_; refine W_region rfl ?_; refine Wo rfl (opv_move (v := .bool _) rfl) ?_; refine Wo rfl (opv_not rfl) ?_
                  refine Wo_split rfl (opv_move (v := .bool _) rfl) (fun h5 => ?_) (fun h5 => ?_); contradiction; refine Wo rfl (opv_move (v := .int _ _) rfl) ?_; refine Wo rfl (opv_move (v := .int _ _) rfl) ?_; refine Wo rfl (opv_geq rfl rfl) ?_
                  refine Wo rfl (opv_pick_f (v := .bool _) rfl rfl) ?_; refine Wo_nil ?_; refine W_cond_dec rfl (fun h6 => ?_) (fun h6 => ?_); refine W_seq ?_; refine W_region rfl ?_; refine Wo rfl (opv_assign (v := .bool _) rfl) ?_; refine Wo_nil ?_
                  refine W_exit ?_; refine exitX_other rfl ?_; refine exitX_same ?_; refine W_seq ?_; refine W_region rfl ?_; refine Wo rfl (opv_move (v := .bool _) rfl) ?_; refine Wo_nil ?_; refine W_cond_false rfl ?_; refine W_skip ?_
                  refine W_region rfl ?_; refine Wo rfl (opv_move (v := .int _ _) rfl) ?_; refine Wo rfl (opv_add rfl rfl (by omega)) ?_; refine Wo rfl (opv_assign (v := .int _ _) rfl) ?_; refine Wo_nil ?_; rotate_left; (exfalso; omega)
                  (exfalso; omega)
                refine ⟨(k + 1), by repeat (first | exact trivial | refine And.intro rfl ?_), by repeat (first | with_reducible exact Same.refl | refine Same.upd rfl ?_ | refine Same.upds rfl ?_ | refine Same.mix rfl ?_), ?_, ?_⟩
                · exact ⟨E3.trans E4, by omega, hnext⟩
                · omega
            | false =>
              obtain ⟨hsk, hmk⟩ := mu_part hs (k := k) (j := j) (by rw [← hn]; exact hkj)
              have k2 := hf k j hkl hjl hsk
              have k3 : ∀ (w : World) (pv : Value), ESl Ints w pv p → Does Try.prog 66 [pv, .int .i64 (k : Int), .int .i64 (j : Int)] w (Ret w (str (apF p r k j).enc)) := fun w pv h => ih (by omega) w pv k j h hkl hjl hsk (by omega)
              have hlt := (hld_spec hkj).2.2
              have hel := apF_len' hp (r := r) (by omega) hkl hjl
              have hol := apT_len hp (r := r) (k := k) (b := b) (j := j) (by omega) hkl hb hj
              have hnext : ∀ i ∈ arr p b, i < j + 1 → bsm p n k i = false := fun i hi hl => by
                by_cases e : i = j
                · subst e; exact hkj
                · exact hjg i hi (by omega)
              by_cases hz : arrT p b j = []
              · have e1 := apT_one (r := r) (k := k) hjm hz
                have e0 := apT_zero (r := r) (k := k) hz
                rw [← ho] at e0
                subst e0
                generalize (apF p r k j).enc = t at *
                generalize hld p k j = m at *
                focus
                  have szE3 := E3.size; have szE2 := E2.size; have szE1 := E1.size; refine W_seq ?_; refine W_seq ?_; refine W_region rfl ?_; refine Wo rfl (opv_move (v := .int _ _) rfl) ?_; refine Wo rfl (opv_move (v := pv) rfl) ?_
                  refine Wo rfl (opv_len Try.underlying30 rfl h) ?_; refine Wo rfl (opv_lss rfl rfl) ?_; refine Wo_nil ?_; refine W_cond_dec rfl (fun h3 => ?_) (fun h3 => ?_); refine W_skip ?_; refine W_seq ?_; refine W_block ?_; refine W_seq ?_
                  refine W_seq ?_; refine W_region rfl ?_; refine Wo rfl (opv_move (v := pv) rfl) ?_; refine Wo rfl (opv_move (v := .int _ _) rfl) ?_
                  refine Wo_get Try.underlying30 Try.sizeOf38 Try.isAgg38 rfl (fun _ => rfl) rfl h E3 rfl (by first | omega | (simp <;> omega)) ?_; rintro _ u2 hu2; refine Wo rfl (opv_move (v := .int _ _) rfl) ?_
                  refine Wo_get Try.underlying38 Try.sizeOf3 Try.isAgg3 rfl (fun _ => rfl) rfl hu2 E3 rfl (by first | omega | (simp <;> omega)) ?_; rintro _ _ rfl; refine Wo rfl (opv_eql rfl rfl) ?_; refine Wo_nil ?_
                  refine W_cond_dec rfl (fun h4 => ?_) (fun h4 => ?_); contradiction; refine W_skip ?_; refine W_seq ?_; refine W_region rfl ?_; refine Wo rfl (opv_move (v := pv) rfl) ?_; refine Wo rfl (opv_move (v := .int _ _) rfl) ?_
                  refine Wo rfl (opv_move (v := .int _ _) rfl) ?_; refine Wo_call rfl (opc3 (a := pv) (b := .int _ _) (c := .int _ _) Try.call65 rfl rfl rfl) (k2 _ _ ((Mono.mono E3 h))) ?_; rintro _ w4 ⟨rfl, E4⟩; have hs2 := E4.size
                  refine Wo rfl (opv_move (v := .tuple _) rfl) ?_; refine Wo rfl (opv_extract (v := .int _ _) rfl rfl) ?_; refine Wo rfl (opv_extract (v := .bool _) rfl rfl) ?_; refine Wo rfl (opv_assign (v := .int _ _) rfl) ?_
                  refine Wo rfl (opv_assign (v := .bool _) rfl) ?_; refine Wo_nil ?_; refine W_seq ?_; refine W_seq ?_; refine W_region rfl ?_; refine Wo rfl (opv_move (v := .bool _) rfl) ?_; refine Wo rfl (opv_not rfl) ?_
                  refine Wo_split rfl (opv_move (v := .bool _) rfl) (fun h5 => ?_) (fun h5 => ?_); contradiction; refine Wo rfl (opv_move (v := .int _ _) rfl) ?_; refine Wo rfl (opv_move (v := .int _ _) rfl) ?_; refine Wo rfl (opv_geq rfl rfl) ?_
                  refine Wo rfl (opv_pick_f (v := .bool _) rfl rfl) ?_; refine Wo_nil ?_; refine W_cond_dec rfl (fun h6 => ?_) (fun h6 => ?_); (exfalso; omega); refine W_skip ?_; refine W_seq ?_; refine W_region rfl ?_
                  refine Wo rfl (opv_move (v := pv) rfl) ?_; refine Wo rfl (opv_move (v := .int _ _) rfl) ?_; refine Wo rfl (opv_move (v := .int _ _) rfl) ?_
                  refine Wo_call rfl (opc3 (a := pv) (b := .int _ _) (c := .int _ _) Try.call66 rfl rfl rfl) (k3 _ _ ((Mono.mono (E3.trans E4) h))) ?_; rintro _ w5 ⟨rfl, E5⟩; have hs3 := E5.size; refine Wo rfl (opv_assign (v := .string _) rfl) ?_
                  refine Wo_nil ?_; refine W_seq ?_; refine W_region rfl ?_; refine Wo rfl (opv_move (v := .string _) rfl) ?_; refine Wo rfl (opv_eql_str rfl rfl) ?_; refine Wo_nil ?_; refine W_cond_dec rfl (fun h7 => ?_) (fun h7 => ?_)
                  refine W_region rfl ?_; refine Wo rfl (opv_move (v := .string _) rfl) ?_; refine Wo rfl (opv_assign (v := .string _) rfl) ?_; refine Wo_nil ?_; refine W_region rfl ?_; refine Wo rfl (opv_move (v := .int _ _) rfl) ?_
                  refine Wo rfl (opv_add rfl rfl (by omega)) ?_; refine Wo rfl (opv_assign (v := .int _ _) rfl) ?_; refine Wo_nil ?_; rotate_left; contradiction; (exfalso; omega)
                refine ⟨((j + 1, t)), by repeat (first | exact trivial | refine And.intro rfl ?_), by repeat (first | with_reducible exact Same.refl | refine Same.upd rfl ?_ | refine Same.upds rfl ?_ | refine Same.mix rfl ?_), ?_, ?_⟩
                · exact ⟨E3.trans (E4.trans E5), by omega, hnext, e1.symm⟩
                · simp only; omega
              · have e1 := apT_more (r := r) (k := k) hjm hz
                have e0 := apT_ne (r := r) (k := k) (by omega) hz
                rw [← ho] at e0 e1 hol
                generalize (apF p r k j).enc = t at *
                generalize hld p k j = m at *
                focus
                  have szE3 := E3.size; have szE2 := E2.size; have szE1 := E1.size; refine W_seq ?_; refine W_seq ?_; refine W_region rfl ?_; refine Wo rfl (opv_move (v := .int _ _) rfl) ?_; refine Wo rfl (opv_move (v := pv) rfl) ?_
                  refine Wo rfl (opv_len Try.underlying30 rfl h) ?_; refine Wo rfl (opv_lss rfl rfl) ?_; refine Wo_nil ?_; refine W_cond_dec rfl (fun h3 => ?_) (fun h3 => ?_); refine W_skip ?_; refine W_seq ?_; refine W_block ?_; refine W_seq ?_
                  refine W_seq ?_; refine W_region rfl ?_; refine Wo rfl (opv_move (v := pv) rfl) ?_; refine Wo rfl (opv_move (v := .int _ _) rfl) ?_
                  refine Wo_get Try.underlying30 Try.sizeOf38 Try.isAgg38 rfl (fun _ => rfl) rfl h E3 rfl (by first | omega | (simp <;> omega)) ?_; rintro _ u2 hu2; refine Wo rfl (opv_move (v := .int _ _) rfl) ?_
                  refine Wo_get Try.underlying38 Try.sizeOf3 Try.isAgg3 rfl (fun _ => rfl) rfl hu2 E3 rfl (by first | omega | (simp <;> omega)) ?_; rintro _ _ rfl; refine Wo rfl (opv_eql rfl rfl) ?_; refine Wo_nil ?_
                  refine W_cond_dec rfl (fun h4 => ?_) (fun h4 => ?_); contradiction; refine W_skip ?_; refine W_seq ?_; refine W_region rfl ?_; refine Wo rfl (opv_move (v := pv) rfl) ?_; refine Wo rfl (opv_move (v := .int _ _) rfl) ?_
                  refine Wo rfl (opv_move (v := .int _ _) rfl) ?_; refine Wo_call rfl (opc3 (a := pv) (b := .int _ _) (c := .int _ _) Try.call65 rfl rfl rfl) (k2 _ _ ((Mono.mono E3 h))) ?_; rintro _ w4 ⟨rfl, E4⟩; have hs2 := E4.size
                  refine Wo rfl (opv_move (v := .tuple _) rfl) ?_; refine Wo rfl (opv_extract (v := .int _ _) rfl rfl) ?_; refine Wo rfl (opv_extract (v := .bool _) rfl rfl) ?_; refine Wo rfl (opv_assign (v := .int _ _) rfl) ?_
                  refine Wo rfl (opv_assign (v := .bool _) rfl) ?_; refine Wo_nil ?_; refine W_seq ?_; refine W_seq ?_; refine W_region rfl ?_; refine Wo rfl (opv_move (v := .bool _) rfl) ?_; refine Wo rfl (opv_not rfl) ?_
                  refine Wo_split rfl (opv_move (v := .bool _) rfl) (fun h5 => ?_) (fun h5 => ?_); contradiction; refine Wo rfl (opv_move (v := .int _ _) rfl) ?_; refine Wo rfl (opv_move (v := .int _ _) rfl) ?_; refine Wo rfl (opv_geq rfl rfl) ?_
                  refine Wo rfl (opv_pick_f (v := .bool _) rfl rfl) ?_; refine Wo_nil ?_; refine W_cond_dec rfl (fun h6 => ?_) (fun h6 => ?_); (exfalso; omega); refine W_skip ?_; refine W_seq ?_; refine W_region rfl ?_
                  refine Wo rfl (opv_move (v := pv) rfl) ?_; refine Wo rfl (opv_move (v := .int _ _) rfl) ?_; refine Wo rfl (opv_move (v := .int _ _) rfl) ?_
                  refine Wo_call rfl (opc3 (a := pv) (b := .int _ _) (c := .int _ _) Try.call66 rfl rfl rfl) (k3 _ _ ((Mono.mono (E3.trans E4) h))) ?_; rintro _ w5 ⟨rfl, E5⟩; have hs3 := E5.size; refine Wo rfl (opv_assign (v := .string _) rfl) ?_
                  refine Wo_nil ?_; refine W_seq ?_; refine W_region rfl ?_; refine Wo rfl (opv_move (v := .string _) rfl) ?_; refine Wo rfl (opv_eql_str rfl rfl) ?_; refine Wo_nil ?_; refine W_cond_dec rfl (fun h7 => ?_) (fun h7 => ?_)
                  contradiction; refine W_region rfl ?_; refine Wo rfl (opv_move (v := .string _) rfl) ?_; refine Wo rfl (opv_add_str rfl rfl (by simp <;> omega)) ?_; refine Wo rfl (opv_add_str rfl rfl (by simp <;> omega)) ?_
                  refine Wo rfl (opv_move (v := .string _) rfl) ?_; refine Wo rfl (opv_add_str rfl rfl (by simp <;> omega)) ?_; refine Wo rfl (opv_add_str rfl rfl (by simp <;> omega)) ?_; refine Wo rfl (opv_assign (v := .string _) rfl) ?_
                  refine Wo_nil ?_; refine W_region rfl ?_; refine Wo rfl (opv_move (v := .int _ _) rfl) ?_; refine Wo rfl (opv_add rfl rfl (by omega)) ?_; refine Wo rfl (opv_assign (v := .int _ _) rfl) ?_; refine Wo_nil ?_; rotate_left
                  (exfalso; omega)
                refine ⟨((j + 1, [40] ++ o ++ [38] ++ t ++ [41])), by repeat (first | exact trivial | refine And.intro rfl ?_), by repeat (first | with_reducible exact Same.refl | refine Same.upd rfl ?_ | refine Same.upds rfl ?_ | refine Same.mix rfl ?_), ?_, ?_⟩
                · exact ⟨E3.trans (E4.trans E5), by omega, hnext, e1.symm⟩
                · simp only; omega
        · obtain rfl : j = p.length := by omega
          have hol := apT_len hp (r := r) (k := k) (b := b) (j := p.length) (by omega) hkl hb (by omega)
          have hfin : (apF p (r + 1) a b).enc = [83] ++ o := by
            have e := gd_first (b := b) (n := n) hkm (fun i hi => hjg i hi (arr_lt hp hb hi)) hg
            rw [hn] at e
            simp only [apF, e]
            rw [ho]; unfold apT; rw [arrT_all hp hb]; rfl
          rw [← ho] at hol
          focus
            have szE3 := E3.size; have szE2 := E2.size; have szE1 := E1.size; refine W_seq ?_; refine W_seq ?_; refine W_region rfl ?_; refine Wo rfl (opv_move (v := .int _ _) rfl) ?_; refine Wo rfl (opv_move (v := pv) rfl) ?_
            refine Wo rfl (opv_len Try.underlying30 rfl h) ?_; refine Wo rfl (opv_lss rfl rfl) ?_; refine Wo_nil ?_; refine W_cond_dec rfl (fun h3 => ?_) (fun h3 => ?_); (exfalso; omega); refine W_exit ?_; refine exitX_same ?_; refine W_seq ?_
            refine W_region rfl ?_; refine Wo rfl (opv_move (v := .bool _) rfl) ?_; refine Wo_nil ?_; refine W_cond_true rfl ?_; refine W_seq ?_; refine W_region rfl ?_; refine Wo rfl (opv_move (v := .string _) rfl) ?_
            refine Wo rfl (opv_add_str rfl rfl (by simp <;> omega)) ?_; refine Wo rfl (opv_assign (v := .string _) rfl) ?_; refine Wo_nil ?_; refine W_ret ?_; refine at_ret (v := .string _) rfl ?_; refine ⟨congrArg str ?_, E3⟩
          rw [hfin]
    · obtain rfl : k = p.length := by omega
      have e := gd_not (b := b) (n := n) fun i hi => hg i hi (arr_lt hp ha hi)
      rw [hn] at e
      obtain ⟨hs2, hm2⟩ := mu_N hs e
      have k3 : ∀ (w : World) (pv : Value), ESl Ints w pv p → Does Try.prog 66 [pv, .int .i64 (b : Int), .int .i64 (a : Int)] w (Ret w (str (apF p r b a).enc)) := fun w pv h => ih (by omega) w pv b a h hb ha hs2 (by omega)
      have hel := apF_len' hp (r := r) (by omega) hb ha
      have hfin : (apF p (r + 1) a b).enc = [33] ++ (apF p r b a).enc := by simp only [apF, e]; rfl
      rw [hfin]
      generalize (apF p r b a).enc = t at *
      focus
        have szE2 := E2.size; have szE1 := E1.size; refine W_seq ?_; refine W_seq ?_; refine W_region rfl ?_; refine Wo rfl (opv_move (v := .int _ _) rfl) ?_; refine Wo rfl (opv_move (v := pv) rfl) ?_
        refine Wo rfl (opv_len Try.underlying30 rfl h) ?_; refine Wo rfl (opv_lss rfl rfl) ?_; refine Wo_nil ?_; refine W_cond_dec rfl (fun h1 => ?_) (fun h1 => ?_); (exfalso; omega); refine W_exit ?_; refine exitX_same ?_; refine W_seq ?_
        refine W_region rfl ?_; refine Wo rfl (opv_move (v := pv) rfl) ?_; refine Wo rfl (opv_move (v := .int _ _) rfl) ?_; refine Wo rfl (opv_move (v := .int _ _) rfl) ?_
        refine Wo_call rfl (opc3 (a := pv) (b := .int _ _) (c := .int _ _) Try.call66 rfl rfl rfl) (k3 _ _ ((Mono.mono E2 h))) ?_; rintro _ w3 ⟨rfl, E3⟩; have hs3 := E3.size; refine Wo rfl (opv_add_str rfl rfl (by simp <;> omega)) ?_
        refine Wo rfl (opv_assign (v := .string _) rfl) ?_; refine Wo_nil ?_; refine W_ret ?_; exact ⟨rfl, (E2.trans E3)⟩

end Go.Proofs.Ytjdfnngmbaojjaa
