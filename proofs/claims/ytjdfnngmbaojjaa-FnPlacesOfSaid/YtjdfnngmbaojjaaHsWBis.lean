/- Walks: rounds of answering, the reference. -/
import Derived.Test.YtjdfnngmbaojjaaHsWGen2
import Derived.Test.YtjdfnngmbaojjaaHsWPic
import Derived.Test.YtjdfnngmbaojjaaHsBis
import Derived.Test.YtjdfnngmbaojjaaHsAny
namespace Go.Proofs.Ytjdfnngmbaojjaa
open Go.Hs
set_option maxRecDepth 10000
set_option maxHeartbeats 4000000
set_option linter.unusedVariables false
set_option linter.unusedSimpArgs false

theorem l3Matched_ok (w : World) (v v' : Value) (p : List (List Int)) (h : ESl Ints w v p) (hp : Pic p) (S : Nat → Nat → Bool) (h' : ESl Ints w v' (matV p S)) (a b : Nat) (ha : a < p.length) (hb : b < p.length) :
    Does Try.prog 86 [v, v', .int .i64 (a : Int), .int .i64 (b : Int)] w (Ret w (.bool (mch p S a b))) := by
  have hp5 := hp.2.1
  have hra := hp.row ha
  have hrb := hp.row hb
  have hml := matV_len (p := p) S
  have hall : mch p S a b = (List.range p.length).all fun j => !decide (p[a].getD j 0 = 1) || (arr p b).any fun j' => S j j' := arr_all hp ha _
  refine fn_of_W1 Try.func86 rfl Try.results86 Try.ntmps86 rfl ?_
  focus
    refine W_seq ?_; refine W_region rfl ?_; refine Wo rfl (opv_assign (v := .bool _) rfl) ?_; refine Wo_nil ?_; refine W_seq ?_; refine W_seq ?_; refine W_region rfl ?_; refine Wo rfl (opv_assign (v := .int _ _) rfl) ?_
    refine Wo_nil ?_; refine W_block ?_
  refine W_loop [8, 9, 10, 11, 12, 13, 14, 15, 16, 17, 18, 19, 20, 21, 22, 23, 24, 25, 26, 27, 28, 29, 30, 31, 32, 33, 34, 35, 36, 37, 38, 39, 40, 41, 42, 43, 44, 45, 46, 47, 48, 49, 50, 51, 52, 53, 54] (fun (k : Nat) => [(9, .int .i64 (k : Nat))]) (fun k w' => Ext w w' ∧ k ≤ p.length ∧ ((List.range k).all fun j => !decide (p[a].getD j 0 = 1) || (arr p b).any fun j' => S j j') = true) (fun x => p.length - x) 0 (by repeat (first | exact trivial | refine And.intro rfl ?_)) ?_ ?_
  · exact ⟨Ext.refl _, Nat.zero_le _, by simp⟩
  rintro k ρj w1 ⟨E1, hk, hg⟩
  by_cases hkl : k < p.length
  · have hga := getD_lt (l := p[a]) (i := k) (d := 0) (by omega)
    have h01 := hp.el01 ha (j := k) (by omega)
    have hsu := all_range_succ (fun j => !decide (p[a].getD j 0 = 1) || (arr p b).any fun j' => S j j') k
    have hany : ((arr p b).any fun j' => S k j') = (List.range p.length).any fun j => decide (p[b].getD j 0 = 1) && S k j := arr_any' hp hb _
    have hmr := matV_rlen (p := p) (S := S) hkl
    rw [hg, Bool.true_and, hga] at hsu
    focus
      have szE1 := E1.size; refine W_seq ?_; refine W_seq ?_; refine W_region rfl ?_; refine Wo rfl (opv_move (v := .int _ _) rfl) ?_; refine Wo rfl (opv_move (v := v) rfl) ?_; refine Wo rfl (opv_len Try.underlying30 rfl h) ?_
      refine Wo rfl (opv_lss rfl rfl) ?_; refine Wo_nil ?_; refine W_cond_dec rfl (fun h1 => ?_) (fun h1 => ?_); refine W_skip ?_; refine W_seq ?_; refine W_block ?_; refine W_seq ?_; refine W_seq ?_; refine W_region rfl ?_
      refine Wo rfl (opv_move (v := v) rfl) ?_; refine Wo rfl (opv_move (v := .int _ _) rfl) ?_; refine Wo_get Try.underlying30 Try.sizeOf38 Try.isAgg38 rfl (fun _ => rfl) rfl h E1 rfl (by first | omega | (simp <;> omega)) ?_
      rintro _ u1 hu1; refine Wo rfl (opv_move (v := .int _ _) rfl) ?_; refine Wo_get Try.underlying38 Try.sizeOf3 Try.isAgg3 rfl (fun _ => rfl) rfl hu1 E1 rfl (by first | omega | (simp <;> omega)) ?_; rintro _ _ rfl
      refine Wo rfl (opv_eql rfl rfl) ?_; refine Wo_nil ?_; refine W_cond_dec rfl (fun h2 => ?_) (fun h2 => ?_); refine W_exit ?_; refine exitX_same ?_; refine W_region rfl ?_; refine Wo rfl (opv_move (v := .int _ _) rfl) ?_
      refine Wo rfl (opv_add rfl rfl (by omega)) ?_; refine Wo rfl (opv_assign (v := .int _ _) rfl) ?_; refine Wo_nil ?_; rotate_left; refine W_skip ?_; refine W_seq ?_; refine W_region rfl ?_
      refine Wo rfl (opv_assign (v := .bool _) rfl) ?_; refine Wo_nil ?_; refine W_seq ?_; refine W_seq ?_; refine W_region rfl ?_; refine Wo rfl (opv_assign (v := .int _ _) rfl) ?_; refine Wo_nil ?_; refine W_block ?_; rotate_left
      (exfalso; omega)
    · refine ⟨(k + 1), by repeat (first | exact trivial | refine And.intro rfl ?_), by repeat (first | with_reducible exact Same.refl | refine Same.upd rfl ?_ | refine Same.upds rfl ?_ | refine Same.mix rfl ?_), ?_, ?_⟩
      · refine ⟨E1, by omega, ?_⟩
        rw [hsu, decide_eq_false (by omega)]; rfl
      · omega
    · have h1 : p[a][k] = 1 := by omega
      rw [decide_eq_true h1, Bool.not_true, Bool.false_or, hany] at hsu
      refine W_loop [10, 11, 26, 27, 28, 29, 30, 31, 32, 33, 34, 35, 36, 37, 38, 39, 40, 41, 42, 43, 44, 45, 46, 47, 48, 49, 50, 51, 52] (fun (j, f) => [(10, .bool f), (11, .int .i64 (j : Nat))]) (fun (j, f) w' => Ext w1 w' ∧ j ≤ p.length ∧ f = (List.range j).any fun j => decide (p[b].getD j 0 = 1) && S k j) (fun x => p.length - x.1) (0, false) (by repeat (first | exact trivial | refine And.intro rfl ?_)) ?_ ?_
      · exact ⟨Ext.refl _, Nat.zero_le _, by simp⟩
      rintro ⟨j, f⟩ ρk w2 ⟨E2, hj, hf⟩
      by_cases hjl : j < p.length
      · have hgb := getD_lt (l := p[b]) (i := j) (d := 0) (by omega)
        have hsj := any_range_succ' (fun j => decide (p[b].getD j 0 = 1) && S k j) j
        rw [← hf, hgb] at hsj
        have hme := matV_at (p := p) (S := S) hkl hjl
        cases f with
        | true =>
          focus
            have szE2 := E2.size; have szE1 := E1.size; refine W_seq ?_; refine W_seq ?_; refine W_region rfl ?_; refine Wo rfl (opv_move (v := .int _ _) rfl) ?_; refine Wo rfl (opv_move (v := v) rfl) ?_
            refine Wo rfl (opv_len Try.underlying30 rfl h) ?_; refine Wo rfl (opv_lss rfl rfl) ?_; refine Wo_nil ?_; refine W_cond_dec rfl (fun h3 => ?_) (fun h3 => ?_); refine W_skip ?_; refine W_seq ?_; refine W_block ?_
            refine W_region rfl ?_; refine Wo rfl (opv_move (v := .bool _) rfl) ?_; refine Wo rfl (opv_move (v := .bool _) rfl) ?_; refine Wo_skip rfl ?_; refine Wo_skip rfl ?_; refine Wo_skip rfl ?_; refine Wo_skip rfl ?_
            refine Wo_skip rfl ?_; refine Wo_skip rfl ?_; refine Wo_skip rfl ?_; refine Wo_skip rfl ?_; refine Wo_skip rfl ?_; refine Wo_skip rfl ?_; refine Wo_skip rfl ?_; refine Wo_skip rfl ?_; refine Wo_skip rfl ?_; refine Wo_skip rfl ?_
            refine Wo_skip rfl ?_; refine Wo_skip rfl ?_; refine Wo_skip rfl ?_; refine Wo_skip rfl ?_; refine Wo rfl (opv_pick_t (v := .bool _) rfl rfl) ?_; refine Wo rfl (opv_assign (v := .bool _) rfl) ?_; refine Wo_nil ?_
            refine W_region rfl ?_; refine Wo rfl (opv_move (v := .int _ _) rfl) ?_; refine Wo rfl (opv_add rfl rfl (by omega)) ?_; refine Wo rfl (opv_assign (v := .int _ _) rfl) ?_; refine Wo_nil ?_; rotate_left; (exfalso; omega)
          refine ⟨((j + 1, true)), by repeat (first | exact trivial | refine And.intro rfl ?_), by repeat (first | with_reducible exact Same.refl | refine Same.upd rfl ?_ | refine Same.upds rfl ?_ | refine Same.mix rfl ?_), ?_, ?_⟩
          · exact ⟨E2, by omega, by rw [hsj]; rfl⟩
          · simp only; omega
        | false =>
          focus
            have szE2 := E2.size; have szE1 := E1.size; refine W_seq ?_; refine W_seq ?_; refine W_region rfl ?_; refine Wo rfl (opv_move (v := .int _ _) rfl) ?_; refine Wo rfl (opv_move (v := v) rfl) ?_
            refine Wo rfl (opv_len Try.underlying30 rfl h) ?_; refine Wo rfl (opv_lss rfl rfl) ?_; refine Wo_nil ?_; refine W_cond_dec rfl (fun h3 => ?_) (fun h3 => ?_); refine W_skip ?_; refine W_seq ?_; refine W_block ?_
            refine W_region rfl ?_; refine Wo rfl (opv_move (v := .bool _) rfl) ?_; refine Wo rfl (opv_move (v := .bool _) rfl) ?_; refine Wo rfl (opv_move (v := v) rfl) ?_; refine Wo rfl (opv_move (v := .int _ _) rfl) ?_
            refine Wo_get Try.underlying30 Try.sizeOf38 Try.isAgg38 rfl (fun _ => rfl) rfl h (E1.trans E2) rfl (by first | omega | (simp <;> omega)) ?_; rintro _ u2 hu2; refine Wo rfl (opv_move (v := .int _ _) rfl) ?_
            refine Wo_get Try.underlying38 Try.sizeOf3 Try.isAgg3 rfl (fun _ => rfl) rfl hu2 (E1.trans E2) rfl (by first | omega | (simp <;> omega)) ?_; rintro _ _ rfl; refine Wo rfl (opv_eql rfl rfl) ?_
            refine Wo_split_dec rfl (opv_move (v := .bool _) rfl) (fun h4 => ?_) (fun h4 => ?_); refine Wo rfl (opv_move (v := v') rfl) ?_; refine Wo rfl (opv_move (v := .int _ _) rfl) ?_
            refine Wo_get Try.underlying30 Try.sizeOf38 Try.isAgg38 rfl (fun _ => rfl) rfl h' (E1.trans E2) rfl (by first | omega | (simp <;> omega)) ?_; rintro _ u3 hu3; refine Wo rfl (opv_move (v := .int _ _) rfl) ?_
            refine Wo_get Try.underlying38 Try.sizeOf3 Try.isAgg3 rfl (fun _ => rfl) rfl hu3 (E1.trans E2) rfl (by first | omega | (simp <;> omega)) ?_; rintro _ _ rfl; refine Wo rfl (opv_eql rfl rfl) ?_
            refine Wo rfl (opv_pick_t (v := .bool _) rfl rfl) ?_; refine Wo rfl (opv_pick_f (v := .bool _) rfl rfl) ?_; refine Wo rfl (opv_assign (v := .bool _) rfl) ?_; refine Wo_nil ?_; refine W_region rfl ?_
            refine Wo rfl (opv_move (v := .int _ _) rfl) ?_; refine Wo rfl (opv_add rfl rfl (by omega)) ?_; refine Wo rfl (opv_assign (v := .int _ _) rfl) ?_; refine Wo_nil ?_; rotate_left; refine Wo_skip rfl ?_; refine Wo_skip rfl ?_
            refine Wo_skip rfl ?_; refine Wo_skip rfl ?_; refine Wo_skip rfl ?_; refine Wo_skip rfl ?_; refine Wo_skip rfl ?_; refine Wo_skip rfl ?_; refine Wo rfl (opv_pick_f (v := .bool _) rfl rfl) ?_
            refine Wo rfl (opv_pick_f (v := .bool _) rfl rfl) ?_; refine Wo rfl (opv_assign (v := .bool _) rfl) ?_; refine Wo_nil ?_; refine W_region rfl ?_; refine Wo rfl (opv_move (v := .int _ _) rfl) ?_
            refine Wo rfl (opv_add rfl rfl (by omega)) ?_; refine Wo rfl (opv_assign (v := .int _ _) rfl) ?_; refine Wo_nil ?_; rotate_left; (exfalso; omega)
          · refine ⟨((j + 1, decide (((matV p S)[k]'(by omega))[j]'(by omega) = 1))), by repeat (first | exact trivial | refine And.intro rfl ?_), by repeat (first | with_reducible exact Same.refl | refine Same.upd rfl ?_ | refine Same.upds rfl ?_ | refine Same.mix rfl ?_), ?_, ?_⟩
            · refine ⟨E2, by omega, ?_⟩
              rw [hsj, show decide (p[b][j] = 1) = true from decide_eq_true (by assumption), hme]
              cases S k j <;> rfl
            · simp only; omega
          · refine ⟨((j + 1, false)), by repeat (first | exact trivial | refine And.intro rfl ?_), by repeat (first | with_reducible exact Same.refl | refine Same.upd rfl ?_ | refine Same.upds rfl ?_ | refine Same.mix rfl ?_), ?_, ?_⟩
            · refine ⟨E2, by omega, ?_⟩
              rw [hsj, decide_eq_false (by assumption)]; rfl
            · simp only; omega
      · obtain rfl : j = p.length := by omega
        rw [← hf] at hsu
        focus
          have szE2 := E2.size; have szE1 := E1.size; refine W_seq ?_; refine W_seq ?_; refine W_region rfl ?_; refine Wo rfl (opv_move (v := .int _ _) rfl) ?_; refine Wo rfl (opv_move (v := v) rfl) ?_
          refine Wo rfl (opv_len Try.underlying30 rfl h) ?_; refine Wo rfl (opv_lss rfl rfl) ?_; refine Wo_nil ?_; refine W_cond_dec rfl (fun h3 => ?_) (fun h3 => ?_); (exfalso; omega); refine W_exit ?_; refine exitX_same ?_; refine W_seq ?_
          refine W_region rfl ?_; refine Wo rfl (opv_move (v := .bool _) rfl) ?_; refine Wo rfl (opv_not rfl) ?_; refine Wo_nil ?_; refine W_cond rfl (fun h4 => ?_) (fun h4 => ?_); refine W_seq ?_; refine W_region rfl ?_
          refine Wo rfl (opv_assign (v := .bool _) rfl) ?_; refine Wo_nil ?_; refine W_ret ?_; refine at_ret (v := .bool _) rfl ?_; refine ⟨congrArg Value.bool ?_, (E1.trans E2)⟩; rotate_left; refine W_skip ?_; refine W_region rfl ?_
          refine Wo rfl (opv_move (v := .int _ _) rfl) ?_; refine Wo rfl (opv_add rfl rfl (by omega)) ?_; refine Wo rfl (opv_assign (v := .int _ _) rfl) ?_; refine Wo_nil ?_; rotate_left
        · have hf0 : f = false := by cases f with
            | false => rfl
            | true => exact absurd (show (!true) = true by assumption) (by decide)
          rw [hall, all_false (show k + 1 ≤ p.length by omega) (hsu.trans hf0)]
        · have hf1 : f = true := by cases f with
            | true => rfl
            | false => exact absurd (show (!false) = false by assumption) (by decide)
          refine ⟨(k + 1), by repeat (first | exact trivial | refine And.intro rfl ?_), by repeat (first | with_reducible exact Same.refl | refine Same.upd rfl ?_ | refine Same.upds rfl ?_ | refine Same.mix rfl ?_), ?_, ?_⟩
          · exact ⟨E1.trans E2, by omega, by rw [hsu, hf1]⟩
          · omega
  · obtain rfl : k = p.length := by omega
    focus
      have szE1 := E1.size; refine W_seq ?_; refine W_seq ?_; refine W_region rfl ?_; refine Wo rfl (opv_move (v := .int _ _) rfl) ?_; refine Wo rfl (opv_move (v := v) rfl) ?_; refine Wo rfl (opv_len Try.underlying30 rfl h) ?_
      refine Wo rfl (opv_lss rfl rfl) ?_; refine Wo_nil ?_; refine W_cond_dec rfl (fun h1 => ?_) (fun h1 => ?_); (exfalso; omega); refine W_exit ?_; refine exitX_same ?_; refine W_seq ?_; refine W_region rfl ?_
      refine Wo rfl (opv_assign (v := .bool _) rfl) ?_; refine Wo_nil ?_; refine W_ret ?_; refine at_ret (v := .bool _) rfl ?_; refine ⟨congrArg Value.bool ?_, E1⟩
    rw [hall, hg]

theorem l3Start_ok (w : World) (n : Nat) (hn : n ≤ 5) : Does Try.prog 69 [.int .i64 (n : Int)] w (RetO w XR (List.replicate n (List.replicate n 1))) := by
  refine fn_of_W1 Try.func69 rfl Try.results69 Try.ntmps69 rfl ?_
  focus
    refine W_seq ?_; refine W_region rfl ?_; refine Wo rfl (opv_assign (v := .slice _ _ _) rfl) ?_; refine Wo_nil ?_; refine W_seq ?_; refine W_region rfl ?_; refine Wo_lit0 (XSl 3 XInt) rfl el30 Try.sizeOf38 ?_
    rintro b1 w1 hb1 b1lt E1 hO1; have hs1 := E1.size; refine Wo rfl (opv_assign (v := .slice _ _ _) rfl) ?_; refine Wo_nil ?_; refine W_seq ?_; refine W_seq ?_; refine W_region rfl ?_; refine Wo rfl (opv_assign (v := .int _ _) rfl) ?_
    refine Wo_nil ?_; refine W_block ?_
  refine W_loop [3, 4, 5, 6, 8, 9, 10, 11, 12, 13, 14, 15, 16, 17, 18, 19, 20, 21, 22, 23, 24, 25] (fun (k, u) => [(4, .int .i64 (k : Nat)), (3, u)]) (fun (k, u) w' => Ext w w' ∧ k ≤ n ∧ Owned w.heap.size XR w' u (List.replicate k (List.replicate n 1))) (fun x => n - x.1) (0, .slice (some ⟨b1, 0, none⟩) 0 0) (by repeat (first | exact trivial | refine And.intro rfl ?_)) ?_ ?_
  · exact ⟨by assumption, Nat.zero_le _, by simpa using hO1⟩
  rintro ⟨k, u⟩ ρj w2 ⟨E2, hk, hO2⟩
  by_cases hkl : k < n
  · focus
      have szE2 := E2.size; have szE1 := E1.size; refine W_seq ?_; refine W_seq ?_; refine W_region rfl ?_; refine Wo rfl (opv_move (v := .int _ _) rfl) ?_; refine Wo rfl (opv_move (v := .int _ _) rfl) ?_
      refine Wo rfl (opv_lss rfl rfl) ?_; refine Wo_nil ?_; refine W_cond_dec rfl (fun h1 => ?_) (fun h1 => ?_); refine W_skip ?_; refine W_seq ?_; refine W_block ?_; refine W_seq ?_; refine W_region rfl ?_
      refine Wo_lit0 XInt rfl el38 Try.sizeOf3 ?_; rintro b2 w3 hb2 b2lt E3 hO3; have hs2 := E3.size; refine Wo rfl (opv_assign (v := .slice _ _ _) rfl) ?_; refine Wo_nil ?_; refine W_seq ?_; refine W_seq ?_; refine W_region rfl ?_
      refine Wo rfl (opv_assign (v := .int _ _) rfl) ?_; refine Wo_nil ?_; refine W_block ?_; rotate_left; (exfalso; omega)
    refine W_loop [5, 6, 14, 15, 16, 17, 18, 19, 20, 21] (fun (j, r) => [(6, .int .i64 (j : Nat)), (5, r)]) (fun (j, r) w' => Ext w w' ∧ w2.heap.size ≤ w'.heap.size ∧ j ≤ n ∧ OwnedB w.heap.size w2.heap.size XR w' u (List.replicate k (List.replicate n 1)) ∧ Owned w2.heap.size XI w' r (List.replicate j 1)) (fun x => n - x.1) (0, .slice (some ⟨b2, 0, none⟩) 0 0) (by repeat (first | exact trivial | refine And.intro rfl ?_)) ?_ ?_
    · exact ⟨E2.trans E3, E3.size, Nat.zero_le _, hO2.toB.ext E3, by simpa using hO3⟩
    rintro ⟨j, r⟩ ρk w4 ⟨E4, hsz4, hj, hB4, hO4⟩
    have hrl : (List.replicate j (1 : Int)).length = j := by simp
    have hrl2 : (List.replicate k (List.replicate n (1 : Int))).length = k := by simp
    by_cases hjl : j < n
    · focus
        have szE4 := E4.size; have szE3 := E3.size; have szE2 := E2.size; have szE1 := E1.size; refine W_seq ?_; refine W_seq ?_; refine W_region rfl ?_; refine Wo rfl (opv_move (v := .int _ _) rfl) ?_
        refine Wo rfl (opv_move (v := .int _ _) rfl) ?_; refine Wo rfl (opv_lss rfl rfl) ?_; refine Wo_nil ?_; refine W_cond_dec rfl (fun h2 => ?_) (fun h2 => ?_); refine W_skip ?_; refine W_seq ?_; refine W_block ?_; refine W_region rfl ?_
        refine Wo rfl (opv_move (v := r) rfl) ?_; refine Wo_buildSlice (ps := [(0, .int _ _)]) (cs := [_]) rfl Try.underlying38 Try.sizeOf3 Try.zeroValue3 rfl rfl rfl rfl ?_; rintro b3 w5 hb3 E5 hB1; have hlb3 := hB1.lt; have hs3 := E5.size
        refine Wo_app1 rfl el38 rfl rfl hB1 (hO4.toB.ext E5) Owned.int (Nat.le_refl _) (by first | omega | (simp <;> omega)) (by omega) (by omega) (E4.trans E5) (by omega) ?_; have hT1 := (hO4.toB.ext E5); rintro v1 w6 hO4 E6 M1
        have hB4 := (hB4.ext E5).moves M1 hT1 (by omega); have hB1 := hB1.moves M1 hT1 (by omega); have hs4 := E6.size; refine Wo rfl (opv_assign (v := v1) rfl) ?_; refine Wo_nil ?_; refine W_region rfl ?_
        refine Wo rfl (opv_move (v := .int _ _) rfl) ?_; refine Wo rfl (opv_add rfl rfl (by omega)) ?_; refine Wo rfl (opv_assign (v := .int _ _) rfl) ?_; refine Wo_nil ?_; rotate_left; (exfalso; omega)
      refine ⟨((j + 1, v1)), by repeat (first | exact trivial | refine And.intro rfl ?_), by repeat (first | with_reducible exact Same.refl | refine Same.upd rfl ?_ | refine Same.upds rfl ?_ | refine Same.mix rfl ?_), ?_, ?_⟩
      · refine ⟨by assumption, by have := M1.1.size; omega, by omega, by assumption, ?_⟩
        rw [List.replicate_succ']; assumption
      · simp only; omega
    · obtain rfl : j = n := by omega
      obtain ⟨rb, rc, rfl, _⟩ := hO4.lit (by simp; omega)
      have hrb := hO4.lt_own (k := rb) rfl
      focus
        have szE4 := E4.size; have szE3 := E3.size; have szE2 := E2.size; have szE1 := E1.size; refine W_seq ?_; refine W_seq ?_; refine W_region rfl ?_; refine Wo rfl (opv_move (v := .int _ _) rfl) ?_
        refine Wo rfl (opv_move (v := .int _ _) rfl) ?_; refine Wo rfl (opv_lss rfl rfl) ?_; refine Wo_nil ?_; refine W_cond_dec rfl (fun h2 => ?_) (fun h2 => ?_); (exfalso; omega); refine W_exit ?_; refine exitX_same ?_
        refine W_region rfl ?_; refine Wo rfl (opv_move (v := u) rfl) ?_; refine Wo rfl (opv_move (v := .slice _ _ _) rfl) ?_
        refine Wo_buildSlice (ps := [(0, .slice _ _ _)]) (cs := [_]) rfl Try.underlying30 Try.sizeOf38 Try.zeroValue38 rfl rfl rfl rfl ?_; rintro b3 w5 hb3 E5 hB1; have hlb3 := hB1.lt; have hs3 := E5.size
        refine Wo_app1 rfl el30 rfl rfl hB1 (hB4.ext E5) (hO4.toB.ext E5).o (by omega) (by first | omega | (simp <;> omega)) (by omega) (by omega) (E4.trans E5) (by omega) ?_; have hT1 := (hB4.ext E5); rintro v1 w6 hB4 E6 M1
        have hO4 := (hO4.toB.ext E5).moves M1 hT1 (by omega); have hB1 := hB1.moves M1 hT1 (by omega); have hs4 := E6.size; refine Wo rfl (opv_assign (v := v1) rfl) ?_; refine Wo_nil ?_; refine W_region rfl ?_
        refine Wo rfl (opv_move (v := .int _ _) rfl) ?_; refine Wo rfl (opv_add rfl rfl (by omega)) ?_; refine Wo rfl (opv_assign (v := .int _ _) rfl) ?_; refine Wo_nil ?_
      refine ⟨((k + 1, v1)), by repeat (first | exact trivial | refine And.intro rfl ?_), by repeat (first | with_reducible exact Same.refl | refine Same.upd rfl ?_ | refine Same.upds rfl ?_ | refine Same.mix rfl ?_), ?_, ?_⟩
      · refine ⟨by assumption, by omega, ?_⟩
        rw [List.replicate_succ']; assumption
      · simp only; omega
  · obtain rfl : k = n := by omega
    focus
      have szE2 := E2.size; have szE1 := E1.size; refine W_seq ?_; refine W_seq ?_; refine W_region rfl ?_; refine Wo rfl (opv_move (v := .int _ _) rfl) ?_; refine Wo rfl (opv_move (v := .int _ _) rfl) ?_
      refine Wo rfl (opv_lss rfl rfl) ?_; refine Wo_nil ?_; refine W_cond_dec rfl (fun h1 => ?_) (fun h1 => ?_); (exfalso; omega); refine W_exit ?_; refine exitX_same ?_; refine W_seq ?_; refine W_region rfl ?_
      refine Wo rfl (opv_move (v := u) rfl) ?_; refine Wo rfl (opv_assign (v := u) rfl) ?_; refine Wo_nil ?_; refine W_ret ?_; exact ⟨E2, hO2.toB.o.mono (by omega)⟩

def rnd (p : List (List Int)) (S : Nat → Nat → Bool) (a b : Nat) : Bool := S a b && (mch p S a b && mch p S b a)
def bits01 (R : Nat → Nat → Bool) (a n : Nat) : List Int := (List.range n).map fun b => b01 (R a b)
theorem bits01_succ (R : Nat → Nat → Bool) (a n : Nat) : bits01 R a (n + 1) = bits01 R a n ++ [b01 (R a n)] := by simp [bits01, List.range_succ]
theorem bits01_len (R : Nat → Nat → Bool) (a n : Nat) : (bits01 R a n).length = n := by simp [bits01]
def mat01 (R : Nat → Nat → Bool) (k n : Nat) : List (List Int) := (List.range k).map fun a => bits01 R a n
theorem mat01_succ (R : Nat → Nat → Bool) (k n : Nat) : mat01 R (k + 1) n = mat01 R k n ++ [bits01 R k n] := by simp [mat01, List.range_succ]
theorem mat01_len (R : Nat → Nat → Bool) (k n : Nat) : (mat01 R k n).length = k := by simp [mat01]
theorem l3Round_ok (w : World) (v v' : Value) (p : List (List Int)) (h : ESl Ints w v p) (hp : Pic p) (S : Nat → Nat → Bool) (h' : ESl Ints w v' (matV p S)) :
    Does Try.prog 70 [v, v'] w (RetO w XR (matV p (rnd p S))) := by
  have hp5 := hp.2.1
  have hle := h.le
  have hml := matV_len (p := p) S
  refine fn_of_W1 Try.func70 rfl Try.results70 Try.ntmps70 rfl ?_
  focus
    refine W_seq ?_; refine W_region rfl ?_; refine Wo rfl (opv_assign (v := .slice _ _ _) rfl) ?_; refine Wo_nil ?_; refine W_seq ?_; refine W_region rfl ?_; refine Wo_lit0 (XSl 3 XInt) rfl el30 Try.sizeOf38 ?_
    rintro b1 w1 hb1 b1lt E1 hO1; have hs1 := E1.size; refine Wo rfl (opv_assign (v := .slice _ _ _) rfl) ?_; refine Wo_nil ?_; refine W_seq ?_; refine W_seq ?_; refine W_region rfl ?_; refine Wo rfl (opv_assign (v := .int _ _) rfl) ?_
    refine Wo_nil ?_; refine W_block ?_
  refine W_loop [5, 6, 7, 8, 9, 11, 12, 13, 14, 15, 16, 17, 18, 19, 20, 21, 22, 23, 24, 25, 26, 27, 28, 29, 30, 31, 32, 33, 34, 35, 36, 37, 38, 39, 40, 41, 42, 43, 44, 45, 46, 47, 48, 49, 50, 51, 52, 53] (fun (k, u) => [(6, .int .i64 (k : Nat)), (5, u)]) (fun (k, u) w' => Ext w w' ∧ k ≤ p.length ∧ Owned w.heap.size XR w' u (mat01 (rnd p S) k p.length)) (fun x => p.length - x.1) (0, .slice (some ⟨b1, 0, none⟩) 0 0) (by repeat (first | exact trivial | refine And.intro rfl ?_)) ?_ ?_
  · exact ⟨by assumption, Nat.zero_le _, by simpa [mat01] using hO1⟩
  rintro ⟨k, u⟩ ρj w2 ⟨E2, hk, hO2⟩
  by_cases hkl : k < p.length
  · focus
      have szE2 := E2.size; have szE1 := E1.size; refine W_seq ?_; refine W_seq ?_; refine W_region rfl ?_; refine Wo rfl (opv_move (v := .int _ _) rfl) ?_; refine Wo rfl (opv_move (v := v) rfl) ?_
      refine Wo rfl (opv_len Try.underlying30 rfl h) ?_; refine Wo rfl (opv_lss rfl rfl) ?_; refine Wo_nil ?_; refine W_cond_dec rfl (fun h1 => ?_) (fun h1 => ?_); refine W_skip ?_; refine W_seq ?_; refine W_block ?_; refine W_seq ?_
      refine W_region rfl ?_; refine Wo_lit0 XInt rfl el38 Try.sizeOf3 ?_; rintro b2 w3 hb2 b2lt E3 hO3; have hs2 := E3.size; refine Wo rfl (opv_assign (v := .slice _ _ _) rfl) ?_; refine Wo_nil ?_; refine W_seq ?_; refine W_seq ?_
      refine W_region rfl ?_; refine Wo rfl (opv_assign (v := .int _ _) rfl) ?_; refine Wo_nil ?_; refine W_block ?_; rotate_left; (exfalso; omega)
    refine W_loop [7, 8, 9, 18, 19, 20, 21, 22, 23, 24, 25, 26, 27, 28, 29, 30, 31, 32, 33, 34, 35, 36, 37, 38, 39, 40, 41, 42, 43, 44, 45, 46, 47, 48, 49] (fun (j, r) => [(8, .int .i64 (j : Nat)), (7, r)]) (fun (j, r) w' => Ext w w' ∧ w2.heap.size ≤ w'.heap.size ∧ j ≤ p.length ∧ OwnedB w.heap.size w2.heap.size XR w' u (mat01 (rnd p S) k p.length) ∧ Owned w2.heap.size XI w' r (bits01 (rnd p S) k j)) (fun x => p.length - x.1) (0, .slice (some ⟨b2, 0, none⟩) 0 0) (by repeat (first | exact trivial | refine And.intro rfl ?_)) ?_ ?_
    · exact ⟨E2.trans E3, E3.size, Nat.zero_le _, hO2.toB.ext E3, by simpa [bits01] using hO3⟩
    rintro ⟨j, r⟩ ρk w4 ⟨E4, hsz4, hj, hB4, hO4⟩
    have hrl := bits01_len (rnd p S) k j
    have hrl2 := mat01_len (rnd p S) k p.length
    by_cases hjl : j < p.length
    · have hmr := matV_rlen (p := p) (S := S) hkl
      have hme := matV_at (p := p) (S := S) hkl hjl
      have hsu := bits01_succ (rnd p S) k j
      have m1 : ∀ (w : World) (v v' : Value), ESl Ints w v p → ESl Ints w v' (matV p S) → Does Try.prog 86 [v, v', .int .i64 (k : Int), .int .i64 (j : Int)] w (Ret w (.bool (mch p S k j))) := fun w v v' h1 h2 => l3Matched_ok w v v' p h1 hp S h2 k j hkl hjl
      have m2 : ∀ (w : World) (v v' : Value), ESl Ints w v p → ESl Ints w v' (matV p S) → Does Try.prog 86 [v, v', .int .i64 (j : Int), .int .i64 (k : Int)] w (Ret w (.bool (mch p S j k))) := fun w v v' h1 h2 => l3Matched_ok w v v' p h1 hp S h2 j k hjl hkl
      have fin : ∀ x : Int, x = b01 (rnd p S k j) → bits01 (rnd p S) k (j + 1) = bits01 (rnd p S) k j ++ [x] := fun x hx => by rw [hx]; exact hsu
      focus
        have szE4 := E4.size; have szE3 := E3.size; have szE2 := E2.size; have szE1 := E1.size; refine W_seq ?_; refine W_seq ?_; refine W_region rfl ?_; refine Wo rfl (opv_move (v := .int _ _) rfl) ?_
        refine Wo rfl (opv_move (v := v) rfl) ?_; refine Wo rfl (opv_len Try.underlying30 rfl h) ?_; refine Wo rfl (opv_lss rfl rfl) ?_; refine Wo_nil ?_; refine W_cond_dec rfl (fun h2 => ?_) (fun h2 => ?_); refine W_skip ?_
        refine W_seq ?_; refine W_block ?_; refine W_seq ?_; refine W_region rfl ?_; refine Wo rfl (opv_assign (v := .int _ _) rfl) ?_; refine Wo_nil ?_; refine W_seq ?_; refine W_seq ?_; refine W_region rfl ?_
        refine Wo rfl (opv_move (v := v') rfl) ?_; refine Wo rfl (opv_move (v := .int _ _) rfl) ?_; refine Wo_get Try.underlying30 Try.sizeOf38 Try.isAgg38 rfl (fun _ => rfl) rfl h' E4 rfl (by first | omega | (simp <;> omega)) ?_
        rintro _ u1 hu1; refine Wo rfl (opv_move (v := .int _ _) rfl) ?_; refine Wo_get Try.underlying38 Try.sizeOf3 Try.isAgg3 rfl (fun _ => rfl) rfl hu1 E4 rfl (by first | omega | (simp <;> omega)) ?_; rintro _ _ rfl
        refine Wo rfl (opv_eql rfl rfl) ?_; refine Wo_split_dec rfl (opv_move (v := .bool _) rfl) (fun h3 => ?_) (fun h3 => ?_); refine Wo rfl (opv_move (v := v) rfl) ?_; refine Wo rfl (opv_move (v := v') rfl) ?_
        refine Wo rfl (opv_move (v := .int _ _) rfl) ?_; refine Wo rfl (opv_move (v := .int _ _) rfl) ?_
        refine Wo_call rfl (opc4 (a := v) (b := v') (c := .int _ _) (d := .int _ _) Try.call86 rfl rfl rfl rfl) (m1 _ _ _ ((Mono.mono E4 h)) ((Mono.mono E4 h'))) ?_; rintro _ w5 ⟨rfl, E5⟩; have hs3 := E5.size
        refine Wo rfl (opv_pick_t (v := .bool _) rfl rfl) ?_; refine Wo_split rfl (opv_move (v := .bool _) rfl) (fun h4 => ?_) (fun h4 => ?_); refine Wo rfl (opv_move (v := v) rfl) ?_; refine Wo rfl (opv_move (v := v') rfl) ?_
        refine Wo rfl (opv_move (v := .int _ _) rfl) ?_; refine Wo rfl (opv_move (v := .int _ _) rfl) ?_
        refine Wo_call rfl (opc4 (a := v) (b := v') (c := .int _ _) (d := .int _ _) Try.call86 rfl rfl rfl rfl) (m2 _ _ _ ((Mono.mono (E4.trans E5) h)) ((Mono.mono (E4.trans E5) h'))) ?_; rintro _ w6 ⟨rfl, E6⟩; have hs4 := E6.size
        refine Wo rfl (opv_pick_t (v := .bool _) rfl rfl) ?_; refine Wo_nil ?_; refine W_cond rfl (fun h5 => ?_) (fun h5 => ?_); refine W_region rfl ?_; refine Wo rfl (opv_assign (v := .int _ _) rfl) ?_; refine Wo_nil ?_
        refine W_region rfl ?_; refine Wo rfl (opv_move (v := r) rfl) ?_; refine Wo rfl (opv_move (v := .int _ _) rfl) ?_
        refine Wo_buildSlice (ps := [(0, .int _ _)]) (cs := [_]) rfl Try.underlying38 Try.sizeOf3 Try.zeroValue3 rfl rfl rfl rfl ?_; rintro b3 w7 hb3 E7 hB1; have hlb3 := hB1.lt; have hs5 := E7.size
        refine Wo_app1 rfl el38 rfl rfl hB1 (hO4.toB.ext ((E5.trans E6).trans E7)) Owned.int (Nat.le_refl _) (by first | omega | (simp <;> omega)) (by omega) (by omega) (((E4.trans E5).trans E6).trans E7) (by omega) ?_
        have hT1 := (hO4.toB.ext ((E5.trans E6).trans E7)); rintro v1 w8 hO4 E8 M1; have hB4 := (hB4.ext ((E5.trans E6).trans E7)).moves M1 hT1 (by omega); have hB1 := hB1.moves M1 hT1 (by omega); have hs6 := E8.size
        refine Wo rfl (opv_assign (v := v1) rfl) ?_; refine Wo_nil ?_; refine W_region rfl ?_; refine Wo rfl (opv_move (v := .int _ _) rfl) ?_; refine Wo rfl (opv_add rfl rfl (by omega)) ?_; refine Wo rfl (opv_assign (v := .int _ _) rfl) ?_
        refine Wo_nil ?_; rotate_left; refine W_skip ?_; refine W_region rfl ?_; refine Wo rfl (opv_move (v := r) rfl) ?_; refine Wo rfl (opv_move (v := .int _ _) rfl) ?_
        refine Wo_buildSlice (ps := [(0, .int _ _)]) (cs := [_]) rfl Try.underlying38 Try.sizeOf3 Try.zeroValue3 rfl rfl rfl rfl ?_; rintro b3 w7 hb3 E7 hB1; have hlb3 := hB1.lt; have hs5 := E7.size
        refine Wo_app1 rfl el38 rfl rfl hB1 (hO4.toB.ext ((E5.trans E6).trans E7)) Owned.int (Nat.le_refl _) (by first | omega | (simp <;> omega)) (by omega) (by omega) (((E4.trans E5).trans E6).trans E7) (by omega) ?_
        have hT1 := (hO4.toB.ext ((E5.trans E6).trans E7)); rintro v1 w8 hO4 E8 M1; have hB4 := (hB4.ext ((E5.trans E6).trans E7)).moves M1 hT1 (by omega); have hB1 := hB1.moves M1 hT1 (by omega); have hs6 := E8.size
        refine Wo rfl (opv_assign (v := v1) rfl) ?_; refine Wo_nil ?_; refine W_region rfl ?_; refine Wo rfl (opv_move (v := .int _ _) rfl) ?_; refine Wo rfl (opv_add rfl rfl (by omega)) ?_; refine Wo rfl (opv_assign (v := .int _ _) rfl) ?_
        refine Wo_nil ?_; rotate_left; refine Wo_skip rfl ?_; refine Wo_skip rfl ?_; refine Wo_skip rfl ?_; refine Wo_skip rfl ?_; refine Wo_skip rfl ?_; refine Wo rfl (opv_pick_f (v := .bool _) rfl rfl) ?_; refine Wo_nil ?_
        refine W_cond_false rfl ?_; refine W_skip ?_; refine W_region rfl ?_; refine Wo rfl (opv_move (v := r) rfl) ?_; refine Wo rfl (opv_move (v := .int _ _) rfl) ?_
        refine Wo_buildSlice (ps := [(0, .int _ _)]) (cs := [_]) rfl Try.underlying38 Try.sizeOf3 Try.zeroValue3 rfl rfl rfl rfl ?_; rintro b3 w6 hb3 E6 hB1; have hlb3 := hB1.lt; have hs4 := E6.size
        refine Wo_app1 rfl el38 rfl rfl hB1 (hO4.toB.ext (E5.trans E6)) Owned.int (Nat.le_refl _) (by first | omega | (simp <;> omega)) (by omega) (by omega) ((E4.trans E5).trans E6) (by omega) ?_; have hT1 := (hO4.toB.ext (E5.trans E6))
        rintro v1 w7 hO4 E7 M1; have hB4 := (hB4.ext (E5.trans E6)).moves M1 hT1 (by omega); have hB1 := hB1.moves M1 hT1 (by omega); have hs5 := E7.size; refine Wo rfl (opv_assign (v := v1) rfl) ?_; refine Wo_nil ?_; refine W_region rfl ?_
        refine Wo rfl (opv_move (v := .int _ _) rfl) ?_; refine Wo rfl (opv_add rfl rfl (by omega)) ?_; refine Wo rfl (opv_assign (v := .int _ _) rfl) ?_; refine Wo_nil ?_; rotate_left; refine Wo_skip rfl ?_; refine Wo_skip rfl ?_
        refine Wo_skip rfl ?_; refine Wo_skip rfl ?_; refine Wo_skip rfl ?_; refine Wo rfl (opv_pick_f (v := .bool _) rfl rfl) ?_; refine Wo rfl (opv_move (v := .bool _) rfl) ?_; refine Wo_skip rfl ?_; refine Wo_skip rfl ?_
        refine Wo_skip rfl ?_; refine Wo_skip rfl ?_; refine Wo_skip rfl ?_; refine Wo rfl (opv_pick_f (v := .bool _) rfl rfl) ?_; refine Wo_nil ?_; refine W_cond_false rfl ?_; refine W_skip ?_; refine W_region rfl ?_
        refine Wo rfl (opv_move (v := r) rfl) ?_; refine Wo rfl (opv_move (v := .int _ _) rfl) ?_; refine Wo_buildSlice (ps := [(0, .int _ _)]) (cs := [_]) rfl Try.underlying38 Try.sizeOf3 Try.zeroValue3 rfl rfl rfl rfl ?_
        rintro b3 w5 hb3 E5 hB1; have hlb3 := hB1.lt; have hs3 := E5.size
        refine Wo_app1 rfl el38 rfl rfl hB1 (hO4.toB.ext E5) Owned.int (Nat.le_refl _) (by first | omega | (simp <;> omega)) (by omega) (by omega) (E4.trans E5) (by omega) ?_; have hT1 := (hO4.toB.ext E5); rintro v1 w6 hO4 E6 M1
        have hB4 := (hB4.ext E5).moves M1 hT1 (by omega); have hB1 := hB1.moves M1 hT1 (by omega); have hs4 := E6.size; refine Wo rfl (opv_assign (v := v1) rfl) ?_; refine Wo_nil ?_; refine W_region rfl ?_
        refine Wo rfl (opv_move (v := .int _ _) rfl) ?_; refine Wo rfl (opv_add rfl rfl (by omega)) ?_; refine Wo rfl (opv_assign (v := .int _ _) rfl) ?_; refine Wo_nil ?_; rotate_left; (exfalso; omega)
      · have hx : (1 : Int) = b01 (rnd p S k j) := by
          unfold rnd
          rw [show S k j = true from b01_one.1 (hme.symm.trans (by assumption)), show mch p S k j = true by assumption, show mch p S j k = true by assumption]; rfl
        refine ⟨((j + 1, v1)), by repeat (first | exact trivial | refine And.intro rfl ?_), by repeat (first | with_reducible exact Same.refl | refine Same.upd rfl ?_ | refine Same.upds rfl ?_ | refine Same.mix rfl ?_), ?_, ?_⟩
        · refine ⟨by assumption, by have := M1.1.size; omega, by omega, by assumption, ?_⟩
          rw [fin _ hx]; assumption
        · simp only; omega
      · have hx : (0 : Int) = b01 (rnd p S k j) := by
          unfold rnd
          rw [show S k j = true from b01_one.1 (hme.symm.trans (by assumption)), show mch p S k j = true by assumption, show mch p S j k = false by assumption]; rfl
        refine ⟨((j + 1, v1)), by repeat (first | exact trivial | refine And.intro rfl ?_), by repeat (first | with_reducible exact Same.refl | refine Same.upd rfl ?_ | refine Same.upds rfl ?_ | refine Same.mix rfl ?_), ?_, ?_⟩
        · refine ⟨by assumption, by have := M1.1.size; omega, by omega, by assumption, ?_⟩
          rw [fin _ hx]; assumption
        · simp only; omega
      · have hx : (0 : Int) = b01 (rnd p S k j) := by
          unfold rnd
          rw [show S k j = true from b01_one.1 (hme.symm.trans (by assumption)), show mch p S k j = false by assumption]; rfl
        refine ⟨((j + 1, v1)), by repeat (first | exact trivial | refine And.intro rfl ?_), by repeat (first | with_reducible exact Same.refl | refine Same.upd rfl ?_ | refine Same.upds rfl ?_ | refine Same.mix rfl ?_), ?_, ?_⟩
        · refine ⟨by assumption, by have := M1.1.size; omega, by omega, by assumption, ?_⟩
          rw [fin _ hx]; assumption
        · simp only; omega
      · have hx : (0 : Int) = b01 (rnd p S k j) := by
          unfold rnd
          have hS : S k j = false := by
            cases hs : S k j with
            | false => rfl
            | true => rw [hs] at hme; exact absurd hme (by assumption)
          rw [hS]; rfl
        refine ⟨((j + 1, v1)), by repeat (first | exact trivial | refine And.intro rfl ?_), by repeat (first | with_reducible exact Same.refl | refine Same.upd rfl ?_ | refine Same.upds rfl ?_ | refine Same.mix rfl ?_), ?_, ?_⟩
        · refine ⟨by assumption, by have := M1.1.size; omega, by omega, by assumption, ?_⟩
          rw [fin _ hx]; assumption
        · simp only; omega
    · obtain rfl : j = p.length := by omega
      obtain ⟨rb, rc, rfl, _⟩ := hO4.lit (by rw [bits01_len]; omega)
      have hrb := hO4.lt_own (k := rb) rfl
      rw [bits01_len] at *
      focus
        have szE4 := E4.size; have szE3 := E3.size; have szE2 := E2.size; have szE1 := E1.size; refine W_seq ?_; refine W_seq ?_; refine W_region rfl ?_; refine Wo rfl (opv_move (v := .int _ _) rfl) ?_
        refine Wo rfl (opv_move (v := v) rfl) ?_; refine Wo rfl (opv_len Try.underlying30 rfl h) ?_; refine Wo rfl (opv_lss rfl rfl) ?_; refine Wo_nil ?_; refine W_cond_dec rfl (fun h2 => ?_) (fun h2 => ?_); (exfalso; omega)
        refine W_exit ?_; refine exitX_same ?_; refine W_region rfl ?_; refine Wo rfl (opv_move (v := u) rfl) ?_; refine Wo rfl (opv_move (v := .slice _ _ _) rfl) ?_
        refine Wo_buildSlice (ps := [(0, .slice _ _ _)]) (cs := [_]) rfl Try.underlying30 Try.sizeOf38 Try.zeroValue38 rfl rfl rfl rfl ?_; rintro b3 w5 hb3 E5 hB1; have hlb3 := hB1.lt; have hs3 := E5.size
        refine Wo_app1 rfl el30 rfl rfl hB1 (hB4.ext E5) (hO4.toB.ext E5).o (by omega) (by first | omega | (simp <;> omega)) (by omega) (by omega) (E4.trans E5) (by omega) ?_; have hT1 := (hB4.ext E5); rintro v1 w6 hB4 E6 M1
        have hO4 := (hO4.toB.ext E5).moves M1 hT1 (by omega); have hB1 := hB1.moves M1 hT1 (by omega); have hs4 := E6.size; refine Wo rfl (opv_assign (v := v1) rfl) ?_; refine Wo_nil ?_; refine W_region rfl ?_
        refine Wo rfl (opv_move (v := .int _ _) rfl) ?_; refine Wo rfl (opv_add rfl rfl (by omega)) ?_; refine Wo rfl (opv_assign (v := .int _ _) rfl) ?_; refine Wo_nil ?_
      refine ⟨((k + 1, v1)), by repeat (first | exact trivial | refine And.intro rfl ?_), by repeat (first | with_reducible exact Same.refl | refine Same.upd rfl ?_ | refine Same.upds rfl ?_ | refine Same.mix rfl ?_), ?_, ?_⟩
      · exact ⟨by assumption, by omega, by rw [mat01_succ]; assumption⟩
      · simp only; omega
  · obtain rfl : k = p.length := by omega
    focus
      have szE2 := E2.size; have szE1 := E1.size; refine W_seq ?_; refine W_seq ?_; refine W_region rfl ?_; refine Wo rfl (opv_move (v := .int _ _) rfl) ?_; refine Wo rfl (opv_move (v := v) rfl) ?_
      refine Wo rfl (opv_len Try.underlying30 rfl h) ?_; refine Wo rfl (opv_lss rfl rfl) ?_; refine Wo_nil ?_; refine W_cond_dec rfl (fun h1 => ?_) (fun h1 => ?_); (exfalso; omega); refine W_exit ?_; refine exitX_same ?_; refine W_seq ?_
      refine W_region rfl ?_; refine Wo rfl (opv_move (v := u) rfl) ?_; refine Wo rfl (opv_assign (v := u) rfl) ?_; refine Wo_nil ?_; refine W_ret ?_; exact ⟨E2, hO2.toB.o.mono (by omega)⟩

end Go.Proofs.Ytjdfnngmbaojjaa
