/- Lemmas for FnJournalText. -/
import Derived.Test.YtgphoihilheoeaaDoorMFnJournalText2
namespace Go.Proofs.YtgphoihilheoeaaDoor
open Go.Hs
set_option maxRecDepth 10000
set_option maxHeartbeats 4000000
set_option linter.unusedVariables false
set_option linter.unusedSimpArgs false

theorem l4Orders_ok (w : World) (n : Nat) (hn : 1 ≤ n ∧ n ≤ 5) : Does Tryd.prog 82 [.int .i64 (n : Int)] w (RetO w XR ((orders n).map ints)) := by
  refine fn_of_W1 Tryd.func82 rfl Tryd.results82 Tryd.ntmps82 rfl ?_
  have keepR : True := trivial
  focus
    refine W_seq ?_; refine W_region rfl ?_; refine Wo rfl (opv_assign (v := .slice _ _ _) rfl) ?_; refine Wo_nil ?_; refine W_seq ?_; refine W_region rfl ?_
    refine Wo_buildSliceH (ps := [(0, .int _ _)]) (cs := [_]) rfl Tryd.underlying80 Tryd.sizeOf3 Tryd.zeroValue3 rfl rfl rfl rfl ?_; rintro b1 w1 hb1 E1 hB1 hHb1; have hlb1 := hB1.lt; have hs1 := E1.size
    refine Wo_buildSliceH (ps := [(0, .slice _ _ _)]) (cs := [_]) rfl Tryd.underlying49 Tryd.sizeOf80 Tryd.zeroValue80 rfl rfl rfl rfl ?_; rintro b2 w2 hb2 E2 hB2 hHb2; have hlb2 := hB2.lt; have hs2 := E2.size
    refine Wo rfl (opv_assign (v := .slice _ _ _) rfl) ?_; refine Wo_nil ?_; refine W_seq ?_; refine W_seq ?_; refine W_region rfl ?_; refine Wo rfl (opv_assign (v := .int _ _) rfl) ?_; refine Wo_nil ?_; refine W_block ?_
  clear keepR
  have hOr : Owned w.heap.size XI w1 (.slice (some ⟨b1, 0, none⟩) 1 1) [0] := Owned.block hHb1 hb1 rfl (by decide) ⟨⟨rfl, rfl⟩, trivial⟩
  have hO0 : Owned w.heap.size XR w2 (.slice (some ⟨b2, 0, none⟩) 1 1) [[0]] := Owned.single (hOr.toB.ext E2) hHb2 (by omega) (by omega)
  clear hOr hHb1 hHb2 hB1 hB2
  refine W_loop [3, 4, 5, 6, 7, 8, 9, 12, 13, 14, 15, 16, 17, 18, 19, 20, 21, 22, 23, 24, 25, 26, 27, 28, 29, 30, 31, 32, 33, 34, 35, 36, 37, 38, 39, 40, 41, 42, 43, 44, 45, 46, 47, 48, 49, 50, 51, 52, 53, 54, 55, 56, 57, 58, 59, 60, 61, 62, 63, 64] (fun ((k, u) : Nat × Value) => [(4, .int .i64 (k : Nat)), (3, u)]) (fun (k, u) w' => Ext w w' ∧ 1 ≤ k ∧ k ≤ n ∧ Owned w.heap.size XR w' u ((ordS n (k - 1)).map ints)) (fun x => n - x.1) (1, .slice (some ⟨b2, 0, none⟩) 1 1) (by repeat (first | exact trivial | refine And.intro rfl ?_)) ?_ ?_
  · exact ⟨by first | assumption | exact E1.trans E2, Nat.le_refl _, hn.1, hO0⟩
  clear hO0
  rintro ⟨k, u⟩ ρj w3 ⟨E3, hk1, hkn, hO1⟩
  by_cases hlt : k < n
  · obtain ⟨D, hD⟩ : ∃ D, D = ordS n (k - 1) := ⟨_, rfl⟩
    have hDl : D.length ≤ 3125 := hD ▸ ordS_len5 hn.2 (by omega)
    have hDo : ∀ o ∈ D, o.length = k := fun o ho => by
      have := ((mem_ordS hn.1 (k - 1) o).1 (hD ▸ ho)).1
      omega
    rw [← hD] at hO1
    have hDm : (D.map ints).length = D.length := by simp
    have hR := hO1.read
    clear hO1
    focus
      have szE3 := E3.size; have szE2 := E2.size; have szE1 := E1.size; refine W_seq ?_; refine W_seq ?_; refine W_region rfl ?_; refine Wo rfl (opv_move (v := .int _ _) rfl) ?_; refine Wo rfl (opv_move (v := .int _ _) rfl) ?_
      refine Wo rfl (opv_lss rfl rfl) ?_; refine Wo_nil ?_; refine W_cond_dec rfl (fun h1 => ?_) (fun h1 => ?_); refine W_skip ?_; refine W_seq ?_; refine W_block ?_; refine W_seq ?_; refine W_region rfl ?_
      refine Wo_lit0 (XSl 3 XInt) rfl el49 Tryd.sizeOf80 ?_; rintro b3 w4 hb3 b3lt E4 hO1; have hs3 := E4.size; refine Wo rfl (opv_assign (v := .slice _ _ _) rfl) ?_; refine Wo_nil ?_; refine W_seq ?_; refine W_seq ?_
      refine W_region rfl ?_; refine Wo rfl (opv_assign (v := .int _ _) rfl) ?_; refine Wo_nil ?_; refine W_block ?_; rotate_left; (exfalso; omega)
    refine W_loop [5, 6, 7, 8, 9, 18, 19, 20, 21, 22, 23, 24, 25, 26, 27, 28, 29, 30, 31, 32, 33, 34, 35, 36, 37, 38, 39, 40, 41, 42, 43, 44, 45, 46, 47, 48, 49, 50, 51, 52, 53, 54, 55, 56, 57, 58, 59, 60, 61, 62, 63] (fun ((i, nx) : Nat × Value) => [(6, .int .i64 (i : Nat)), (5, nx)]) (fun (i, nx) w' => Ext w3 w' ∧ i ≤ D.length ∧ Owned w3.heap.size XR w' nx (((D.take i).flatMap (oxt n)).map ints)) (fun x => D.length - x.1) (0, .slice (some ⟨b3, 0, none⟩) 0 0) (by repeat (first | exact trivial | refine And.intro rfl ?_)) ?_ ?_
    · exact ⟨by assumption, Nat.zero_le _, by simpa using hO1⟩
    clear hO1
    rintro ⟨i, nx⟩ ρk w5 ⟨E5, hi, hO1⟩
    by_cases hil : i < D.length
    · have hgi := iis_get (D := D) (i := i) (by omega)
      have hol := hDo D[i] (List.getElem_mem hil)
      have hil2 := ints_len D[i]
      have hfl : ((D.take i).flatMap (oxt n)).length ≤ 15625 := by
        have := flatMap_len (oxt n) n (D.take i) fun x _ => oxt_len n x
        have h2 : (D.take i).length ≤ 3125 := by simp; omega
        have h3 := Nat.mul_le_mul h2 hn.2
        omega
      focus
        have szE5 := E5.size; have szE4 := E4.size; have szE3 := E3.size; have szE2 := E2.size; have szE1 := E1.size; refine W_seq ?_; refine W_seq ?_; refine W_region rfl ?_; refine Wo rfl (opv_move (v := .int _ _) rfl) ?_
        refine Wo rfl (opv_move (v := u) rfl) ?_; refine Wo rfl (opv_len Tryd.underlying49 rfl hR) ?_; refine Wo rfl (opv_lss rfl rfl) ?_; refine Wo_nil ?_; refine W_cond_dec rfl (fun h2 => ?_) (fun h2 => ?_); refine W_skip ?_
        refine W_seq ?_; refine W_block ?_; refine W_seq ?_; refine W_region rfl ?_; refine Wo rfl (opv_assign (v := .int _ _) rfl) ?_; refine Wo_nil ?_; refine W_block ?_; rotate_left; (exfalso; omega)
      refine W_loop [5, 7, 8, 9, 24, 25, 26, 27, 28, 29, 30, 31, 32, 33, 34, 35, 36, 37, 38, 39, 40, 41, 42, 43, 44, 45, 46, 47, 48, 49, 50, 51, 52, 53, 54, 55, 56, 57, 58, 59, 60, 61, 62, 63] (fun ((x, nx) : Nat × Value) => [(7, .int .i64 (x : Nat)), (5, nx)]) (fun (x, nx) w' => Ext w3 w' ∧ 1 ≤ x ∧ x ≤ n ∧ Owned w3.heap.size XR w' nx (((D.take i).flatMap (oxt n) ++ oxt x D[i]).map ints)) (fun x => n - x.1) (1, nx) (by repeat (first | exact trivial | refine And.intro rfl ?_)) ?_ ?_
      · exact ⟨by assumption, Nat.le_refl _, hn.1, by rw [oxt_one]; simpa using hO1⟩
      clear hO1
      rintro ⟨x, ny⟩ ρl w6 ⟨E6, hx1, hxn, hO1⟩
      have hml : (((D.take i).flatMap (oxt n) ++ oxt x D[i]).map ints).length ≤ 15630 := by
        have := oxt_len x D[i]
        simp only [List.length_map, List.length_append]; omega
      by_cases hxl : x < n
      · focus
          have szE6 := E6.size; have szE5 := E5.size; have szE4 := E4.size; have szE3 := E3.size; have szE2 := E2.size; have szE1 := E1.size; refine W_seq ?_; refine W_seq ?_; refine W_region rfl ?_
          refine Wo rfl (opv_move (v := .int _ _) rfl) ?_; refine Wo rfl (opv_move (v := .int _ _) rfl) ?_; refine Wo rfl (opv_lss rfl rfl) ?_; refine Wo_nil ?_; refine W_cond_dec rfl (fun h3 => ?_) (fun h3 => ?_); refine W_skip ?_
          refine W_seq ?_; refine W_block ?_; refine W_seq ?_; refine W_region rfl ?_; refine Wo rfl (opv_assign (v := .bool _) rfl) ?_; refine Wo_nil ?_; refine W_seq ?_; refine W_seq ?_; refine W_region rfl ?_
          refine Wo rfl (opv_assign (v := .int _ _) rfl) ?_; refine Wo_nil ?_; refine W_block ?_; rotate_left; (exfalso; omega)
        refine W_loop [8, 9, 29, 30, 31, 32, 33, 34, 35, 36, 37, 38, 39, 40, 41, 42, 43, 44, 45, 46, 47, 48, 49] (fun ((j, f) : Nat × Bool) => [(9, .int .i64 (j : Nat)), (8, .bool f)]) (fun (j, f) w' => Ext w6 w' ∧ j ≤ D[i].length ∧ f = (D[i].take j).contains x) (fun y => D[i].length - y.1) (0, false) (by repeat (first | exact trivial | refine And.intro rfl ?_)) ?_ ?_
        · exact ⟨Ext.refl _, Nat.zero_le _, by simp⟩
        rintro ⟨j, f⟩ ρm w7 ⟨E7, hj, hf⟩
        by_cases hjl : j < D[i].length
        · have hgj : (ints D[i])[j]'(by omega) = (D[i][j] : Int) := ints_get hjl
          have hts := take_snoc _ _ hjl
          have hgg : ((D.map ints)[i]'(by omega))[j]'(by rw [hgi]; omega) = (D[i][j] : Int) := by simp only [hgi]; exact hgj
          have hrl : ((D.map ints)[i]'(by omega)).length = D[i].length := by rw [hgi]; exact hil2
          have hct : (D[i].take (j + 1)).contains x = ((D[i].take j).contains x || decide (D[i][j] = x)) := by
            rw [hts, Bool.eq_iff_iff]
            simp only [List.contains_eq_mem, List.mem_append, List.mem_singleton, decide_eq_true_eq, Bool.or_eq_true]
            exact or_congr Iff.rfl ⟨fun h => h.symm, fun h => h.symm⟩
          cases f
          · focus
              have szE7 := E7.size; have szE6 := E6.size; have szE5 := E5.size; have szE4 := E4.size; have szE3 := E3.size; have szE2 := E2.size; have szE1 := E1.size; refine W_seq ?_; refine W_seq ?_; refine W_region rfl ?_
              refine Wo rfl (opv_move (v := .int _ _) rfl) ?_; refine Wo rfl (opv_move (v := u) rfl) ?_; refine Wo rfl (opv_move (v := .int _ _) rfl) ?_
              refine Wo_get Tryd.underlying49 Tryd.sizeOf80 Tryd.isAgg80 rfl (fun _ => rfl) rfl hR (E6.trans E7) rfl (by first | omega | (simp <;> omega)) ?_; rintro _ u1 hu1; refine Wo rfl (opv_len Tryd.underlying80 rfl hu1) ?_
              refine Wo rfl (opv_lss rfl rfl) ?_; refine Wo_nil ?_; refine W_cond_dec rfl (fun h4 => ?_) (fun h4 => ?_); refine W_skip ?_; refine W_seq ?_; refine W_block ?_; refine W_region rfl ?_; refine Wo rfl (opv_move (v := .bool _) rfl) ?_
              refine Wo rfl (opv_move (v := .bool _) rfl) ?_; refine Wo rfl (opv_move (v := u) rfl) ?_; refine Wo rfl (opv_move (v := .int _ _) rfl) ?_
              refine Wo_get Tryd.underlying49 Tryd.sizeOf80 Tryd.isAgg80 rfl (fun _ => rfl) rfl hR (E6.trans E7) rfl (by first | omega | (simp <;> omega)) ?_; rintro _ u2 hu2; refine Wo rfl (opv_move (v := .int _ _) rfl) ?_
              refine Wo_get Tryd.underlying80 Tryd.sizeOf3 Tryd.isAgg3 rfl (fun _ => rfl) rfl hu2 (E6.trans E7) rfl (by first | omega | (simp <;> omega)) ?_; rintro _ _ rfl; refine Wo rfl (opv_move (v := .int _ _) rfl) ?_
              refine Wo rfl (opv_eql rfl rfl) ?_; refine Wo rfl (opv_pick_f (v := .bool _) rfl rfl) ?_; refine Wo rfl (opv_assign (v := .bool _) rfl) ?_; refine Wo_nil ?_; refine W_region rfl ?_; refine Wo rfl (opv_move (v := .int _ _) rfl) ?_
              refine Wo rfl (opv_add rfl rfl (by omega)) ?_; refine Wo rfl (opv_assign (v := .int _ _) rfl) ?_; refine Wo_nil ?_; rotate_left; (exfalso; omega)
            refine ⟨((j + 1, decide (((D.map ints)[i]'(by omega))[j]'(by rw [hgi]; omega) = (x : Int)))), by repeat (first | exact trivial | refine And.intro rfl ?_), by repeat (first | with_reducible exact Same.refl | refine Same.upd rfl ?_ | refine Same.upds rfl ?_ | refine Same.mix rfl ?_), ?_, ?_⟩
            · refine ⟨by exact E7, by omega, ?_⟩
              rw [hct, ← hf, Bool.false_or, decide_eq_decide, hgg]
              omega
            · simp only; omega
          · focus
              have szE7 := E7.size; have szE6 := E6.size; have szE5 := E5.size; have szE4 := E4.size; have szE3 := E3.size; have szE2 := E2.size; have szE1 := E1.size; refine W_seq ?_; refine W_seq ?_; refine W_region rfl ?_
              refine Wo rfl (opv_move (v := .int _ _) rfl) ?_; refine Wo rfl (opv_move (v := u) rfl) ?_; refine Wo rfl (opv_move (v := .int _ _) rfl) ?_
              refine Wo_get Tryd.underlying49 Tryd.sizeOf80 Tryd.isAgg80 rfl (fun _ => rfl) rfl hR (E6.trans E7) rfl (by first | omega | (simp <;> omega)) ?_; rintro _ u1 hu1; refine Wo rfl (opv_len Tryd.underlying80 rfl hu1) ?_
              refine Wo rfl (opv_lss rfl rfl) ?_; refine Wo_nil ?_; refine W_cond_dec rfl (fun h4 => ?_) (fun h4 => ?_); refine W_skip ?_; refine W_seq ?_; refine W_block ?_; refine W_region rfl ?_; refine Wo rfl (opv_move (v := .bool _) rfl) ?_
              refine Wo rfl (opv_move (v := .bool _) rfl) ?_; refine Wo_skip rfl ?_; refine Wo_skip rfl ?_; refine Wo_skip rfl ?_; refine Wo_skip rfl ?_; refine Wo_skip rfl ?_; refine Wo_skip rfl ?_; refine Wo_skip rfl ?_; refine Wo_skip rfl ?_
              refine Wo_skip rfl ?_; refine Wo rfl (opv_pick_t (v := .bool _) rfl rfl) ?_; refine Wo rfl (opv_assign (v := .bool _) rfl) ?_; refine Wo_nil ?_; refine W_region rfl ?_; refine Wo rfl (opv_move (v := .int _ _) rfl) ?_
              refine Wo rfl (opv_add rfl rfl (by omega)) ?_; refine Wo rfl (opv_assign (v := .int _ _) rfl) ?_; refine Wo_nil ?_; rotate_left; (exfalso; omega)
            refine ⟨((j + 1, true)), by repeat (first | exact trivial | refine And.intro rfl ?_), by repeat (first | with_reducible exact Same.refl | refine Same.upd rfl ?_ | refine Same.upds rfl ?_ | refine Same.mix rfl ?_), ?_, ?_⟩
            · refine ⟨by exact E7, by omega, ?_⟩
              rw [hct, ← hf]; rfl
            · simp only; omega
        · obtain rfl : j = D[i].length := by omega
          rw [List.take_length] at hf
          have hrl : ((D.map ints)[i]'(by omega)).length = D[i].length := by rw [hgi]; exact hil2
          cases f
          · focus
              have szE7 := E7.size; have szE6 := E6.size; have szE5 := E5.size; have szE4 := E4.size; have szE3 := E3.size; have szE2 := E2.size; have szE1 := E1.size; refine W_seq ?_; refine W_seq ?_; refine W_region rfl ?_
              refine Wo rfl (opv_move (v := .int _ _) rfl) ?_; refine Wo rfl (opv_move (v := u) rfl) ?_; refine Wo rfl (opv_move (v := .int _ _) rfl) ?_
              refine Wo_get Tryd.underlying49 Tryd.sizeOf80 Tryd.isAgg80 rfl (fun _ => rfl) rfl hR (E6.trans E7) rfl (by first | omega | (simp <;> omega)) ?_; rintro _ u1 hu1; refine Wo rfl (opv_len Tryd.underlying80 rfl hu1) ?_
              refine Wo rfl (opv_lss rfl rfl) ?_; refine Wo_nil ?_; refine W_cond_dec rfl (fun h4 => ?_) (fun h4 => ?_); (exfalso; omega); refine W_exit ?_; refine exitX_same ?_; refine W_seq ?_; refine W_region rfl ?_
              refine Wo rfl (opv_move (v := .bool _) rfl) ?_; refine Wo rfl (opv_not rfl) ?_; refine Wo_nil ?_; refine W_cond rfl (fun h5 => ?_) (fun h5 => ?_); refine W_region rfl ?_; refine Wo rfl (opv_move (v := ny) rfl) ?_
              refine Wo_lit0 XInt rfl el80 Tryd.sizeOf3 ?_; rintro b4 w8 hb4 b4lt E8 hO2; have hs4 := E8.size; refine Wo rfl (opv_move (v := u) rfl) ?_; refine Wo rfl (opv_move (v := .int _ _) rfl) ?_
              refine Wo_get Tryd.underlying49 Tryd.sizeOf80 Tryd.isAgg80 rfl (fun _ => rfl) rfl hR ((E6.trans E7).trans E8) rfl (by first | omega | (simp <;> omega)) ?_; rintro _ u2 hu2
              refine Wo_appS rfl el80 rfl rfl (Mono.mono ((E6.trans E7).trans E8) hu2) hO2.toB (by first | omega | (simp <;> omega)) (by omega) (by omega) (((E3.trans E6).trans E7).trans E8) (by omega) ?_; have hT1 := hO2.toB
              rintro v1 w9 hO2 E9 M1; have E10 := M1.ext hT1 ((E6.trans E7).trans E8) (by omega); have szE10 := E10.size; have E11 := M1.ext hT1 (E7.trans E8) (by omega); have szE11 := E11.size; have E12 := M1.ext hT1 E8 (by omega)
              have szE12 := E12.size; have hO1 := (hO1.toB.ext (E7.trans E8)).moves M1 hT1 (by omega); have hs5 := E9.size; refine Wo rfl (opv_move (v := .int _ _) rfl) ?_
              refine Wo_buildSliceH (ps := [(0, .int _ _)]) (cs := [_]) rfl Tryd.underlying80 Tryd.sizeOf3 Tryd.zeroValue3 rfl rfl rfl rfl ?_; rintro b5 w10 hb5 E13 hB1 hHb5; have hlb5 := hB1.lt; have hs6 := E13.size
              refine Wo_app1 rfl el80 rfl rfl hB1 (hO2.toB.ext E13) Owned.int (Nat.le_refl _) (by first | omega | (simp <;> omega)) (by omega) (by omega) (E9.trans E13) (by omega) ?_; have hT2 := (hO2.toB.ext E13); rintro v2 w11 hO2 E14 M2
              have E15 := M2.ext hT2 (E10.trans E13) (by omega); have szE15 := E15.size; have E16 := M2.ext hT2 (E11.trans E13) (by omega); have szE16 := E16.size; have E17 := M2.ext hT2 (E12.trans E13) (by omega); have szE17 := E17.size
              have hO1 := (hO1.ext E13).moves M2 hT2 (by omega); have hB1 := hB1.moves M2 hT2 (by omega); have hs7 := E14.size; refine Wo_buildSlice1 rfl Tryd.underlying49 Tryd.sizeOf80 Tryd.zeroValue80 rfl (OwnedB.isC hO2.toB) rfl ?_
              rintro b6 w12 hb6 E18 hB2 hHb6; have hlb6 := hB2.lt; have hs8 := E18.size
              refine Wo_app1 rfl el49 rfl rfl hB2 (hO1.ext E18) (hO2.toB.ext E18).o (by omega) (by first | omega | (simp <;> omega)) (by omega) (by omega) (E14.trans E18) (by omega) ?_; have hT3 := (hO1.ext E18); rintro v3 w13 hO1 E19 M3
              have E20 := M3.ext hT3 (E15.trans E18) (by omega); have szE20 := E20.size; have hO2 := (hO2.toB.ext E18).moves M3 hT3 (by omega); have hB1 := (hB1.ext E18).moves M3 hT3 (by omega); have hB2 := hB2.moves M3 hT3 (by omega)
              have hs9 := E19.size; refine Wo rfl (opv_assign (v := v3) rfl) ?_; refine Wo_nil ?_; refine W_region rfl ?_; refine Wo rfl (opv_move (v := .int _ _) rfl) ?_; refine Wo rfl (opv_add rfl rfl (by omega)) ?_
              refine Wo rfl (opv_assign (v := .int _ _) rfl) ?_; refine Wo_nil ?_; rotate_left; contradiction
            refine ⟨((x + 1, v3)), by repeat (first | exact trivial | refine And.intro rfl ?_), by repeat (first | with_reducible exact Same.refl | refine Same.upd rfl ?_ | refine Same.upds rfl ?_ | refine Same.mix rfl ?_), ?_, ?_⟩
            · refine ⟨by exact E20, by omega, by omega, ?_⟩
              rw [oxt_yes hx1 hf.symm, ← List.append_assoc, List.map_append]
              have e : [ints (D[i] ++ [x])] = [[] ++ (D.map ints)[i]'(by omega) ++ [(x : Int)]] := by rw [ints_append, hgi]; rfl
              rw [List.map_cons, List.map_nil, e]
              assumption
            · simp only; omega
          · focus
              have szE7 := E7.size; have szE6 := E6.size; have szE5 := E5.size; have szE4 := E4.size; have szE3 := E3.size; have szE2 := E2.size; have szE1 := E1.size; refine W_seq ?_; refine W_seq ?_; refine W_region rfl ?_
              refine Wo rfl (opv_move (v := .int _ _) rfl) ?_; refine Wo rfl (opv_move (v := u) rfl) ?_; refine Wo rfl (opv_move (v := .int _ _) rfl) ?_
              refine Wo_get Tryd.underlying49 Tryd.sizeOf80 Tryd.isAgg80 rfl (fun _ => rfl) rfl hR (E6.trans E7) rfl (by first | omega | (simp <;> omega)) ?_; rintro _ u1 hu1; refine Wo rfl (opv_len Tryd.underlying80 rfl hu1) ?_
              refine Wo rfl (opv_lss rfl rfl) ?_; refine Wo_nil ?_; refine W_cond_dec rfl (fun h4 => ?_) (fun h4 => ?_); (exfalso; omega); refine W_exit ?_; refine exitX_same ?_; refine W_seq ?_; refine W_region rfl ?_
              refine Wo rfl (opv_move (v := .bool _) rfl) ?_; refine Wo rfl (opv_not rfl) ?_; refine Wo_nil ?_; refine W_cond rfl (fun h5 => ?_) (fun h5 => ?_); contradiction; refine W_skip ?_; refine W_region rfl ?_
              refine Wo rfl (opv_move (v := .int _ _) rfl) ?_; refine Wo rfl (opv_add rfl rfl (by omega)) ?_; refine Wo rfl (opv_assign (v := .int _ _) rfl) ?_; refine Wo_nil ?_
            refine ⟨((x + 1, ny)), by repeat (first | exact trivial | refine And.intro rfl ?_), by repeat (first | with_reducible exact Same.refl | refine Same.upd rfl ?_ | refine Same.upds rfl ?_ | refine Same.mix rfl ?_), ?_, ?_⟩
            · refine ⟨by exact (E6.trans E7), by omega, by omega, ?_⟩
              rw [oxt_no hf.symm]
              exact (Mono.mono E7 hO1)
            · simp only; omega
      · obtain rfl : x = n := by omega
        focus
          have szE6 := E6.size; have szE5 := E5.size; have szE4 := E4.size; have szE3 := E3.size; have szE2 := E2.size; have szE1 := E1.size; refine W_seq ?_; refine W_seq ?_; refine W_region rfl ?_
          refine Wo rfl (opv_move (v := .int _ _) rfl) ?_; refine Wo rfl (opv_move (v := .int _ _) rfl) ?_; refine Wo rfl (opv_lss rfl rfl) ?_; refine Wo_nil ?_; refine W_cond_dec rfl (fun h3 => ?_) (fun h3 => ?_); (exfalso; omega)
          refine W_exit ?_; refine exitX_same ?_; refine W_region rfl ?_; refine Wo rfl (opv_move (v := .int _ _) rfl) ?_; refine Wo rfl (opv_add rfl rfl (by omega)) ?_; refine Wo rfl (opv_assign (v := .int _ _) rfl) ?_; refine Wo_nil ?_
        refine ⟨((i + 1, ny)), by repeat (first | exact trivial | refine And.intro rfl ?_), by repeat (first | with_reducible exact Same.refl | refine Same.upd rfl ?_ | refine Same.upds rfl ?_ | refine Same.mix rfl ?_), ?_, ?_⟩
        · refine ⟨by exact E6, by omega, ?_⟩
          rw [take_snoc _ _ hil, List.flatMap_append, List.flatMap_cons, List.flatMap_nil, List.append_nil]
          exact hO1
        · simp only; omega
    · obtain rfl : i = D.length := by omega
      focus
        have szE5 := E5.size; have szE4 := E4.size; have szE3 := E3.size; have szE2 := E2.size; have szE1 := E1.size; refine W_seq ?_; refine W_seq ?_; refine W_region rfl ?_; refine Wo rfl (opv_move (v := .int _ _) rfl) ?_
        refine Wo rfl (opv_move (v := u) rfl) ?_; refine Wo rfl (opv_len Tryd.underlying49 rfl hR) ?_; refine Wo rfl (opv_lss rfl rfl) ?_; refine Wo_nil ?_; refine W_cond_dec rfl (fun h2 => ?_) (fun h2 => ?_); (exfalso; omega)
        refine W_exit ?_; refine exitX_same ?_; refine W_region rfl ?_; refine Wo rfl (opv_move (v := nx) rfl) ?_; refine Wo rfl (opv_assign (v := nx) rfl) ?_; refine Wo_nil ?_; refine W_region rfl ?_
        refine Wo rfl (opv_move (v := .int _ _) rfl) ?_; refine Wo rfl (opv_add rfl rfl (by omega)) ?_; refine Wo rfl (opv_assign (v := .int _ _) rfl) ?_; refine Wo_nil ?_
      refine ⟨((k + 1, nx)), by repeat (first | exact trivial | refine And.intro rfl ?_), by repeat (first | with_reducible exact Same.refl | refine Same.upd rfl ?_ | refine Same.upds rfl ?_ | refine Same.mix rfl ?_), ?_, ?_⟩
      · refine ⟨by exact (E3.trans E5), by omega, by omega, ?_⟩
        rw [show k + 1 - 1 = (k - 1) + 1 by omega, ordS_succ, ← hD]
        rw [List.take_length] at hO1
        exact hO1.mono (by omega)
      · simp only; omega
  · obtain rfl : k = n := by omega
    focus
      have szE3 := E3.size; have szE2 := E2.size; have szE1 := E1.size; refine W_seq ?_; refine W_seq ?_; refine W_region rfl ?_; refine Wo rfl (opv_move (v := .int _ _) rfl) ?_; refine Wo rfl (opv_move (v := .int _ _) rfl) ?_
      refine Wo rfl (opv_lss rfl rfl) ?_; refine Wo_nil ?_; refine W_cond_dec rfl (fun h1 => ?_) (fun h1 => ?_); (exfalso; omega); refine W_exit ?_; refine exitX_same ?_; refine W_seq ?_; refine W_region rfl ?_
      refine Wo rfl (opv_move (v := u) rfl) ?_; refine Wo rfl (opv_assign (v := u) rfl) ?_; refine Wo_nil ?_; refine W_ret ?_; exact ⟨E3, hO1.toB.o.mono (by omega)⟩

theorem Reordered_ok (w : World) (v u : Value) (c : List (List Int)) (o : List Nat) (h : ESl Ints w v c) (hu : Ints w u (ints o)) (hc : Pic c) (ho : Ord c.length o) :
    Does Tryd.prog 83 [v, u] w (RetO w XR (reo c o)) := by
  have hp5 := hc.2.1
  have hle := h.le
  obtain ⟨hol, hnd, hhd, hlt⟩ := id ho
  have hil := ints_len o
  have k1 : ∀ (w : World) (v : Value), ESl Ints w v c → Does Tryd.prog 70 [v] w (Ret w (.bool true)) := fun w v h => by
    have := PictureOk_ok w v c h
    rw [decide_eq_true hc] at this; exact this
  have h2 := pow_le5 (k := c.length) (by omega)
  have h1p : ∀ j, j < c.length → 1 <<< j < 2 ^ c.length := fun j hj => by rw [Nat.one_shiftLeft]; exact Nat.pow_lt_pow_right (by omega) hj
  have h1b : ∀ j k, (1 <<< j).testBit k = decide (j = k) := fun j k => by rw [Nat.one_shiftLeft, Nat.testBit_two_pow]
  have hsh : ((1 <<< c.length : Nat) : Int) = ((2 ^ c.length : Nat) : Int) := by rw [Nat.one_shiftLeft]
  have hgo : ∀ (k : Nat) (hk : k < o.length), (ints o)[k]'(by omega) = (o[k] : Int) := fun k hk => ints_get hk
  refine fn_of_W1 Tryd.func83 rfl Tryd.results83 Tryd.ntmps83 rfl ?_
  focus
    refine W_seq ?_; refine W_region rfl ?_; refine Wo rfl (opv_assign (v := .slice _ _ _) rfl) ?_; refine Wo_nil ?_; refine W_seq ?_; refine W_region rfl ?_; refine Wo_lit0 (XSl 3 XInt) rfl el49 Tryd.sizeOf80 ?_
    rintro b1 w1 hb1 b1lt E1 hO1; have hs1 := E1.size; refine Wo rfl (opv_assign (v := .slice _ _ _) rfl) ?_; refine Wo_nil ?_; refine W_seq ?_; refine W_seq ?_; refine W_region rfl ?_; refine Wo rfl (opv_move (v := v) rfl) ?_
    refine Wo_call rfl (opc1 (a := v) Tryd.call70 rfl) (k1 _ _ ((Mono.mono E1 h))) ?_; rintro _ w2 ⟨rfl, E2⟩; have hs2 := E2.size; refine Wo rfl (opv_not rfl) ?_
    refine Wo_split rfl (opv_move (v := .bool _) rfl) (fun h1 => ?_) (fun h1 => ?_); contradiction; refine Wo rfl (opv_move (v := u) rfl) ?_; refine Wo rfl (opv_len Tryd.underlying80 rfl hu) ?_; refine Wo rfl (opv_move (v := v) rfl) ?_
    refine Wo rfl (opv_len Tryd.underlying49 rfl h) ?_; refine Wo rfl (opv_neq rfl rfl) ?_; refine Wo rfl (opv_pick_f (v := .bool _) rfl rfl) ?_; refine Wo_nil ?_; refine W_cond_ndec rfl (fun h3 => ?_) (fun h3 => ?_); (exfalso; omega)
    refine W_skip ?_; refine W_seq ?_; refine W_region rfl ?_; refine Wo rfl (opv_assign (v := .int _ _) rfl) ?_; refine Wo_nil ?_; refine W_seq ?_; refine W_seq ?_; refine W_region rfl ?_
    refine Wo rfl (opv_assign (v := .int _ _) rfl) ?_; refine Wo_nil ?_; refine W_block ?_
  refine W_loop [4, 6, 7, 23, 24, 25, 26, 27, 28, 29, 30, 31, 32, 33, 34, 35, 36, 37, 38, 39, 40, 41, 42, 43, 44, 45] (fun ((k, M) : Nat × Nat) => [(7, .int .i64 (k : Nat)), (6, .int .i64 (M : Nat))]) (fun (k, M) w' => Ext w2 w' ∧ k ≤ c.length ∧ M < 2 ^ c.length ∧ ∀ j, M.testBit j = (o.take k).contains j) (fun x => c.length - x.1) (0, 0) (by repeat (first | exact trivial | refine And.intro rfl ?_)) ?_ ?_
  · exact ⟨Ext.refl _, Nat.zero_le _, Nat.two_pow_pos _, fun j => by simp⟩
  rintro ⟨k, M⟩ ρj w3 ⟨E3, hk, hM, hB⟩
  by_cases hkl : k < c.length
  · have hok := hlt o[k] (List.getElem_mem (by omega))
    have hgk := hgo k (by omega)
    have hsl := shl_le (g := 1) (k := o[k]) (by omega) (by omega)
    have hts := take_snoc o k (by omega)
    have hsl2 : (1 : Int).toNat <<< ((ints o)[k]'(by omega)).toNat ≤ 4096 := by simp only [hgk, Int.toNat_natCast]; exact Nat.le_trans hsl (by omega)
    focus
      have szE3 := E3.size; have szE2 := E2.size; have szE1 := E1.size; refine W_seq ?_; refine W_seq ?_; refine W_region rfl ?_; refine Wo rfl (opv_move (v := .int _ _) rfl) ?_; refine Wo rfl (opv_move (v := u) rfl) ?_
      refine Wo rfl (opv_len Tryd.underlying80 rfl hu) ?_; refine Wo rfl (opv_lss rfl rfl) ?_; refine Wo_nil ?_; refine W_cond_dec rfl (fun h4 => ?_) (fun h4 => ?_); refine W_skip ?_; refine W_seq ?_; refine W_block ?_; refine W_seq ?_
      refine W_seq ?_; refine W_region rfl ?_; refine Wo rfl (opv_move (v := u) rfl) ?_; refine Wo rfl (opv_move (v := .int _ _) rfl) ?_
      refine Wo_get Tryd.underlying80 Tryd.sizeOf3 Tryd.isAgg3 rfl (fun _ => rfl) rfl hu ((E1.trans E2).trans E3) rfl (by first | omega | (simp <;> omega)) ?_; rintro _ _ rfl; refine Wo rfl (opv_move (v := v) rfl) ?_
      refine Wo rfl (opv_len Tryd.underlying49 rfl h) ?_; refine Wo rfl (opv_sub rfl rfl (by omega)) ?_; refine Wo_call rfl (opc3 (a := .int _ _) (b := .int _ _) (c := .int _ _) Tryd.call42 rfl rfl rfl) (l1In_ok _ _ _ _) ?_
      rintro _ w4 ⟨rfl, E4⟩; have hs3 := E4.size; refine Wo rfl (opv_not rfl) ?_; refine Wo_nil ?_; refine W_cond_ndec rfl (fun h5 => ?_) (fun h5 => ?_); (exfalso; omega); refine W_skip ?_; refine W_region rfl ?_
      refine Wo rfl (opv_move (v := .int _ _) rfl) ?_; refine Wo rfl (opv_move (v := u) rfl) ?_; refine Wo rfl (opv_move (v := .int _ _) rfl) ?_
      refine Wo_get Tryd.underlying80 Tryd.sizeOf3 Tryd.isAgg3 rfl (fun _ => rfl) rfl hu (((E1.trans E2).trans E3).trans E4) rfl (by first | omega | (simp <;> omega)) ?_; rintro _ _ rfl; refine Wo rfl (opv_shl rfl rfl (by omega)) ?_
      refine Wo rfl (opv_or rfl rfl ⟨Int.natCast_nonneg _, by omega, Int.natCast_nonneg _, Int.le_trans (Int.ofNat_le.2 (show _ ≤ 4096 by assumption)) (by decide)⟩) ?_; refine Wo rfl (opv_assign (v := .int _ _) rfl) ?_; refine Wo_nil ?_
      refine W_region rfl ?_; refine Wo rfl (opv_move (v := .int _ _) rfl) ?_; refine Wo rfl (opv_add rfl rfl (by omega)) ?_; refine Wo rfl (opv_assign (v := .int _ _) rfl) ?_; refine Wo_nil ?_; rotate_left; (exfalso; omega)
    refine ⟨((k + 1, (M : Int).toNat ||| (((1 : Int).toNat <<< ((ints o)[k]'(by omega)).toNat : Nat) : Int).toNat)), by repeat (first | exact trivial | refine And.intro rfl ?_), by repeat (first | with_reducible exact Same.refl | refine Same.upd rfl ?_ | refine Same.upds rfl ?_ | refine Same.mix rfl ?_), ?_, ?_⟩
    · have e : (M : Int).toNat ||| (((1 : Int).toNat <<< ((ints o)[k]'(by omega)).toNat : Nat) : Int).toNat = M ||| 1 <<< o[k] := by simp only [hgk, Int.toNat_natCast]; rfl
      rw [e]
      refine ⟨by exact (E3.trans E4), by omega, Nat.or_lt_two_pow hM (h1p _ hok), fun j => ?_⟩
      rw [Nat.testBit_or, hB, h1b, hts, Bool.eq_iff_iff]
      simp only [List.contains_eq_mem, List.mem_append, List.mem_singleton, decide_eq_true_eq, Bool.or_eq_true]
      exact or_congr Iff.rfl ⟨fun h => h.symm, fun h => h.symm⟩
    · simp only; omega
  · obtain rfl : k = c.length := by omega
    have hMe : M = 2 ^ c.length - 1 := by
      apply Nat.eq_of_testBit_eq
      intro j
      rw [hB, Nat.testBit_two_pow_sub_one, List.take_of_length_le (by omega), List.contains_eq_mem, decide_eq_decide, ho.perm.mem_iff, List.mem_range]
    have hs1 : (((1 : Int).toNat <<< ((c.length : Nat) : Int).toNat : Nat) : Int) = ((2 ^ c.length : Nat) : Int) := by rw [Int.toNat_natCast, show (1 : Int).toNat = 1 from rfl, Nat.one_shiftLeft]
    have hs2 := Nat.one_le_two_pow (n := c.length)
    have hrl := reo_len (c := c) (o := o)
    focus
      have szE3 := E3.size; have szE2 := E2.size; have szE1 := E1.size; refine W_seq ?_; refine W_seq ?_; refine W_region rfl ?_; refine Wo rfl (opv_move (v := .int _ _) rfl) ?_; refine Wo rfl (opv_move (v := u) rfl) ?_
      refine Wo rfl (opv_len Tryd.underlying80 rfl hu) ?_; refine Wo rfl (opv_lss rfl rfl) ?_; refine Wo_nil ?_; refine W_cond_dec rfl (fun h4 => ?_) (fun h4 => ?_); (exfalso; omega); refine W_exit ?_; refine exitX_same ?_
      refine W_seq ?_; refine W_seq ?_; refine W_region rfl ?_; refine Wo rfl (opv_move (v := .int _ _) rfl) ?_; refine Wo rfl (opv_move (v := v) rfl) ?_; refine Wo rfl (opv_len Tryd.underlying49 rfl h) ?_
      refine Wo rfl (opv_shl rfl rfl (by omega)) ?_; refine Wo rfl (opv_sub rfl rfl (by omega)) ?_; refine Wo rfl (opv_neq rfl rfl) ?_; refine Wo_nil ?_; refine W_cond_ndec rfl (fun h5 => ?_) (fun h5 => ?_); (exfalso; omega)
      refine W_skip ?_; refine W_seq ?_; refine W_seq ?_; refine W_region rfl ?_; refine Wo rfl (opv_assign (v := .int _ _) rfl) ?_; refine Wo_nil ?_; refine W_block ?_
    refine W_loop [5, 8, 9, 10, 53, 54, 55, 56, 57, 58, 59, 60, 61, 62, 63, 64, 65, 66, 67, 68, 69, 70, 71, 72, 73, 74, 75, 76, 77, 78, 79, 80, 81, 82, 83, 84, 85] (fun ((k, x) : Nat × Value) => [(8, .int .i64 (k : Nat)), (5, x)]) (fun (k, x) w' => Ext w w' ∧ k ≤ c.length ∧ Owned w.heap.size XR w' x ((reo c o).take k)) (fun x => c.length - x.1) (0, .slice (some ⟨b1, 0, none⟩) 0 0) (by repeat (first | exact trivial | refine And.intro rfl ?_)) ?_ ?_
    · exact ⟨by exact ((E1.trans E2).trans E3), Nat.zero_le _, by rw [List.take_zero]; exact (Mono.mono (E2.trans E3) hO1)⟩
    clear hO1
    rintro ⟨k, x⟩ ρk w4 ⟨E4, hk, hO1⟩
    by_cases hkl : k < c.length
    · have hok := hlt o[k] (List.getElem_mem (by omega))
      have hgk := hgo k (by omega)
      have hrow := hc.row (i := o[k]) (by omega)
      have hck : (c[((ints o)[k]'(by omega)).toNat]'(by simp only [hgk, Int.toNat_natCast]; omega)).length = c.length := by simp only [hgk, Int.toNat_natCast]; exact hrow
      have htl : ((reo c o).take k).length = k := by simp; omega
      focus
        have szE4 := E4.size; have szE3 := E3.size; have szE2 := E2.size; have szE1 := E1.size; refine W_seq ?_; refine W_seq ?_; refine W_region rfl ?_; refine Wo rfl (opv_move (v := .int _ _) rfl) ?_
        refine Wo rfl (opv_move (v := u) rfl) ?_; refine Wo rfl (opv_len Tryd.underlying80 rfl hu) ?_; refine Wo rfl (opv_lss rfl rfl) ?_; refine Wo_nil ?_; refine W_cond_dec rfl (fun h6 => ?_) (fun h6 => ?_); refine W_skip ?_
        refine W_seq ?_; refine W_block ?_; refine W_seq ?_; refine W_region rfl ?_; refine Wo_lit0 XInt rfl el80 Tryd.sizeOf3 ?_; rintro b2 w5 hb2 b2lt E5 hO2; have hs3 := E5.size; refine Wo rfl (opv_assign (v := .slice _ _ _) rfl) ?_
        refine Wo_nil ?_; refine W_seq ?_; refine W_seq ?_; refine W_region rfl ?_; refine Wo rfl (opv_assign (v := .int _ _) rfl) ?_; refine Wo_nil ?_; refine W_block ?_; rotate_left; (exfalso; omega)
      refine W_loop [9, 10, 60, 61, 62, 63, 64, 65, 66, 67, 68, 69, 70, 71, 72, 73, 74, 75, 76, 77, 78, 79, 80, 81] (fun ((j, r) : Nat × Value) => [(10, .int .i64 (j : Nat)), (9, r)]) (fun (j, r) w' => Ext w w' ∧ w4.heap.size ≤ w'.heap.size ∧ j ≤ c.length ∧ OwnedB w.heap.size w4.heap.size XR w' x ((reo c o).take k) ∧ Owned w4.heap.size XI w' r ((o.map fun m => bit c o[k] m).take j)) (fun x => c.length - x.1) (0, .slice (some ⟨b2, 0, none⟩) 0 0) (by repeat (first | exact trivial | refine And.intro rfl ?_)) ?_ ?_
      · exact ⟨by exact (E4.trans E5), by omega, Nat.zero_le _, hO1.toB.ext (by exact E5), by simpa using hO2⟩
      clear hO1 hO2
      rintro ⟨j, r⟩ ρl w6 ⟨E6, hs6, hj, hO1, hO2⟩
      have hml : (o.map fun m => bit c o[k] m).length = c.length := by simp; omega
      have htl2 : ((o.map fun m => bit c o[k] m).take j).length = j := by simp; omega
      by_cases hjl : j < c.length
      · have hoj := hlt o[j] (List.getElem_mem (by omega))
        have hgj := hgo j (by omega)
        have hel : (c[((ints o)[k]'(by omega)).toNat]'(by simp only [hgk, Int.toNat_natCast]; omega))[((ints o)[j]'(by omega)).toNat]'(by rw [hck]; simp only [hgj, Int.toNat_natCast]; omega) = bit c o[k] o[j] := by
          simp only [hgk, hgj, Int.toNat_natCast]
          unfold bit
          rw [getD_lt hok, getD_lt (show o[j] < c[o[k]].length by rw [hrow]; exact hoj)]
        have heldS : w = w := rfl
        focus
          have szE6 := E6.size; have szE5 := E5.size; have szE4 := E4.size; have szE3 := E3.size; have szE2 := E2.size; have szE1 := E1.size; refine W_seq ?_; refine W_seq ?_; refine W_region rfl ?_
          refine Wo rfl (opv_move (v := .int _ _) rfl) ?_; refine Wo rfl (opv_move (v := u) rfl) ?_; refine Wo rfl (opv_len Tryd.underlying80 rfl hu) ?_; refine Wo rfl (opv_lss rfl rfl) ?_; refine Wo_nil ?_
          refine W_cond_dec rfl (fun h7 => ?_) (fun h7 => ?_); refine W_skip ?_; refine W_seq ?_; refine W_block ?_; refine W_held (fun w' => Ext w w') mixed rfl (by kernel_rfl) ?_; intro w7 E7 K1 hz1; have hs4 := E7.size
          refine Wh_take 0 rfl (by kernel_rfl) (by kernel_rfl) rfl (fun _ _ => opv_move (v := r) rfl) (E6.trans E7) ?_; refine Wh_take 1 rfl (by kernel_rfl) (by kernel_rfl) rfl (fun _ _ => opv_move (v := v) rfl) (E6.trans E7) ?_
          refine Wh_take 2 rfl (by kernel_rfl) (by kernel_rfl) rfl (fun _ _ => opv_move (v := u) rfl) (E6.trans E7) ?_; refine Wh_take 3 rfl (by kernel_rfl) (by kernel_rfl) rfl (fun _ _ => opv_move (v := .int _ _) rfl) (E6.trans E7) ?_
          refine Wh_get 4 5 rfl (by kernel_rfl) (by kernel_rfl) rfl rfl (by kernel_rfl) (by kernel_rfl) (fun _ => rfl) Tryd.underlying80 Tryd.sizeOf3 Tryd.isAgg3 rfl hu (fun w' hw' => Ext.trans (Ext.refl _) hw') rfl (by first | omega | (simp <;> omega)) (E6.trans E7) ?_
          rintro _ _ rfl
          refine Wh_get_z 6 7 rfl (by kernel_rfl) (by kernel_rfl) rfl rfl (by kernel_rfl) (by kernel_rfl) (fun _ => rfl) Tryd.underlying49 Tryd.sizeOf80 Tryd.isAgg80 rfl h (fun w' hw' => Ext.trans (Ext.refl _) hw') rfl (by first | omega | (simp <;> omega)) (E6.trans E7) ?_
          rintro _ u1 hu1; refine Wh_take 8 rfl (by kernel_rfl) (by kernel_rfl) rfl (fun _ _ => opv_move (v := u) rfl) (E6.trans E7) ?_
          refine Wh_take 9 rfl (by kernel_rfl) (by kernel_rfl) rfl (fun _ _ => opv_move (v := .int _ _) rfl) (E6.trans E7) ?_
          refine Wh_get 10 11 rfl (by kernel_rfl) (by kernel_rfl) rfl rfl (by kernel_rfl) (by kernel_rfl) (fun _ => rfl) Tryd.underlying80 Tryd.sizeOf3 Tryd.isAgg3 rfl hu (fun w' hw' => Ext.trans (Ext.refl _) hw') rfl (by first | omega | (simp <;> omega)) (E6.trans E7) ?_
          rintro _ _ rfl
          refine Wh_get_z 12 13 rfl (by kernel_rfl) (by kernel_rfl) rfl rfl (by kernel_rfl) (by kernel_rfl) (fun _ => rfl) Tryd.underlying80 Tryd.sizeOf3 Tryd.isAgg3 rfl hu1 (fun w' hw' => Ext.trans (Ext.refl _) hw') rfl (by first | omega | (simp <;> omega)) (E6.trans E7) ?_
          rintro _ _ rfl; refine Wh_all (rs := [14]) (by kernel_rfl) rfl ?_; refine WhAll_cons rfl ?_ ?_; refine Wo_buildSliceH (ps := [(0, .int _ _)]) (cs := [_]) rfl Tryd.underlying80 Tryd.sizeOf3 Tryd.zeroValue3 rfl rfl rfl rfl ?_
          rintro b3 w8 hb3 E8 hB1 hHb3; have hlb3 := hB1.lt; have hs5 := E8.size; refine Wo_nil ?_; refine ⟨((E6.trans E7).trans E8), ?_⟩; refine Wh_all (rs := [15]) (by kernel_rfl) rfl ?_; refine WhAll_cons rfl ?_ ?_
          refine Wo_app1 rfl el80 rfl rfl hB1 (hO2.toB.ext (E7.trans E8)) Owned.int (Nat.le_refl _) (by first | omega | (simp <;> omega)) (by omega) (by omega) ((E6.trans E7).trans E8) (by omega) ?_; have hT1 := (hO2.toB.ext (E7.trans E8))
          rintro v1 w9 hO2 E9 M1; have hO1 := (hO1.ext (E7.trans E8)).moves M1 hT1 (by omega); have hB1 := hB1.moves M1 hT1 (by omega); have hs7 := E9.size; refine Wo_nil ?_; refine ⟨E9, ?_⟩
          refine Wh_take 16 rfl (by kernel_rfl) (by kernel_rfl) rfl (fun _ _ => opv_assign (v := v1) rfl) E9 ?_; refine Wh_done (by kernel_rfl) ?_; refine W_region rfl ?_; refine Wo rfl (opv_move (v := .int _ _) rfl) ?_
          refine Wo rfl (opv_add rfl rfl (by omega)) ?_; refine Wo rfl (opv_assign (v := .int _ _) rfl) ?_; refine Wo_nil ?_; rotate_left; exact WhAll_nil; exact WhAll_nil; (exfalso; omega)
        refine ⟨((j + 1, v1)), by repeat (first | exact trivial | refine And.intro rfl ?_), by repeat (first | with_reducible exact Same.refl | refine Same.upd rfl ?_ | refine Same.upds rfl ?_ | refine Same.mix rfl ?_), ?_, ?_⟩
        · refine ⟨by exact E9, by have := M1.1.size; omega, by omega, by exact hO1, ?_⟩
          rw [take_snoc _ _ (by omega)]
          have e : (o.map fun m => bit c o[k] m)[j]'(by omega) = bit c o[k] o[j] := by simp
          rw [e, ← hel]
          assumption
        · simp only; omega
      · obtain rfl : j = c.length := by omega
        obtain ⟨rb, rc, rfl, _⟩ := hO2.lit (by omega)
        have hrb := hO2.lt_own (k := rb) rfl
        focus
          have szE6 := E6.size; have szE5 := E5.size; have szE4 := E4.size; have szE3 := E3.size; have szE2 := E2.size; have szE1 := E1.size; refine W_seq ?_; refine W_seq ?_; refine W_region rfl ?_
          refine Wo rfl (opv_move (v := .int _ _) rfl) ?_; refine Wo rfl (opv_move (v := u) rfl) ?_; refine Wo rfl (opv_len Tryd.underlying80 rfl hu) ?_; refine Wo rfl (opv_lss rfl rfl) ?_; refine Wo_nil ?_
          refine W_cond_dec rfl (fun h7 => ?_) (fun h7 => ?_); contradiction; refine W_exit ?_; refine exitX_same ?_; refine W_region rfl ?_; refine Wo rfl (opv_move (v := x) rfl) ?_; refine Wo rfl (opv_move (v := .slice _ _ _) rfl) ?_
          refine Wo_buildSlice (ps := [(0, .slice _ _ _)]) (cs := [_]) rfl Tryd.underlying49 Tryd.sizeOf80 Tryd.zeroValue80 rfl rfl rfl rfl ?_; rintro b3 w7 hb3 E7 hB1; have hlb3 := hB1.lt; have hs4 := E7.size
          refine Wo_app1 rfl el49 rfl rfl hB1 (hO1.ext E7) (hO2.toB.ext E7).o (by omega) (by first | omega | (simp <;> omega)) (by omega) (by omega) (E6.trans E7) (by omega) ?_; have hT1 := (hO1.ext E7); rintro v1 w8 hO1 E8 M1
          have hO2 := (hO2.toB.ext E7).moves M1 hT1 (by omega); have hB1 := hB1.moves M1 hT1 (by omega); have hs5 := E8.size; refine Wo rfl (opv_assign (v := v1) rfl) ?_; refine Wo_nil ?_; refine W_region rfl ?_
          refine Wo rfl (opv_move (v := .int _ _) rfl) ?_; refine Wo rfl (opv_add rfl rfl (by omega)) ?_; refine Wo rfl (opv_assign (v := .int _ _) rfl) ?_; refine Wo_nil ?_
        refine ⟨((k + 1, v1)), by repeat (first | exact trivial | refine And.intro rfl ?_), by repeat (first | with_reducible exact Same.refl | refine Same.upd rfl ?_ | refine Same.upds rfl ?_ | refine Same.mix rfl ?_), ?_, ?_⟩
        · refine ⟨by exact E8, by omega, ?_⟩
          rw [take_snoc _ _ (by omega)]
          have e : (reo c o)[k]'(by omega) = (o.map fun m => bit c o[k] m).take c.length := by rw [List.take_of_length_le (by omega)]; simp [reo]
          rw [e]
          assumption
        · simp only; omega
    · obtain rfl : k = c.length := by omega
      focus
        have szE4 := E4.size; have szE3 := E3.size; have szE2 := E2.size; have szE1 := E1.size; refine W_seq ?_; refine W_seq ?_; refine W_region rfl ?_; refine Wo rfl (opv_move (v := .int _ _) rfl) ?_
        refine Wo rfl (opv_move (v := u) rfl) ?_; refine Wo rfl (opv_len Tryd.underlying80 rfl hu) ?_; refine Wo rfl (opv_lss rfl rfl) ?_; refine Wo_nil ?_; refine W_cond_dec rfl (fun h6 => ?_) (fun h6 => ?_); contradiction
        refine W_exit ?_; refine exitX_same ?_; refine W_seq ?_; refine W_region rfl ?_; refine Wo rfl (opv_move (v := x) rfl) ?_; refine Wo rfl (opv_assign (v := x) rfl) ?_; refine Wo_nil ?_; refine W_ret ?_
        refine ⟨E4, (congrArg (Owned _ _ _ _) ?_).mp (hO1.toB.o.mono (by omega))⟩
      rw [List.take_of_length_le (by omega)]

theorem LeastOf_ok (w : World) (v : Value) (p : List (List Int)) (h : ESl Ints w v p) (z : Int) : Does Tryd.prog 60 [v, .int .i64 z] w (RetO w XR (if Nod p z then lst p z.toNat else [])) := by
  have hle := h.le
  have k1 : ∀ (w : World) (v : Value), ESl Ints w v p → Does Tryd.prog 81 [v, .int .i64 z] w (RetDX w XR (fun c => (Nod p z → Cand p z.toNat c) ∧ (¬ Nod p z → c = []))) := fun w v h => JoinedOf_ok w v p h z
  refine fn_of_W1 Tryd.func60 rfl Tryd.results60 Tryd.ntmps60 rfl ?_
  have stop2 : True := trivial
  focus
    refine W_seq ?_; refine W_region rfl ?_; refine Wo rfl (opv_assign (v := .slice _ _ _) rfl) ?_; refine Wo_nil ?_; refine W_seq ?_; refine W_region rfl ?_; refine Wo rfl (opv_move (v := v) rfl) ?_
    refine Wo rfl (opv_move (v := .int _ _) rfl) ?_; refine Wo_call rfl (opc2 (a := v) (b := .int _ _) Tryd.call81 rfl rfl) (k1 _ _ (h)) ?_; rintro u1 w1 ⟨x1, E1, hO1, hy1⟩; have hs1 := E1.size
    refine Wo rfl (opv_assign (v := u1) rfl) ?_; refine Wo_nil ?_; refine W_seq ?_; refine W_seq ?_
  clear stop2
  by_cases hz : Nod p z
  · rw [if_pos hz]
    have hC := hy1.1 hz
    obtain ⟨hp, hz0, hz1⟩ := id hz
    have hi : z.toNat < p.length := by omega
    have hcg := hC.gr hp.gr hi
    have hcl : x1.length ≤ p.length := by
      obtain ⟨L, hL, rfl⟩ := hC
      rw [qp_len]; exact (hL.len hp.gr hi).2
    have hp5 := hp.2.1
    have hcp := hC.pic hp.gr hi (by omega)
    have hc1 := hcp.1
    have k2 : ∀ (w : World), Does Tryd.prog 82 [.int .i64 (x1.length : Int)] w (RetO w XR ((orders x1.length).map ints)) := fun w => l4Orders_ok w _ ⟨by omega, by omega⟩
    focus
      have szE1 := E1.size; refine W_region rfl ?_; refine Wo rfl (opv_move (v := u1) rfl) ?_; refine Wo rfl (opv_len Tryd.underlying49 rfl (Owned.read hO1)) ?_; refine Wo rfl (opv_eql rfl rfl) ?_; refine Wo_nil ?_
      refine W_cond_dec rfl (fun h1 => ?_) (fun h1 => ?_); (exfalso; omega); refine W_skip ?_; refine W_seq ?_; refine W_region rfl ?_; refine Wo rfl (opv_move (v := u1) rfl) ?_; refine Wo rfl (opv_assign (v := u1) rfl) ?_
      refine Wo_nil ?_; refine W_seq ?_; refine W_region rfl ?_; refine Wo rfl (opv_move (v := u1) rfl) ?_; refine Wo rfl (opv_len Tryd.underlying49 rfl (Owned.read hO1)) ?_
      refine Wo_call rfl (opc1 (a := .int _ _) Tryd.call82 rfl) (k2 _) ?_; rintro u2 w2 ⟨E2, hO2⟩; have hs2 := E2.size; refine Wo rfl (opv_assign (v := u2) rfl) ?_; refine Wo_nil ?_; refine W_seq ?_; refine W_seq ?_
      refine W_region rfl ?_; refine Wo rfl (opv_assign (v := .int _ _) rfl) ?_; refine Wo_nil ?_; refine W_block ?_
    have hlo : (orders x1.length).length ≤ 3125 := ordS_len5 (by omega) (by omega)
    have hlm : ((orders x1.length).map ints).length = (orders x1.length).length := by simp
    have r2 := hO2.read
    have hO1' := hO1.ext (by assumption : Ext w1 w2)
    refine W_loop [6, 8, 9, 21, 22, 23, 24, 25, 26, 27, 28, 29, 30, 31, 32, 33, 34, 35, 36, 37, 38] (fun ((k, u, bs) : Nat × Value × List (List Int)) => [(8, .int .i64 (k : Nat)), (6, u)]) (fun (k, u, bs) w' => Ext w2 w' ∧ k ≤ (orders x1.length).length ∧ Owned w.heap.size XR w' u bs ∧ Cand p z.toNat bs ∧ bs = ((orders x1.length).take k).foldl (fun best o => lstep x1 best (reo x1 o)) x1) (fun x => (orders x1.length).length - x.1) (0, u1, x1) (by repeat (first | exact trivial | refine And.intro rfl ?_)) ?_ ?_
    · exact ⟨Ext.refl _, Nat.zero_le _, hO1', hC, rfl⟩
    rintro ⟨k, u, bs⟩ ρj w3 ⟨E3, hk, hOb, hCb, hbs⟩
    by_cases hlt : k < (orders x1.length).length
    · have hgo := iis_get (D := orders x1.length) (i := k) (by omega)
      have hOrd := (mem_orders (by omega)).1 (List.getElem_mem hlt)
      have hcb := hCb.pic hp.gr hi (by have := hCb.len hC; omega)
      have hcr := reo_cand hC hOrd
      have hcrp := hcr.pic hp.gr hi (by have := hcr.len hC; omega)
      have k3 : ∀ (w : World) (v u : Value), ESl Ints w v x1 → Ints w u ((orders x1.length).map ints)[k] → Does Tryd.prog 83 [v, u] w (RetO w XR (reo x1 (orders x1.length)[k])) := fun w v u h h' => Reordered_ok w v u x1 _ h (hgo ▸ h') hcp hOrd
      have k4 : ∀ (w : World) (v : Value), ESl Ints w v bs → Does Tryd.prog 71 [v] w (Ret w (str (txt bs))) := fun w v h => by
        have := PictureText_ok w v bs h
        rw [if_pos hcb] at this; exact this
      have k5 : ∀ (w : World) (v : Value), ESl Ints w v (reo x1 (orders x1.length)[k]) → Does Tryd.prog 71 [v] w (Ret w (str (txt (reo x1 (orders x1.length)[k])))) := fun w v h => by
        have := PictureText_ok w v _ h
        rw [if_pos hcrp] at this; exact this
      have hstep : ((orders x1.length).take (k + 1)).foldl (fun best o => lstep x1 best (reo x1 o)) x1 = lstep x1 bs (reo x1 (orders x1.length)[k]) := by rw [take_snoc _ _ hlt, List.foldl_append, ← hbs]; rfl
      focus
        have szE3 := E3.size; have szE2 := E2.size; have szE1 := E1.size; refine W_seq ?_; refine W_seq ?_; refine W_region rfl ?_; refine Wo rfl (opv_move (v := .int _ _) rfl) ?_; refine Wo rfl (opv_move (v := u2) rfl) ?_
        refine Wo rfl (opv_len Tryd.underlying49 rfl r2) ?_; refine Wo rfl (opv_lss rfl rfl) ?_; refine Wo_nil ?_; refine W_cond_dec rfl (fun h2 => ?_) (fun h2 => ?_); refine W_skip ?_; refine W_seq ?_; refine W_block ?_; refine W_seq ?_
        refine W_region rfl ?_; refine Wo rfl (opv_move (v := u1) rfl) ?_; refine Wo rfl (opv_move (v := u2) rfl) ?_; refine Wo rfl (opv_move (v := .int _ _) rfl) ?_
        refine Wo_get Tryd.underlying49 Tryd.sizeOf80 Tryd.isAgg80 rfl (fun _ => rfl) rfl r2 E3 rfl (by first | omega | (simp <;> omega)) ?_; rintro _ u3 hu1
        refine Wo_call rfl (opc2 (a := u1) (b := u3) Tryd.call83 rfl rfl) (k3 _ _ _ ((Mono.mono E3 (Owned.read hO1'))) ((Mono.mono E3 hu1))) ?_; rintro u4 w4 ⟨E4, hO3⟩; have hs3 := E4.size; refine Wo rfl (opv_assign (v := u4) rfl) ?_
        refine Wo_nil ?_; refine W_seq ?_; refine W_region rfl ?_; refine Wo rfl (opv_move (v := u4) rfl) ?_; refine Wo_call rfl (opc1 (a := u4) Tryd.call71 rfl) (k5 _ _ ((Owned.read hO3))) ?_; rintro _ w5 ⟨rfl, E5⟩; have hs4 := E5.size
        refine Wo rfl (opv_move (v := u) rfl) ?_; refine Wo_call rfl (opc1 (a := u) Tryd.call71 rfl) (k4 _ _ ((Mono.mono (E4.trans E5) (Owned.read hOb)))) ?_; rintro _ w6 ⟨rfl, E6⟩; have hs5 := E6.size
        refine Wo rfl (opv_lss_str rfl rfl) ?_; refine Wo_nil ?_; refine W_cond rfl (fun h3 => ?_) (fun h3 => ?_); refine W_region rfl ?_; refine Wo rfl (opv_move (v := u4) rfl) ?_; refine Wo rfl (opv_assign (v := u4) rfl) ?_
        refine Wo_nil ?_; refine W_region rfl ?_; refine Wo rfl (opv_move (v := .int _ _) rfl) ?_; refine Wo rfl (opv_add rfl rfl (by omega)) ?_; refine Wo rfl (opv_assign (v := .int _ _) rfl) ?_; refine Wo_nil ?_; rotate_left
        refine W_skip ?_; refine W_region rfl ?_; refine Wo rfl (opv_move (v := .int _ _) rfl) ?_; refine Wo rfl (opv_add rfl rfl (by omega)) ?_; refine Wo rfl (opv_assign (v := .int _ _) rfl) ?_; refine Wo_nil ?_; rotate_left
        (exfalso; omega)
      · refine ⟨((k + 1, u4, reo x1 (orders x1.length)[k])), by repeat (first | exact trivial | refine And.intro rfl ?_), by repeat (first | with_reducible exact Same.refl | refine Same.upd rfl ?_ | refine Same.upds rfl ?_ | refine Same.mix rfl ?_), ?_, ?_⟩
        · refine ⟨by exact (((E3.trans E4).trans E5).trans E6), by omega, (hO3.ext (by exact (E5.trans E6) : Ext w4 w6)).mono (by omega), hcr, ?_⟩
          rw [hstep]
          exact (if_pos (by assumption)).symm
        · simp only; omega
      · refine ⟨((k + 1, u, bs)), by repeat (first | exact trivial | refine And.intro rfl ?_), by repeat (first | with_reducible exact Same.refl | refine Same.upd rfl ?_ | refine Same.upds rfl ?_ | refine Same.mix rfl ?_), ?_, ?_⟩
        · refine ⟨by exact (((E3.trans E4).trans E5).trans E6), by omega, by exact (Mono.mono ((E4.trans E5).trans E6) hOb), hCb, ?_⟩
          rw [hstep]
          exact (if_neg (by simp only [Bool.not_eq_true]; assumption)).symm
        · simp only; omega
    · obtain rfl : k = (orders x1.length).length := by omega
      focus
        have szE3 := E3.size; have szE2 := E2.size; have szE1 := E1.size; refine W_seq ?_; refine W_seq ?_; refine W_region rfl ?_; refine Wo rfl (opv_move (v := .int _ _) rfl) ?_; refine Wo rfl (opv_move (v := u2) rfl) ?_
        refine Wo rfl (opv_len Tryd.underlying49 rfl r2) ?_; refine Wo rfl (opv_lss rfl rfl) ?_; refine Wo_nil ?_; refine W_cond_dec rfl (fun h2 => ?_) (fun h2 => ?_); (exfalso; omega); refine W_exit ?_; refine exitX_same ?_
        refine W_seq ?_; refine W_region rfl ?_; refine Wo rfl (opv_move (v := u) rfl) ?_; refine Wo rfl (opv_assign (v := u) rfl) ?_; refine Wo_nil ?_; refine W_ret ?_
        refine ⟨((E1.trans E2).trans E3), (congrArg (Owned _ _ _ _) ?_).mp (hOb.toB.o.mono (by omega))⟩
      rw [hbs, List.take_length]
      exact lst_fold_eq hp.gr hi hC
  · rw [if_neg hz]
    obtain rfl := hy1.2 hz
    have hnil : (([] : List (List Int)).length : Int) = 0 := rfl
    focus
      have szE1 := E1.size; refine W_region rfl ?_; refine Wo rfl (opv_move (v := u1) rfl) ?_; refine Wo rfl (opv_len Tryd.underlying49 rfl (Owned.read hO1)) ?_; refine Wo rfl (opv_eql rfl rfl) ?_; refine Wo_nil ?_
      refine W_cond_dec rfl (fun h1 => ?_) (fun h1 => ?_); refine W_seq ?_; refine W_region rfl ?_; refine Wo rfl (opv_move (v := u1) rfl) ?_; refine Wo rfl (opv_assign (v := u1) rfl) ?_; refine Wo_nil ?_; refine W_ret ?_
      exact ⟨E1, hO1.toB.o.mono (by omega)⟩; contradiction

end Go.Proofs.YtgphoihilheoeaaDoor
namespace Go.Proofs.YtgphoihilheoeaaDoor
open Go.Hs
set_option linter.unusedVariables false
theorem rowCell {w : World} {ub n uc lo i j : Nat} {rows : List (List Int)} (h : Owned lo XR w (.slice (some ⟨ub, 0, none⟩) n uc) rows) (hi : i < rows.length) (hj : j < rows[i].length) :
    ∃ br cr, RowAt w (.slice (some ⟨ub, 0, none⟩) n uc) i br rows[i].length cr ∧ lo ≤ br ∧ br < w.heap.size ∧ w.cell? ⟨ub, 0 + i, none⟩ = some (.slice (some ⟨br, 0, none⟩) rows[i].length cr) ∧ w.cell? ⟨br, 0 + j, none⟩ = some (.int .i64 rows[i][j]) := by
  obtain ⟨br, cr, h1, h2, h3⟩ := h.rowAt hi (by omega)
  refine ⟨br, cr, h1, h2, h3, ?_, ?_⟩
  · obtain ⟨b, m, c, e, h4, h5⟩ := h1
    cases e
    rw [Nat.zero_add]; exact h5
  · have h6 := (OwnedB.rowOwn h.toB h1 hi).2
    obtain ⟨a, c, e, h7⟩ : Ints w _ rows[i] := OwnedB.read h6
    obtain ⟨b, o, u, h8, h9, h10⟩ := h7.at hj
    cases e
    cases h8
    rw [h9]; exact congrArg some h10
theorem rowAt_cell {w : World} {ub n uc i br m cr : Nat} (h : RowAt w (.slice (some ⟨ub, 0, none⟩) n uc) i br m cr) : w.cell? ⟨ub, 0 + i, none⟩ = some (.slice (some ⟨br, 0, none⟩) m cr) := by
  obtain ⟨b, m', c, e, h4, h5⟩ := h
  cases e
  rw [Nat.zero_add]; exact h5

end Go.Proofs.YtgphoihilheoeaaDoor
set_option linter.unusedVariables false
set_option linter.unusedSimpArgs false
namespace Go.Hs
open Classical
section
variable {p q g : List (List Int)} {a b i j n m : Nat} {ms : List Nat}
/-- arrows of a row, place by place -/
theorem mem_arr' {r : List Int} (hi : i < p.length) (hr : p[i] = r) : j ∈ arr p i ↔ ∃ hj : j < r.length, r[j] = 1 := by
  unfold arr
  rw [getD_lt hi, hr, mem_arrR]
  constructor
  · rintro ⟨h1, h2⟩; exact ⟨h1, by rw [getD_lt h1] at h2; exact h2⟩
  · rintro ⟨h1, h2⟩; exact ⟨h1, by rw [getD_lt h1]; exact h2⟩
/-- both as one -/
def bes (p q : List (List Int)) : List (List Int) := (p.map fun r => r ++ List.replicate q.length 0) ++ q.map fun r => List.replicate p.length 0 ++ r
theorem bes_len : (bes p q).length = p.length + q.length := by simp [bes]
theorem bes_fst (hi : i < p.length) : (bes p q)[i]'(by rw [bes_len]; omega) = p[i] ++ List.replicate q.length 0 := by
  unfold bes
  rw [List.getElem_append_left (by simpa using hi)]
  simp
theorem bes_snd (hi : i < q.length) : (bes p q)[p.length + i]'(by rw [bes_len]; omega) = List.replicate p.length 0 ++ q[i] := by
  unfold bes
  rw [List.getElem_append_right (by simp)]
  simp
theorem bes_gr (hp : Gr p) (hq : Gr q) (h : p.length + q.length ≤ 11) : Gr (bes p q) := by
  refine ⟨by rw [bes_len]; have := hp.1; omega, by rw [bes_len]; exact h, fun r hr => ?_⟩
  rw [bes_len]
  rcases List.mem_append.1 hr with hr | hr
  · obtain ⟨r', h1, rfl⟩ := List.mem_map.1 hr
    obtain ⟨h2, h3⟩ := hp.2.2 r' h1
    refine ⟨by simp [h2], fun x hx => ?_⟩
    rcases List.mem_append.1 hx with hx | hx
    · exact h3 x hx
    · exact .inl (List.eq_of_mem_replicate hx)
  · obtain ⟨r', h1, rfl⟩ := List.mem_map.1 hr
    obtain ⟨h2, h3⟩ := hq.2.2 r' h1
    refine ⟨by simp [h2], fun x hx => ?_⟩
    rcases List.mem_append.1 hx with hx | hx
    · exact .inl (List.eq_of_mem_replicate hx)
    · exact h3 x hx
theorem arr_bes1 (hp : Gr p) (hi : i < p.length) : j ∈ arr (bes p q) i ↔ j ∈ arr p i := by
  rw [mem_arr' (by rw [bes_len]; omega) (bes_fst hi), mem_arr' hi rfl]
  constructor
  · rintro ⟨h1, h2⟩
    by_cases hj : j < p[i].length
    · exact ⟨hj, by rw [List.getElem_append_left hj] at h2; exact h2⟩
    · rw [List.getElem_append_right (by omega)] at h2
      simp at h2
  · rintro ⟨h1, h2⟩
    exact ⟨by simp; omega, by rw [List.getElem_append_left h1]; exact h2⟩
theorem arr_bes2 (hq : Gr q) (hi : i < q.length) : j ∈ arr (bes p q) (p.length + i) ↔ ∃ k ∈ arr q i, j = p.length + k := by
  rw [mem_arr' (by rw [bes_len]; omega) (bes_snd hi)]
  constructor
  · rintro ⟨h1, h2⟩
    by_cases hj : j < p.length
    · rw [List.getElem_append_left (by simpa using hj)] at h2
      simp at h2
    · rw [List.getElem_append_right (by simp; omega)] at h2
      simp only [List.length_replicate] at h2
      simp only [List.length_append, List.length_replicate] at h1
      exact ⟨j - p.length, (mem_arr' hi rfl).2 ⟨by omega, h2⟩, by omega⟩
  · rintro ⟨k, hk, rfl⟩
    obtain ⟨h1, h2⟩ := (mem_arr' hi rfl).1 hk
    refine ⟨by simp; omega, ?_⟩
    rw [List.getElem_append_right (by simp)]
    simpa using h2
/-- a node ahead, with arrows to these -/
def put (g : List (List Int)) (ms : List Nat) : List (List Int) := (0 :: (List.range g.length).map fun j => b01 (ms.contains j)) :: g.map fun r => 0 :: r
theorem put_len : (put g ms).length = g.length + 1 := by simp [put]
theorem put_gr (hg : Gr g) (h : g.length ≤ 10) : Gr (put g ms) := by
  refine ⟨by rw [put_len]; omega, by rw [put_len]; omega, fun r hr => ?_⟩
  rw [put_len]
  rcases List.mem_cons.1 hr with rfl | hr
  · refine ⟨by simp, fun x hx => ?_⟩
    rcases List.mem_cons.1 hx with rfl | hx
    · exact .inl rfl
    · obtain ⟨j, _, rfl⟩ := List.mem_map.1 hx
      unfold b01; split <;> simp
  · obtain ⟨r', h1, rfl⟩ := List.mem_map.1 hr
    obtain ⟨h2, h3⟩ := hg.2.2 r' h1
    refine ⟨by simp [h2], fun x hx => ?_⟩
    rcases List.mem_cons.1 hx with rfl | hx
    · exact .inl rfl
    · exact h3 x hx
/-- the least picture of the set of these, if it has not too many nodes -/
noncomputable def putV (g : List (List Int)) (ms : List Nat) : Option (List (List Int)) := if (lst (put g ms) 0).length ≤ 5 then some (lst (put g ms) 0) else none
theorem putV_some {c : List (List Int)} (hg : Gr g) (h : g.length ≤ 10) (hc : putV g ms = some c) : LeastP c ∧ Bis (put g ms) 0 c 0 := by
  have h0 : 0 < (put g ms).length := by rw [put_len]; omega
  unfold putV at hc
  split at hc
  · rename_i h5
    cases hc
    exact ⟨LeastP.lst (put_gr hg h) h0 h5, lst_bis (put_gr hg h) h0⟩
  · cases hc
noncomputable def pairV (p : List (List Int)) (a : Nat) (q : List (List Int)) (b : Nat) : Option (List (List Int)) := putV (bes p q) [a, p.length + b]
noncomputable def togV (p : List (List Int)) (a : Nat) (q : List (List Int)) (b : Nat) : Option (List (List Int)) := putV (bes p q) (arr (bes p q) a ++ arr (bes p q) (p.length + b))
noncomputable def wosV (p : List (List Int)) (a : Nat) (q : List (List Int)) (b : Nat) : Option (List (List Int)) := putV p ((arr p a).filter fun v => !decide (Bis p v q b))
theorem Pic.bes5 (hp : Pic p) (hq : Pic q) : Gr (bes p q) ∧ (bes p q).length ≤ 10 := by
  have h1 := hp.2.1
  have h2 := hq.2.1
  exact ⟨bes_gr hp.gr hq.gr (by omega), by rw [bes_len]; omega⟩
theorem pairV_some {c : List (List Int)} (hp : Pic p) (hq : Pic q) (h : pairV p a q b = some c) : LeastP c := (putV_some (hp.bes5 hq).1 (hp.bes5 hq).2 h).1
theorem togV_some {c : List (List Int)} (hp : Pic p) (hq : Pic q) (h : togV p a q b = some c) : LeastP c := (putV_some (hp.bes5 hq).1 (hp.bes5 hq).2 h).1
theorem wosV_some {c : List (List Int)} (hp : Pic p) (h : wosV p a q b = some c) : LeastP c := (putV_some hp.gr (by have := hp.2.1; omega) h).1
end
end Go.Hs
set_option linter.unusedVariables false
set_option linter.unusedSimpArgs false
namespace Go.Hs
section
variable {p q g : List (List Int)} {a b n k x : Nat} {L ms ms' : List Nat}
theorem put_congr (h : ∀ j, j ∈ ms ↔ j ∈ ms') : put g ms = put g ms' := by
  unfold put
  congr 1
  congr 1
  refine List.map_congr_left fun j _ => ?_
  congr 1
  rw [Bool.eq_iff_iff, List.contains_iff_mem, List.contains_iff_mem, h]
theorem bes_nil : bes p [] = p := by
  unfold bes
  simp
/-- the first row, as far as it is laid -/
def ro (g : Nat) (ms : List Nat) : List Int := 0 :: (List.range g).map fun j => b01 (ms.contains j)
theorem ro_len {g : Nat} : (ro g ms).length = g + 1 := by simp [ro]
theorem ro_nil {g : Nat} : ro g [] = List.replicate (g + 1) 0 := by
  unfold ro
  rw [List.replicate_succ]
  congr 1
  apply List.ext_getElem (by simp)
  intro i h1 h2
  simp [b01]
theorem ro_step {g : Nat} (hx : x < g) : (ro g ms).set (x + 1) 1 = ro g (ms ++ [x]) := by
  unfold ro
  rw [List.set_cons_succ]
  congr 1
  apply List.ext_getElem (by simp)
  intro i h1 h2
  have hi : i < g := by simpa using h2
  rw [List.getElem_set]
  simp only [List.getElem_map, List.getElem_range]
  by_cases e : x = i
  · subst e
    have : (ms ++ [x]).contains x = true := by simp
    rw [if_pos rfl, this]; rfl
  · have : (ms ++ [x]).contains i = ms.contains i := by
      rw [Bool.eq_iff_iff]; simp; intro h; exact absurd h.symm e
    rw [if_neg e, this]
theorem put_eq : put g ms = ro g.length ms :: g.map fun r => 0 :: r := rfl
/-- kinds found by walking on -/
structure Wlk (p : List (List Int)) (L : List Nat) : Prop where
  nd : (L.map (knd p)).Nodup
  hd : L.head? = some 0
  rc : ∀ x ∈ L, Rch p 0 x
theorem Wlk.zero : Wlk p [0] := ⟨by simp, rfl, fun x hx => by rw [List.mem_singleton.1 hx]; exact .refl 0⟩
theorem Wlk.step (h : Wlk p L) {x j : Nat} (hx : x ∈ L) (hj : j ∈ arr p x) (hn : knd p j ∉ L.map (knd p)) : Wlk p (L ++ [j]) := by
  refine ⟨?_, ?_, fun y hy => ?_⟩
  · rw [List.map_append, List.nodup_append]
    refine ⟨h.nd, by simp, fun y hy z hz e => ?_⟩
    simp only [List.map_cons, List.map_nil, List.mem_singleton] at hz
    subst hz; subst e; exact hn hy
  · rw [List.head?_append, h.hd]; rfl
  · rcases List.mem_append.1 hy with hy | hy
    · exact h.rc y hy
    · rw [List.mem_singleton.1 hy]; exact (h.rc x hx).step hj
theorem Wlk.lt (hp : Gr p) (h : Wlk p L) (hx : x ∈ L) : x < p.length := (h.rc x hx).lt hp hp.1
theorem Wlk.len (hp : Gr p) (h : Wlk p L) : L.length ≤ p.length := by
  have := nodup_len h.nd (n := p.length) fun j hj => by
    obtain ⟨y, hy, rfl⟩ := List.mem_map.1 hj
    exact knd_lt (h.lt hp hy)
  simpa using this
theorem Wlk.kds (hp : Gr p) (h : Wlk p L) (hc : ∀ x ∈ L, ∀ j ∈ arr p x, knd p j ∈ L.map (knd p)) : Kds p 0 (L.map (knd p)) := by
  have h0 : 0 ∈ L := by
    have := h.hd
    cases L with
    | nil => cases this
    | cons y l => simp at this; simp [this]
  have key : ∀ y, Rch p 0 y → y < p.length ∧ knd p y ∈ L.map (knd p) := by
    intro y hy
    induction hy with
    | refl => exact ⟨hp.1, List.mem_map.2 ⟨0, h0, rfl⟩⟩
    | step hr hj ih =>
      obtain ⟨hk, hm⟩ := ih
      obtain ⟨x, hx, e⟩ := List.mem_map.1 hm
      have hb := (knd_bis hp (h.lt hp hx) hk).1 e
      obtain ⟨j', hj', hb'⟩ := hb.snd _ hj
      have hl := arr_lt hp hk hj
      refine ⟨hl, ?_⟩
      rw [← (knd_bis hp (arr_lt hp (h.lt hp hx) hj') hl).2 hb']
      exact hc x hx j' hj'
  refine ⟨h.nd, by rw [List.head?_map, h.hd]; rfl, fun x => ⟨fun hx => ?_, ?_⟩⟩
  · obtain ⟨y, hy, rfl⟩ := List.mem_map.1 hx
    exact ⟨y, h.rc y hy, rfl⟩
  · rintro ⟨y, hy, rfl⟩
    exact (key y hy).2
end
end Go.Hs
set_option linter.unusedVariables false
namespace Go.Hs
section
variable {α : Type} {X : World → List Nat → Value → α → Prop} {w : World} {lo hi b o n c c' k : Nat} {e : TypeId}
theorem XAll_take : ∀ (k : Nat) {fs : List (List Nat)} {cs : List Value} {xs : List α}, XAll X w fs cs xs → XAll X w (fs.take k) (cs.take k) (xs.take k)
  | 0, fs, cs, xs, _ => by simp [XAll]
  | k + 1, f :: fs, c :: cs, x :: xs, h => ⟨h.1, XAll_take k h.2⟩
  | k + 1, [], [], [], _ => trivial
  | _ + 1, [], _ :: _, _, h => h.elim
  | _ + 1, [], [], _ :: _, h => h.elim
  | _ + 1, _ :: _, [], _, h => h.elim
  | _ + 1, _ :: _, _ :: _, [], h => h.elim
theorem XInt_flat' : ∀ {fs : List (List Nat)} {cs : List Value} {xs : List Int}, XAll XInt w fs cs xs → fs.flatten = []
  | [], _, _, _ => rfl
  | f :: fs, c :: cs, x :: xs, h => by rw [List.flatten_cons, h.1.1, XInt_flat' h.2]; rfl
  | _ :: _, [], _, h => h.elim
  | _ :: _, _ :: _, [], h => h.elim
theorem OwnedB.pre {xs : List Int} (h : OwnedB lo hi (XSl e XInt) w (.slice (some ⟨b, 0, none⟩) n c) xs) (hk : k ≤ n) : OwnedB lo hi (XSl e XInt) w (.slice (some ⟨b, 0, none⟩) k c) (xs.take k) := by
  obtain ⟨fp, h1, h2, cs, fps, h3, rfl, h5⟩ := h
  have hf := XInt_flat' h5
  have hf2 := XInt_flat' (XAll_take k h5)
  obtain ⟨h4, h6⟩ := h3
  rcases h6 with ⟨h7, _⟩ | ⟨g, cap, cur, h7, h8, h9, h10, h11, h12, h13⟩
  · cases h7
  · injection h7 with e1 e2 e3
    injection e1 with e1
    injection e1 with e1 _ _
    subst e1 e2 e3
    refine ⟨_, h1, h2, cs.take k, fps.take k, ⟨?_, .inr ⟨b, c, cur, ?_, h8, h9, by rw [List.length_take]; omega, h11, h12, ?_⟩⟩, by rw [hf, hf2]; rfl, XAll_take k h5⟩
    · rw [List.length_take, List.length_take, h4]; omega
    · rw [List.length_take, Nat.min_eq_left (by omega)]
    · rw [List.length_take, ← h13, List.take_take, Nat.mul_one, Nat.mul_one, Nat.min_eq_left (by omega)]
theorem own_rng {v : Value} {xs : List α} (h : OwnedB lo hi (XSl e X) w v xs) (hv : v.ownBlock = some k) : lo ≤ k ∧ k < hi := by
  obtain ⟨fp, h1, h2, cs, fps, h3, rfl, h5⟩ := h
  exact h2 k (by simp [hv])
end
/-- In the midst: what a piece of code leaves, told anew. -/
theorem W_mid {α : Type} {P : Program} {n : Nat} {c : Code} {N : Env → World → Prop} {X : Nat → Env → World → Prop} {R : Env → World → Prop} {ρ : Env} {w : World} (D : List Nat) (S : α → List (Nat × Value)) (I : α → World → Prop)
    (h : W P n c (fun ρ' w' => ∃ x', Slots ρ' (S x') ∧ Same D ρ ρ' ∧ I x' w') X R ρ w) (h2 : ∀ (x : α) (ρj : Env) (w' : World), I x w' → N (upds (mix D ρj ρ) (S x)) w') : W P n c N X R ρ w := by
  unfold W at *
  intro a ha
  refine Go.wp_mono (h a ha) fun e a w q => ?_
  cases e with
  | normal =>
    obtain ⟨ρ', hR, x', hS, hD, hI⟩ := q
    refine ⟨ρ', hR, ?_⟩
    have := h2 x' ρ' w hI
    rw [mix_same hD, upds_self hS] at this; exact this
  | ret => exact q
  | exit i => exact q
  | goto l => exact q
  | panic ch => exact q
  | outgrown => exact q
end Go.Hs
set_option linter.unusedVariables false
namespace Go.Hs
theorem OwnedB.nil {α : Type} {X : World → List Nat → Value → α → Prop} {w : World} {e : TypeId} {lo hi : Nat} : OwnedB lo hi (XSl e X) w (.slice none 0 0) [] := ⟨[], List.nodup_nil, (fun _ h => by cases h), [], [], World.ownsRow_nil w 0 e 1, rfl, trivial⟩
theorem own_lit1 {w : World} {e : TypeId} {lo b : Nat} {x : Int} (hb : w.heap[b]? = some (.cells [.int .i64 x].toArray e (0, 0))) (hl : lo ≤ b) : Owned lo (XSl e XInt) w (.slice (some ⟨b, 0, none⟩) 1 1) [x] := Owned.block hb hl rfl (by decide) ⟨⟨rfl, rfl⟩, trivial⟩
end Go.Hs
namespace Go.Hs
section
variable {P : Program} {op : Op} {ty : TypeId} {ρ : Env} {w : World} {b : Bool}
end
/-- What a call leaves that hands back data of its own, and a truth value. -/
def RetOB {α : Type} (w : World) (X : World → List Nat → Value → α → Prop) (x : α) (b : Bool) : Value → World → Prop := fun v w' => ∃ u, v = .tuple #[u, .bool b] ∧ Ext w w' ∧ Owned w.heap.size X w' u x
end Go.Hs
set_option linter.unusedVariables false
set_option linter.unusedSimpArgs false
namespace Go.Hs
/-- A desk of the call's own: the set's rows ahead of all others. -/
def RetDk (w : World) (e0 e1 e2 : TypeId) (now : List (List Int)) (past : List (List (List Int))) : Value → World → Prop := fun v w' => ∃ u1 u2 m, v = .agg #[u1, u2] ∧ Ext w w' ∧ OwnedB w.heap.size m (XSl e1 (XSl e2 XInt)) w' u1 now ∧ Owned m (XSl e0 (XSl e1 (XSl e2 XInt))) w' u2 past ∧ w.heap.size ≤ m ∧ m ≤ w'.heap.size
def RetDkB (w : World) (e0 e1 e2 : TypeId) (now : List (List Int)) (past : List (List (List Int))) (b : Bool) : Value → World → Prop := fun v w' => ∃ u1 u2 m, v = .tuple #[.agg #[u1, u2], .bool b] ∧ Ext w w' ∧ OwnedB w.heap.size m (XSl e1 (XSl e2 XInt)) w' u1 now ∧ Owned m (XSl e0 (XSl e1 (XSl e2 XInt))) w' u2 past ∧ w.heap.size ≤ m ∧ m ≤ w'.heap.size
theorem OwnedB.wide {α : Type} {X : World → List Nat → Value → α → Prop} {w : World} {v : Value} {x : α} {lo hi lo' hi' : Nat} (h : OwnedB lo hi X w v x) (h1 : lo' ≤ lo) (h2 : hi ≤ hi') : OwnedB lo' hi' X w v x := by
  obtain ⟨fp, a, b, c⟩ := h
  exact ⟨fp, a, fun k hk => by have := b k hk; omega, c⟩
theorem opv_buildF0 {P : Program} {ρ : Env} {w : World} {ty t : TypeId} {parts : Array (Nat × Operand)} {z1 z2 v : Value} (hF : Flat P t [z1, z2]) (hp : parts.toList.map (fun p => (p.1, evalE ρ p.2)) = [(0, v)]) (h1 : isCell v = true) :
    OpV P (.build t parts) ty ρ w (.agg #[v, z2]) := opv_build (ps := [(0, v)]) (cs := [v, z2]) hF hp (by simp [fillF, h1, show Nat.blt 0 2 = true from rfl])
end Go.Hs
set_option linter.unusedVariables false
set_option linter.unusedSimpArgs false
namespace Go.Hs
open Classical
structure Deed where
  kind : Int
  text : List UInt8
  node : Int
deriving DecidableEq
def sSingle : List UInt8 := [115, 105, 110, 103, 108, 101]
def sBack : List UInt8 := [98, 97, 99, 107]
def sInto : List UInt8 := [105, 110, 116, 111, 32]
def sAdd : List UInt8 := [97, 100, 100, 32]
def sDrop : List UInt8 := [100, 114, 111, 112, 32]
section
variable {p q : List (List Int)} {a b : Deed} {s l : List UInt8}
/-- the text of a deed -/
noncomputable def dtV (a : Deed) : List UInt8 :=
  if a.kind = 0 ∧ a.text = [] ∧ a.node = 0 then sSingle
  else if a.kind = 4 ∧ a.text = [] ∧ a.node = 0 then sBack
  else if a.kind = 3 ∧ a.text = [] ∧ 0 ≤ a.node ∧ a.node ≤ 9 then sInto ++ [dig a.node.toNat]
  else if a.node = 0 ∧ (rdP a.text).isSome then (if a.kind = 1 then sAdd ++ a.text else if a.kind = 2 then sDrop ++ a.text else [])
  else []
theorem dtV_single : dtV ⟨0, [], 0⟩ = sSingle := if_pos ⟨rfl, rfl, rfl⟩
theorem dtV_back : dtV ⟨4, [], 0⟩ = sBack := by
  unfold dtV
  rw [if_neg (by simp), if_pos ⟨rfl, rfl, rfl⟩]
theorem dtV_into {d : Nat} (h : d ≤ 9) : dtV ⟨3, [], (d : Int)⟩ = sInto ++ [dig d] := by
  unfold dtV
  rw [if_neg (by simp), if_neg (by simp), if_pos ⟨rfl, rfl, Int.natCast_nonneg _, by simp only; omega⟩]
  rfl
theorem dtV_add (hp : Pic p) : dtV ⟨1, txt p, 0⟩ = sAdd ++ txt p := by
  unfold dtV
  rw [if_neg (by simp), if_neg (by simp), if_neg (by simp), if_pos ⟨rfl, by rw [rdP_txt hp]; rfl⟩, if_pos rfl]
theorem dtV_drop (hp : Pic p) : dtV ⟨2, txt p, 0⟩ = sDrop ++ txt p := by
  unfold dtV
  rw [if_neg (by simp), if_neg (by simp), if_neg (by simp), if_pos ⟨rfl, by rw [rdP_txt hp]; rfl⟩, if_neg (by simp), if_pos rfl]
/-- the deeds that have a text -/
inductive Told : Deed → Prop
  | single : Told ⟨0, [], 0⟩
  | back : Told ⟨4, [], 0⟩
  | into (d : Nat) (h : d ≤ 9) : Told ⟨3, [], (d : Int)⟩
  | add (p : List (List Int)) (h : Pic p) : Told ⟨1, txt p, 0⟩
  | drop (p : List (List Int)) (h : Pic p) : Told ⟨2, txt p, 0⟩
theorem told_of (h : dtV a ≠ []) : Told a := by
  obtain ⟨k, t, n⟩ := a
  unfold dtV at h
  simp only at h
  split at h
  · rename_i h1; obtain ⟨rfl, rfl, rfl⟩ := h1; exact .single
  split at h
  · rename_i h1; obtain ⟨rfl, rfl, rfl⟩ := h1; exact .back
  split at h
  · rename_i h1
    obtain ⟨rfl, rfl, h2, h3⟩ := h1
    obtain ⟨d, rfl⟩ := Int.eq_ofNat_of_zero_le h2
    exact .into d (by omega)
  split at h
  · rename_i h1
    obtain ⟨rfl, h2⟩ := h1
    obtain ⟨p, hp⟩ := Option.isSome_iff_exists.1 h2
    obtain ⟨h3, rfl⟩ := rdP_some hp
    split at h
    · rename_i h4; subst h4; exact .add p h3
    split at h
    · rename_i h4; subst h4; exact .drop p h3
    · exact absurd rfl h
  · exact absurd rfl h
theorem Told.ne (h : Told a) : dtV a ≠ [] := by
  cases h with
  | single => rw [dtV_single]; simp [sSingle]
  | back => rw [dtV_back]; simp [sBack]
  | into d h => rw [dtV_into h]; simp
  | add p h => rw [dtV_add h]; simp [sAdd]
  | drop p h => rw [dtV_drop h]; simp [sDrop]
theorem dtV_inj (ha : dtV a ≠ []) (h : dtV a = dtV b) : a = b := by
  have hb : dtV b ≠ [] := by rw [← h]; exact ha
  have h1 := told_of ha
  have h2 := told_of hb
  clear ha hb
  cases h1 with
  | single =>
    rw [dtV_single] at h
    cases h2 with
    | single => rfl
    | back => rw [dtV_back] at h; simp [sSingle, sBack] at h
    | into d hd => rw [dtV_into hd] at h; simp [sSingle, sInto] at h
    | add p hp => rw [dtV_add hp] at h; simp [sSingle, sAdd] at h
    | drop p hp => rw [dtV_drop hp] at h; simp [sSingle, sDrop] at h
  | back =>
    rw [dtV_back] at h
    cases h2 with
    | single => rw [dtV_single] at h; simp [sSingle, sBack] at h
    | back => rfl
    | into d hd => rw [dtV_into hd] at h; simp [sBack, sInto] at h
    | add p hp => rw [dtV_add hp] at h; simp [sBack, sAdd] at h
    | drop p hp => rw [dtV_drop hp] at h; simp [sBack, sDrop] at h
  | into d hd =>
    rw [dtV_into hd] at h
    cases h2 with
    | single => rw [dtV_single] at h; simp [sSingle, sInto] at h
    | back => rw [dtV_back] at h; simp [sInto, sBack] at h
    | into d' hd' =>
      rw [dtV_into hd'] at h
      have := List.append_cancel_left h
      simp only [List.cons.injEq, and_true] at this
      rw [dig_inj (by omega) (by omega) this]
    | add p hp => rw [dtV_add hp] at h; simp [sInto, sAdd] at h
    | drop p hp => rw [dtV_drop hp] at h; simp [sInto, sDrop] at h
  | add p hp =>
    rw [dtV_add hp] at h
    cases h2 with
    | single => rw [dtV_single] at h; simp [sSingle, sAdd] at h
    | back => rw [dtV_back] at h; simp [sAdd, sBack] at h
    | into d' hd' => rw [dtV_into hd'] at h; simp [sAdd, sInto] at h
    | add p hp => rw [dtV_add hp] at h; rw [List.append_cancel_left h]
    | drop p hp => rw [dtV_drop hp] at h; simp [sAdd, sDrop] at h
  | drop p hp =>
    rw [dtV_drop hp] at h
    cases h2 with
    | single => rw [dtV_single] at h; simp [sSingle, sDrop] at h
    | back => rw [dtV_back] at h; simp [sDrop, sBack] at h
    | into d' hd' => rw [dtV_into hd'] at h; simp [sDrop, sInto] at h
    | add p hp => rw [dtV_add hp] at h; simp [sAdd, sDrop] at h
    | drop p hp => rw [dtV_drop hp] at h; rw [List.append_cancel_left h]
/-- bytes of texts of pictures -/
theorem txt_bytes (hp : Gr p) {c : UInt8} (hc : c ∈ txt p) : 47 ≤ c.toNat ∧ c.toNat ≤ 58 := by
  have key : ∀ (l : List (List UInt8)), (∀ x ∈ l, ∀ c ∈ x, 47 ≤ c.toNat ∧ c.toNat ≤ 58) → ∀ c ∈ joinB 47 l, 47 ≤ c.toNat ∧ c.toNat ≤ 58 := by
    intro l h c hc
    cases l with
    | nil => cases hc
    | cons x l =>
      unfold joinB at hc
      rcases List.mem_append.1 hc with hc | hc
      · exact h x (by simp) c hc
      · obtain ⟨y, hy, hc⟩ := List.mem_flatMap.1 hc
        rcases List.mem_cons.1 hc with rfl | hc
        · decide
        · exact h y (by simp [hy]) c hc
  refine key _ (fun x hx c hc => ?_) c hc
  obtain ⟨r, hr, rfl⟩ := List.mem_map.1 hx
  obtain ⟨j, hj, rfl⟩ := List.mem_map.1 hc
  have h1 := (mem_arrR.1 hj).1
  rw [(hp.2.2 r hr).1] at h1
  have := hp.2.1
  rw [dig_toNat (by omega)]; omega
theorem txt_no (hp : Gr p) {c : UInt8} (h : c.toNat < 47) : c ∉ txt p := fun hm => by have := txt_bytes hp hm; omega
/-- no newline in it -/
theorem dtV_no10 (a : Deed) : (10 : UInt8) ∉ dtV a := by
  by_cases ha : dtV a = []
  · rw [ha]; simp
  · cases told_of ha with
    | single => rw [dtV_single]; decide
    | back => rw [dtV_back]; decide
    | into d h =>
      rw [dtV_into h]
      intro hm
      rcases List.mem_append.1 hm with hm | hm
      · revert hm; decide
      · simp only [List.mem_singleton] at hm
        have := congrArg UInt8.toNat hm
        rw [dig_toNat (by omega)] at this
        have e : (10 : UInt8).toNat = 10 := rfl
        omega
    | add p h =>
      rw [dtV_add h]
      intro hm
      rcases List.mem_append.1 hm with hm | hm
      · revert hm; decide
      · exact txt_no h.gr (by decide) hm
    | drop p h =>
      rw [dtV_drop h]
      intro hm
      rcases List.mem_append.1 hm with hm | hm
      · revert hm; decide
      · exact txt_no h.gr (by decide) hm
theorem dtV_len (a : Deed) : (dtV a).length ≤ 210 := by
  by_cases ha : dtV a = []
  · rw [ha]; simp
  · cases told_of ha with
    | single => rw [dtV_single]; decide
    | back => rw [dtV_back]; decide
    | into d h => rw [dtV_into h]; simp [sInto]
    | add p h => rw [dtV_add h]; have := txt_len h.gr; simp [sAdd]; omega
    | drop p h => rw [dtV_drop h]; have := txt_len h.gr; simp [sDrop]; omega
/-- the deed of a text -/
noncomputable def rdD (s : List UInt8) : Option Deed := if h : ∃ a, dtV a = s ∧ s ≠ [] then some (Classical.choose h) else none
theorem rdD_eq (h : dtV a = s) (hs : s ≠ []) : rdD s = some a := by
  have hx : ∃ a, dtV a = s ∧ s ≠ [] := ⟨a, h, hs⟩
  unfold rdD
  rw [dif_pos hx]
  have := Classical.choose_spec hx
  exact congrArg some (dtV_inj (by rw [this.1]; exact this.2) (this.1.trans h.symm))
theorem rdD_some (h : rdD s = some a) : dtV a = s ∧ s ≠ [] := by
  unfold rdD at h
  split at h
  · rename_i hx
    have := Classical.choose_spec hx
    rw [← Option.some.inj h]; exact this
  · cases h
theorem rdD_told (h : rdD s = some a) : Told a := told_of (by rw [(rdD_some h).1]; exact (rdD_some h).2)

/-- the text of a journal -/
noncomputable def jtV (l : List Deed) : List UInt8 := if ∀ a ∈ l, dtV a ≠ [] then l.flatMap fun a => dtV a ++ [10] else []
/-- what is read of lines: the last piece is none -/
noncomputable def rjP : List (List UInt8) → List Deed × Nat
  | [] => ([], 0)
  | [_] => ([], 0)
  | x :: y :: r => match rdD x with
    | none => ([], 0)
    | some a => (a :: (rjP (y :: r)).1, x.length + 1 + (rjP (y :: r)).2)
noncomputable def rjV (s : List UInt8) : List Deed × Nat := rjP (cutB 10 s)
theorem rjV_one (h : (10 : UInt8) ∉ s) : rjV s = ([], 0) := by unfold rjV; rw [cutB_one h]; rfl
theorem rjV_line {x r : List UInt8} (h : (10 : UInt8) ∉ x) : rjV (x ++ 10 :: r) = match rdD x with
    | none => ([], 0)
    | some a => (a :: (rjV r).1, x.length + 1 + (rjV r).2) := by
  unfold rjV
  rw [cutB_app h]
  cases hc : cutB 10 r with
  | nil => exact absurd hc (cutB_ne r)
  | cons y ys => rfl
/-- a text falls into lines -/
theorem line_ind (s : List UInt8) : (10 : UInt8) ∉ s ∨ ∃ x r, s = x ++ 10 :: r ∧ (10 : UInt8) ∉ x := by
  induction s with
  | nil => left; simp
  | cons c s ih =>
    by_cases hc : c = 10
    · right; exact ⟨[], s, by rw [hc]; rfl, by simp⟩
    · rcases ih with h | ⟨x, r, e, hx⟩
      · left
        simp only [List.mem_cons, not_or]
        exact ⟨fun e => hc e.symm, h⟩
      · right
        refine ⟨c :: x, r, by rw [e]; rfl, ?_⟩
        simp only [List.mem_cons, not_or]
        exact ⟨fun e => hc e.symm, hx⟩
theorem rjV_jtV {l : List Deed} (h : ∀ a ∈ l, dtV a ≠ []) : rjV (l.flatMap fun a => dtV a ++ [10]) = (l, (l.flatMap fun a => dtV a ++ [10]).length) := by
  induction l with
  | nil => exact rjV_one (by simp)
  | cons a l ih =>
    have := ih (fun b hb => h b (by simp [hb]))
    rw [List.flatMap_cons, show dtV a ++ [10] ++ (l.flatMap fun a => dtV a ++ [10]) = dtV a ++ 10 :: (l.flatMap fun a => dtV a ++ [10]) by simp, rjV_line (dtV_no10 a), rdD_eq rfl (h a (by simp)), this]
    simp
    omega
end
end Go.Hs
set_option linter.unusedVariables false
set_option linter.unusedSimpArgs false
namespace Go.Hs
open Classical
structure Dsk where
  now : List (List Int)
  past : List (List (List Int))
def DkOk (d : Dsk) : Prop := LeastP d.now ∧ d.past.length ≤ 8 ∧ ∀ p ∈ d.past, LeastP p
section
variable {p q : List (List Int)} {a b : Deed} {d e : Dsk} {l l' : List Deed}
/-- what a deed makes of a set -/
noncomputable def madeV (p : List (List Int)) (a : Deed) : Option (List (List Int)) :=
  if a.kind = 0 ∧ a.text = [] ∧ a.node = 0 then pairV p 0 p 0
  else if a.kind = 1 ∧ a.node = 0 then (rdP a.text).bind fun q => (pairV q 0 q 0).bind fun s => togV p 0 s 0
  else if a.kind = 2 ∧ a.node = 0 then (rdP a.text).bind fun q => wosV p 0 q 0
  else if a.kind = 3 ∧ a.text = [] ∧ 0 ≤ a.node ∧ a.node < p.length ∧ bit p 0 a.node.toNat = 1 then some (lst p a.node.toNat)
  else none
/-- the last eight -/
def last8 (l : List (List (List Int))) : List (List (List Int)) := if l.length > 8 then l.drop 1 else l
/-- the set that comes, if a deed can be done that is none of going back -/
noncomputable def nextV (p : List (List Int)) (a : Deed) : Option (List (List Int)) := match madeV p a with
  | some c => if c = p then none else some c
  | none => none
def isBack (d : Dsk) (a : Deed) : Prop := a = ⟨4, [], 0⟩ ∧ d.past ≠ []
noncomputable def doV (d : Dsk) (a : Deed) : Dsk × Bool :=
  if isBack d a then (⟨d.past.getLastD [], d.past.dropLast⟩, true)
  else match nextV d.now a with
    | some c => (⟨c, last8 (d.past ++ [d.now])⟩, true)
    | none => (d, false)
theorem madeV_least {c : List (List Int)} (hp : Pic p) (h : madeV p a = some c) : LeastP c := by
  unfold madeV at h
  split at h
  · exact pairV_some hp hp h
  split at h
  · simp only [Option.bind_eq_some_iff] at h
    obtain ⟨q, h1, s, h2, h3⟩ := h
    have hq := (rdP_some h1).1
    exact togV_some hp (pairV_some hq hq h2).1 h3
  split at h
  · simp only [Option.bind_eq_some_iff] at h
    obtain ⟨q, h1, h3⟩ := h
    exact wosV_some hp h3
  split at h
  · rename_i h4
    rw [← Option.some.inj h]
    have h5 : a.node.toNat < p.length := by omega
    exact LeastP.lst hp.gr h5 (Nat.le_trans (lst_le hp.gr h5) hp.2.1)
  · cases h
theorem nextV_some {c : List (List Int)} (h : nextV p a = some c) : madeV p a = some c ∧ c ≠ p := by
  unfold nextV at h
  split at h
  · rename_i x hx
    split at h
    · cases h
    · rename_i hne
      rw [hx, ← Option.some.inj h]
      exact ⟨rfl, hne⟩
  · cases h
theorem last8_len (l : List (List (List Int))) (h : l.length ≤ 9) : (last8 l).length ≤ 8 := by
  unfold last8; split
  · simp; omega
  · omega
theorem last8_mem {l : List (List (List Int))} (h : p ∈ last8 l) : p ∈ l := by
  unfold last8 at h; split at h
  · exact List.mem_of_mem_drop h
  · exact h
theorem doV_ok (h : DkOk d) : DkOk (doV d a).1 := by
  unfold doV
  split
  · rename_i hb
    refine ⟨?_, by simp; have := h.2.1; omega, fun p hp => h.2.2 p (List.dropLast_subset _ hp)⟩
    refine h.2.2 _ ?_
    rw [List.getLastD_eq_getLast?, List.getLast?_eq_some_getLast hb.2]
    exact List.getLast_mem hb.2
  · split
    · rename_i c hc
      refine ⟨madeV_least h.1.1 (nextV_some hc).1, last8_len _ (by simp; exact h.2.1), fun p hp => ?_⟩
      rcases List.mem_append.1 (last8_mem hp) with hp | hp
      · exact h.2.2 p hp
      · simp only [List.mem_singleton] at hp; subst hp; exact h.1
    · exact h
end
end Go.Hs
namespace Go.Proofs.YtgphoihilheoeaaDoor
open Go.Hs
set_option maxRecDepth 10000
set_option maxHeartbeats 4000000
set_option linter.unusedVariables false
set_option linter.unusedSimpArgs false

theorem l6Arrows_ok (w : World) (v : Value) (p : List (List Int)) (h : ESl Ints w v p) (hp : Gr p) (a : Nat) (ha : a < p.length) : Does Tryd.prog 75 [v, .int .i64 (a : Int)] w (RetO w XI (ints (arr p a))) := by
  have hle := h.le
  have hp5 := hp.2.1
  have hrow := hp.row ha
  have har : arr p a = (List.range p.length).filter fun j => decide (p[a].getD j 0 = 1) := by unfold arr arrR; rw [getD_lt ha, hrow]
  refine fn_of_W1 Tryd.func75 rfl Tryd.results75 Tryd.ntmps75 rfl ?_
  focus
    refine W_seq ?_; refine W_region rfl ?_; refine Wo rfl (opv_assign (v := .slice _ _ _) rfl) ?_; refine Wo_nil ?_; refine W_seq ?_; refine W_region rfl ?_; refine Wo_lit0 XInt rfl el80 Tryd.sizeOf3 ?_; rintro b1 w1 hb1 b1lt E1 hO1
    have hs1 := E1.size; refine Wo rfl (opv_assign (v := .slice _ _ _) rfl) ?_; refine Wo_nil ?_; refine W_seq ?_; refine W_seq ?_; refine W_region rfl ?_; refine Wo rfl (opv_assign (v := .int _ _) rfl) ?_; refine Wo_nil ?_
    refine W_block ?_
  refine W_loop [5, 6, 8, 9, 10, 11, 12, 13, 14, 15, 16, 17, 18, 19, 20, 21, 22, 23, 24, 25] (fun ((k, u) : Nat × Value) => [(6, .int .i64 (k : Nat)), (5, u)]) (fun (k, u) w' => Ext w w' ∧ k ≤ p.length ∧ Owned w.heap.size XI w' u (ints ((List.range k).filter fun j => decide (p[a].getD j 0 = 1)))) (fun x => p.length - x.1) (0, .slice (some ⟨b1, 0, none⟩) 0 0) (by repeat (first | exact trivial | refine And.intro rfl ?_)) ?_ ?_
  · exact ⟨by exact E1, Nat.zero_le _, hO1⟩
  clear hO1
  rintro ⟨k, u⟩ ρj w2 ⟨E2, hk, hO1⟩
  have hfl : (ints ((List.range k).filter fun j => decide (p[a].getD j 0 = 1))).length ≤ 11 := by
    rw [ints_len]; exact Nat.le_trans (List.length_filter_le _ _) (by rw [List.length_range]; omega)
  by_cases hlt : k < p.length
  · have hg : p[a].getD k 0 = p[a][k] := getD_lt (by omega)
    by_cases hc : p[a][k] = 1
    · focus
        have szE2 := E2.size; have szE1 := E1.size; refine W_seq ?_; refine W_seq ?_; refine W_region rfl ?_; refine Wo rfl (opv_move (v := .int _ _) rfl) ?_; refine Wo rfl (opv_move (v := v) rfl) ?_
        refine Wo rfl (opv_len Tryd.underlying49 rfl h) ?_; refine Wo rfl (opv_lss rfl rfl) ?_; refine Wo_nil ?_; refine W_cond_dec rfl (fun h1 => ?_) (fun h1 => ?_); refine W_skip ?_; refine W_seq ?_; refine W_block ?_; refine W_seq ?_
        refine W_region rfl ?_; refine Wo rfl (opv_move (v := v) rfl) ?_; refine Wo rfl (opv_move (v := .int _ _) rfl) ?_
        refine Wo_get Tryd.underlying49 Tryd.sizeOf80 Tryd.isAgg80 rfl (fun _ => rfl) rfl h E2 rfl (by first | omega | (simp <;> omega)) ?_; rintro _ u1 hu1; refine Wo rfl (opv_move (v := .int _ _) rfl) ?_
        refine Wo_get Tryd.underlying80 Tryd.sizeOf3 Tryd.isAgg3 rfl (fun _ => rfl) rfl hu1 E2 rfl (by first | omega | (simp <;> omega)) ?_; rintro _ _ rfl; refine Wo rfl (opv_eql rfl rfl) ?_; refine Wo_nil ?_
        refine W_cond_dec rfl (fun h2 => ?_) (fun h2 => ?_); refine W_region rfl ?_; refine Wo rfl (opv_move (v := u) rfl) ?_; refine Wo rfl (opv_move (v := .int _ _) rfl) ?_
        refine Wo_buildSliceH (ps := [(0, .int _ _)]) (cs := [_]) rfl Tryd.underlying80 Tryd.sizeOf3 Tryd.zeroValue3 rfl rfl rfl rfl ?_; rintro b2 w3 hb2 E3 hB1 hHb2; have hlb2 := hB1.lt; have hs2 := E3.size
        refine Wo_app1 rfl el80 rfl rfl hB1 (hO1.toB.ext E3) Owned.int (Nat.le_refl _) (by first | omega | (simp <;> omega)) (by omega) (by omega) (E2.trans E3) (by omega) ?_; have hT1 := (hO1.toB.ext E3); rintro v1 w4 hO1 E4 M1
        have hB1 := hB1.moves M1 hT1 (by omega); have hs3 := E4.size; refine Wo rfl (opv_assign (v := v1) rfl) ?_; refine Wo_nil ?_; refine W_region rfl ?_; refine Wo rfl (opv_move (v := .int _ _) rfl) ?_
        refine Wo rfl (opv_add rfl rfl (by omega)) ?_; refine Wo rfl (opv_assign (v := .int _ _) rfl) ?_; refine Wo_nil ?_; rotate_left; contradiction; (exfalso; omega)
      refine ⟨((k + 1, v1)), by repeat (first | exact trivial | refine And.intro rfl ?_), by repeat (first | with_reducible exact Same.refl | refine Same.upd rfl ?_ | refine Same.upds rfl ?_ | refine Same.mix rfl ?_), ?_, ?_⟩
      · refine ⟨by exact E4, by omega, ?_⟩
        rw [filter_range_succ, hg, decide_eq_true hc, ints_append]
        exact hO1
      · simp only; omega
    · focus
        have szE2 := E2.size; have szE1 := E1.size; refine W_seq ?_; refine W_seq ?_; refine W_region rfl ?_; refine Wo rfl (opv_move (v := .int _ _) rfl) ?_; refine Wo rfl (opv_move (v := v) rfl) ?_
        refine Wo rfl (opv_len Tryd.underlying49 rfl h) ?_; refine Wo rfl (opv_lss rfl rfl) ?_; refine Wo_nil ?_; refine W_cond_dec rfl (fun h1 => ?_) (fun h1 => ?_); refine W_skip ?_; refine W_seq ?_; refine W_block ?_; refine W_seq ?_
        refine W_region rfl ?_; refine Wo rfl (opv_move (v := v) rfl) ?_; refine Wo rfl (opv_move (v := .int _ _) rfl) ?_
        refine Wo_get Tryd.underlying49 Tryd.sizeOf80 Tryd.isAgg80 rfl (fun _ => rfl) rfl h E2 rfl (by first | omega | (simp <;> omega)) ?_; rintro _ u1 hu1; refine Wo rfl (opv_move (v := .int _ _) rfl) ?_
        refine Wo_get Tryd.underlying80 Tryd.sizeOf3 Tryd.isAgg3 rfl (fun _ => rfl) rfl hu1 E2 rfl (by first | omega | (simp <;> omega)) ?_; rintro _ _ rfl; refine Wo rfl (opv_eql rfl rfl) ?_; refine Wo_nil ?_
        refine W_cond_dec rfl (fun h2 => ?_) (fun h2 => ?_); contradiction; refine W_skip ?_; refine W_region rfl ?_; refine Wo rfl (opv_move (v := .int _ _) rfl) ?_; refine Wo rfl (opv_add rfl rfl (by omega)) ?_
        refine Wo rfl (opv_assign (v := .int _ _) rfl) ?_; refine Wo_nil ?_; rotate_left; (exfalso; omega)
      refine ⟨((k + 1, u)), by repeat (first | exact trivial | refine And.intro rfl ?_), by repeat (first | with_reducible exact Same.refl | refine Same.upd rfl ?_ | refine Same.upds rfl ?_ | refine Same.mix rfl ?_), ?_, ?_⟩
      · refine ⟨by exact E2, by omega, ?_⟩
        rw [filter_range_succ, hg, decide_eq_false hc]
        simp only [Bool.false_eq_true, if_false, List.append_nil]
        exact hO1
      · simp only; omega
  · obtain rfl : k = p.length := by omega
    focus
      have szE2 := E2.size; have szE1 := E1.size; refine W_seq ?_; refine W_seq ?_; refine W_region rfl ?_; refine Wo rfl (opv_move (v := .int _ _) rfl) ?_; refine Wo rfl (opv_move (v := v) rfl) ?_
      refine Wo rfl (opv_len Tryd.underlying49 rfl h) ?_; refine Wo rfl (opv_lss rfl rfl) ?_; refine Wo_nil ?_; refine W_cond_dec rfl (fun h1 => ?_) (fun h1 => ?_); (exfalso; omega); refine W_exit ?_; refine exitX_same ?_; refine W_seq ?_
      refine W_region rfl ?_; refine Wo rfl (opv_move (v := u) rfl) ?_; refine Wo rfl (opv_assign (v := u) rfl) ?_; refine Wo_nil ?_; refine W_ret ?_; refine ⟨E2, (congrArg (Owned _ _ _ _) ?_).mp (hO1.toB.o.mono (by omega))⟩
    rw [har]

open Classical in
theorem spec_SameSet_ok (w : World) (v u : Value) (p q : List (List Int)) (h : ESl Ints w v p) (h' : ESl Ints w u q) (a b : Int) (ha : Nod p a) (hb : Nod q b) : Does Tryd.prog 136 [v, .int .i64 a, u, .int .i64 b] w (Ret w (.bool (decide (Bis p a.toNat q b.toNat)))) := by
  have la : a.toNat < p.length := by have := ha.2; omega
  have lb : b.toNat < q.length := by have := hb.2; omega
  have hx := lst_pic ha.1 la
  have hy := lst_pic hb.1 lb
  have hx1 := hx.1
  have k1 : ∀ (w : World) (v : Value), ESl Ints w v p → Does Tryd.prog 60 [v, .int .i64 a] w (RetO w XR (lst p a.toNat)) := fun w v h => by
    have := LeastOf_ok w v p h a
    rwa [if_pos ha] at this
  have k2 : ∀ (w : World) (v : Value), ESl Ints w v q → Does Tryd.prog 60 [v, .int .i64 b] w (RetO w XR (lst q b.toNat)) := fun w v h => by
    have := LeastOf_ok w v q h b
    rwa [if_pos hb] at this
  have k3 : ∀ (w : World) (v : Value), ESl Ints w v (lst p a.toNat) → Does Tryd.prog 71 [v] w (Ret w (str (txt (lst p a.toNat)))) := fun w v h => by
    have := PictureText_ok w v _ h
    rwa [if_pos hx] at this
  have k4 : ∀ (w : World) (v : Value), ESl Ints w v (lst q b.toNat) → Does Tryd.prog 71 [v] w (Ret w (str (txt (lst q b.toNat)))) := fun w v h => by
    have := PictureText_ok w v _ h
    rwa [if_pos hy] at this
  have key : (lst p a.toNat = lst q b.toNat) ↔ Bis p a.toNat q b.toNat := lst_same ha.1.gr hb.1.gr la lb
  have key2 : txt (lst p a.toNat) = txt (lst q b.toNat) → lst p a.toNat = lst q b.toNat := txt_inj hx.gr hy.gr
  refine fn_of_W1 Tryd.func136 rfl Tryd.results136 Tryd.ntmps136 rfl ?_
  generalize lst p a.toNat = x at *
  generalize lst q b.toNat = y at *
  focus
    refine W_seq ?_; refine W_region rfl ?_; refine Wo rfl (opv_assign (v := .bool _) rfl) ?_; refine Wo_nil ?_; refine W_seq ?_; refine W_region rfl ?_; refine Wo rfl (opv_move (v := v) rfl) ?_
    refine Wo rfl (opv_move (v := .int _ _) rfl) ?_; refine Wo_call rfl (opc2 (a := v) (b := .int _ _) Tryd.call60 rfl rfl) (k1 _ _ (h)) ?_; rintro u1 w1 ⟨E1, hO1⟩; have hs1 := E1.size; refine Wo rfl (opv_assign (v := u1) rfl) ?_
    refine Wo_nil ?_; refine W_seq ?_; refine W_region rfl ?_; refine Wo rfl (opv_move (v := u) rfl) ?_; refine Wo rfl (opv_move (v := .int _ _) rfl) ?_
    refine Wo_call rfl (opc2 (a := u) (b := .int _ _) Tryd.call60 rfl rfl) (k2 _ _ ((Mono.mono E1 h'))) ?_; rintro u2 w2 ⟨E2, hO2⟩; have hs2 := E2.size; refine Wo rfl (opv_assign (v := u2) rfl) ?_; refine Wo_nil ?_; refine W_seq ?_
    refine W_region rfl ?_; refine Wo rfl (opv_move (v := u1) rfl) ?_; refine Wo rfl (opv_len Tryd.underlying49 rfl (Owned.read hO1)) ?_; refine Wo rfl (opv_gtr rfl rfl) ?_
    refine Wo_split_dec rfl (opv_move (v := .bool _) rfl) (fun h1 => ?_) (fun h1 => ?_); refine Wo rfl (opv_move (v := u1) rfl) ?_; refine Wo rfl (opv_len Tryd.underlying49 rfl (Owned.read hO1)) ?_
    refine Wo rfl (opv_move (v := u2) rfl) ?_; refine Wo rfl (opv_len Tryd.underlying49 rfl (Owned.read hO2)) ?_; refine Wo rfl (opv_eql rfl rfl) ?_; refine Wo rfl (opv_pick_t (v := .bool _) rfl rfl) ?_
    refine Wo_split_dec rfl (opv_move (v := .bool _) rfl) (fun h2 => ?_) (fun h2 => ?_); refine Wo rfl (opv_move (v := u1) rfl) ?_; refine Wo_call rfl (opc1 (a := u1) Tryd.call71 rfl) (k3 _ _ ((Mono.mono E2 (Owned.read hO1)))) ?_
    rintro _ w3 ⟨rfl, E3⟩; have hs3 := E3.size; refine Wo rfl (opv_move (v := u2) rfl) ?_; refine Wo_call rfl (opc1 (a := u2) Tryd.call71 rfl) (k4 _ _ ((Mono.mono E3 (Owned.read hO2)))) ?_; rintro _ w4 ⟨rfl, E4⟩; have hs4 := E4.size
    refine Wo rfl (opv_eql_str rfl rfl) ?_; refine Wo rfl (opv_pick_t (v := .bool _) rfl rfl) ?_; refine Wo rfl (opv_assign (v := .bool _) rfl) ?_; refine Wo_nil ?_; refine W_ret ?_; refine at_ret (v := .bool _) rfl ?_
    refine ⟨congrArg Value.bool ?_, (((E1.trans E2).trans E3).trans E4)⟩; rotate_left; refine Wo_skip rfl ?_; refine Wo_skip rfl ?_; refine Wo_skip rfl ?_; refine Wo_skip rfl ?_; refine Wo_skip rfl ?_
    refine Wo rfl (opv_pick_f (v := .bool _) rfl rfl) ?_; refine Wo rfl (opv_assign (v := .bool _) rfl) ?_; refine Wo_nil ?_; refine W_ret ?_; refine at_ret (v := .bool _) rfl ?_; refine ⟨congrArg Value.bool ?_, (E1.trans E2)⟩
    rotate_left; (exfalso; omega)
  · exact decide_eq_decide.2 ⟨fun e => key.1 (key2 e), fun e => by rw [key.2 e]⟩
  · exact (decide_eq_false fun hb => by have e := congrArg List.length (key.2 hb); omega).symm

open Classical in
theorem LeastOk_ok (w : World) (v : Value) (p : List (List Int)) (h : ESl Ints w v p) : Does Tryd.prog 76 [v] w (Ret w (.bool (decide (LeastP p)))) := by
  have hle := h.le
  by_cases hp : Pic p
  · have hn : Nod p 0 := ⟨hp, by omega, by have := hp.1; omega⟩
    have hx := lst_pic hp (a := 0) (by have := hp.1; omega)
    have hx1 := hx.1
    have k1 : ∀ (w : World) (v : Value), ESl Ints w v p → Does Tryd.prog 60 [v, .int .i64 0] w (RetO w XR (lst p 0)) := fun w v h => by
      have := LeastOf_ok w v p h 0
      rwa [if_pos hn] at this
    have k3 : ∀ (w : World) (v : Value), ESl Ints w v (lst p 0) → Does Tryd.prog 71 [v] w (Ret w (str (txt (lst p 0)))) := fun w v h => by
      have := PictureText_ok w v _ h
      rwa [if_pos hx] at this
    have k4 : ∀ (w : World) (v : Value), ESl Ints w v p → Does Tryd.prog 71 [v] w (Ret w (str (txt p))) := fun w v h => by
      have := PictureText_ok w v _ h
      rwa [if_pos hp] at this
    refine fn_of_W1 Tryd.func76 rfl Tryd.results76 Tryd.ntmps76 rfl ?_
    have key : LeastP p ↔ lst p 0 = p := ⟨fun h => h.2, fun h => ⟨hp, h⟩⟩
    have key2 : txt (lst p 0) = txt p → lst p 0 = p := txt_inj hx.gr hp.gr
    generalize lst p 0 = x at *
    focus
      refine W_seq ?_; refine W_region rfl ?_; refine Wo rfl (opv_assign (v := .bool _) rfl) ?_; refine Wo_nil ?_; refine W_seq ?_; refine W_region rfl ?_; refine Wo rfl (opv_move (v := v) rfl) ?_
      refine Wo_call rfl (opc2 (a := v) (b := .int _ _) Tryd.call60 rfl rfl) (k1 _ _ (h)) ?_; rintro u1 w1 ⟨E1, hO1⟩; have hs1 := E1.size; refine Wo rfl (opv_assign (v := u1) rfl) ?_; refine Wo_nil ?_; refine W_seq ?_
      refine W_region rfl ?_; refine Wo rfl (opv_move (v := u1) rfl) ?_; refine Wo rfl (opv_len Tryd.underlying49 rfl (Owned.read hO1)) ?_; refine Wo rfl (opv_gtr rfl rfl) ?_
      refine Wo_split_dec rfl (opv_move (v := .bool _) rfl) (fun h1 => ?_) (fun h1 => ?_); refine Wo rfl (opv_move (v := u1) rfl) ?_; refine Wo rfl (opv_len Tryd.underlying49 rfl (Owned.read hO1)) ?_
      refine Wo rfl (opv_move (v := v) rfl) ?_; refine Wo rfl (opv_len Tryd.underlying49 rfl h) ?_; refine Wo rfl (opv_eql rfl rfl) ?_; refine Wo rfl (opv_pick_t (v := .bool _) rfl rfl) ?_
      refine Wo_split_dec rfl (opv_move (v := .bool _) rfl) (fun h2 => ?_) (fun h2 => ?_); refine Wo rfl (opv_move (v := u1) rfl) ?_; refine Wo_call rfl (opc1 (a := u1) Tryd.call71 rfl) (k3 _ _ ((Owned.read hO1))) ?_
      rintro _ w2 ⟨rfl, E2⟩; have hs2 := E2.size; refine Wo rfl (opv_move (v := v) rfl) ?_; refine Wo_call rfl (opc1 (a := v) Tryd.call71 rfl) (k4 _ _ ((Mono.mono (E1.trans E2) h))) ?_; rintro _ w3 ⟨rfl, E3⟩; have hs3 := E3.size
      refine Wo rfl (opv_eql_str rfl rfl) ?_; refine Wo rfl (opv_pick_t (v := .bool _) rfl rfl) ?_; refine Wo rfl (opv_assign (v := .bool _) rfl) ?_; refine Wo_nil ?_; refine W_ret ?_; refine at_ret (v := .bool _) rfl ?_
      refine ⟨congrArg Value.bool ?_, ((E1.trans E2).trans E3)⟩; rotate_left; refine Wo_skip rfl ?_; refine Wo_skip rfl ?_; refine Wo_skip rfl ?_; refine Wo_skip rfl ?_; refine Wo_skip rfl ?_
      refine Wo rfl (opv_pick_f (v := .bool _) rfl rfl) ?_; refine Wo rfl (opv_assign (v := .bool _) rfl) ?_; refine Wo_nil ?_; refine W_ret ?_; refine at_ret (v := .bool _) rfl ?_; refine ⟨congrArg Value.bool ?_, E1⟩; rotate_left
      (exfalso; omega)
    · exact decide_eq_decide.2 ⟨fun e => key.2 (key2 e), fun e => by rw [key.1 e]⟩
    · exact (decide_eq_false fun hb => by have e := congrArg List.length (key.1 hb); omega).symm
  · have hn : ¬ Nod p 0 := fun h => hp h.1
    have k1 : ∀ (w : World) (v : Value), ESl Ints w v p → Does Tryd.prog 60 [v, .int .i64 0] w (RetO w XR []) := fun w v h => by
      have := LeastOf_ok w v p h 0
      rwa [if_neg hn] at this
    have hnil : (([] : List (List Int)).length : Int) = 0 := rfl
    refine fn_of_W1 Tryd.func76 rfl Tryd.results76 Tryd.ntmps76 rfl ?_
    focus
      refine W_seq ?_; refine W_region rfl ?_; refine Wo rfl (opv_assign (v := .bool _) rfl) ?_; refine Wo_nil ?_; refine W_seq ?_; refine W_region rfl ?_; refine Wo rfl (opv_move (v := v) rfl) ?_
      refine Wo_call rfl (opc2 (a := v) (b := .int _ _) Tryd.call60 rfl rfl) (k1 _ _ (h)) ?_; rintro u1 w1 ⟨E1, hO1⟩; have hs1 := E1.size; refine Wo rfl (opv_assign (v := u1) rfl) ?_; refine Wo_nil ?_; refine W_seq ?_
      refine W_region rfl ?_; refine Wo rfl (opv_move (v := u1) rfl) ?_; refine Wo rfl (opv_len Tryd.underlying49 rfl (Owned.read hO1)) ?_; refine Wo rfl (opv_gtr rfl rfl) ?_
      refine Wo_split_dec rfl (opv_move (v := .bool _) rfl) (fun h1 => ?_) (fun h1 => ?_); contradiction; refine Wo_skip rfl ?_; refine Wo_skip rfl ?_; refine Wo_skip rfl ?_; refine Wo_skip rfl ?_; refine Wo_skip rfl ?_
      refine Wo rfl (opv_pick_f (v := .bool _) rfl rfl) ?_; refine Wo rfl (opv_move (v := .bool _) rfl) ?_; refine Wo_skip rfl ?_; refine Wo_skip rfl ?_; refine Wo_skip rfl ?_; refine Wo_skip rfl ?_; refine Wo_skip rfl ?_
      refine Wo rfl (opv_pick_f (v := .bool _) rfl rfl) ?_; refine Wo rfl (opv_assign (v := .bool _) rfl) ?_; refine Wo_nil ?_; refine W_ret ?_; refine at_ret (v := .bool _) rfl ?_; refine ⟨congrArg Value.bool ?_, E1⟩
    exact (decide_eq_false fun hb => hp hb.1).symm

open Classical in
theorem spec_DeskOk_ok (w : World) (u1 u2 : Value) (d : Dsk) (h1 : ESl Ints w u1 d.now) (h2 : ESl (ESl Ints) w u2 d.past) : Does Tryd.prog 96 [.agg #[u1, u2]] w (Ret w (.bool (decide (DkOk d)))) := by
  obtain ⟨p, pp⟩ := d
  have hle := h2.le
  simp only at h1 h2 hle
  have icu1 : isCell u1 = true := by obtain ⟨_, _, rfl, _⟩ := h1; rfl
  have icu2 : isCell u2 = true := by obtain ⟨_, _, rfl, _⟩ := h2; rfl
  refine fn_of_W1 Tryd.func96 rfl Tryd.results96 Tryd.ntmps96 rfl ?_
  focus
    refine W_seq ?_; refine W_region rfl ?_; refine Wo_box rfl rfl rfl ?_; rintro b1 w1 hb1 E1 hB1; have hlb1 := hB1.lt; have hs1 := E1.size; refine Wo rfl (opv_assign (v := .bool _) rfl) ?_; refine Wo_nil ?_; refine W_seq ?_
    refine W_seq ?_; refine W_region rfl ?_; refine Wo rfl (opv_assign (v := .int _ _) rfl) ?_; refine Wo_nil ?_; refine W_block ?_
  refine W_loop [2, 3, 4, 5, 6, 7, 8, 9, 10, 11, 12, 13, 14, 15, 16, 17] (fun (k : Nat) => [(3, .int .i64 (k : Nat))]) (fun k w' => Ext w1 w' ∧ k ≤ pp.length ∧ ∀ q ∈ pp.take k, LeastP q) (fun x => pp.length - x) 0 (by repeat (first | exact trivial | refine And.intro rfl ?_)) ?_ ?_
  · exact ⟨Ext.refl _, Nat.zero_le _, by simp⟩
  rintro k ρj w2 ⟨E2, hk, hall⟩
  by_cases hlt : k < pp.length
  · by_cases hq : LeastP pp[k]
    · have kq : ∀ (w : World) (v : Value), ESl Ints w v pp[k] → Does Tryd.prog 76 [v] w (Ret w (.bool true)) := fun w v h => by
        have := LeastOk_ok w v _ h
        rwa [decide_eq_true hq] at this
      focus
        have szE2 := E2.size; have szE1 := E1.size; refine W_seq ?_; refine W_seq ?_; refine W_region rfl ?_; refine Wo rfl (opv_move (v := .int _ _) rfl) ?_; refine Wo rfl (opv_fieldAddr Tryd.underlying53 rfl rfl Tryd.sizeOf51 rfl) ?_
        refine Wo (v := u2) rfl (opv_load Tryd.isAgg51 rfl ((hB1.ext E2).cell rfl)) ?_; refine Wo rfl (opv_len Tryd.underlying51 rfl h2) ?_; refine Wo rfl (opv_lss rfl rfl) ?_; refine Wo_nil ?_
        refine W_cond_dec rfl (fun h3 => ?_) (fun h3 => ?_); refine W_skip ?_; refine W_seq ?_; refine W_block ?_; refine W_seq ?_; refine W_region rfl ?_; refine Wo rfl (opv_fieldAddr Tryd.underlying53 rfl rfl Tryd.sizeOf51 rfl) ?_
        refine Wo (v := u2) rfl (opv_load Tryd.isAgg51 rfl ((hB1.ext E2).cell rfl)) ?_; refine Wo rfl (opv_move (v := .int _ _) rfl) ?_
        refine Wo_get Tryd.underlying51 Tryd.sizeOf49 Tryd.isAgg49 rfl (fun _ => rfl) rfl h2 (E1.trans E2) rfl (by first | omega | (simp <;> omega)) ?_; rintro _ u3 hu1
        refine Wo_call rfl (opc1 (a := u3) Tryd.call76 rfl) (kq _ _ ((Mono.mono (E1.trans E2) hu1))) ?_; rintro _ w3 ⟨rfl, E3⟩; have hs2 := E3.size; refine Wo rfl (opv_not rfl) ?_; refine Wo_nil ?_
        refine W_cond rfl (fun h4 => ?_) (fun h4 => ?_); contradiction; refine W_skip ?_; refine W_region rfl ?_; refine Wo rfl (opv_move (v := .int _ _) rfl) ?_; refine Wo rfl (opv_add rfl rfl (by omega)) ?_
        refine Wo rfl (opv_assign (v := .int _ _) rfl) ?_; refine Wo_nil ?_; rotate_left; (exfalso; omega)
      refine ⟨(k + 1), by repeat (first | exact trivial | refine And.intro rfl ?_), by repeat (first | with_reducible exact Same.refl | refine Same.upd rfl ?_ | refine Same.upds rfl ?_ | refine Same.mix rfl ?_), ?_, ?_⟩
      · refine ⟨by exact (E2.trans E3), by omega, fun q hq' => ?_⟩
        rw [take_snoc _ _ hlt] at hq'
        rcases List.mem_append.1 hq' with h | h
        · exact hall q h
        · rw [List.mem_singleton.1 h]; exact hq
      · omega
    · have kq : ∀ (w : World) (v : Value), ESl Ints w v pp[k] → Does Tryd.prog 76 [v] w (Ret w (.bool false)) := fun w v h => by
        have := LeastOk_ok w v _ h
        rwa [decide_eq_false hq] at this
      focus
        have szE2 := E2.size; have szE1 := E1.size; refine W_seq ?_; refine W_seq ?_; refine W_region rfl ?_; refine Wo rfl (opv_move (v := .int _ _) rfl) ?_; refine Wo rfl (opv_fieldAddr Tryd.underlying53 rfl rfl Tryd.sizeOf51 rfl) ?_
        refine Wo (v := u2) rfl (opv_load Tryd.isAgg51 rfl ((hB1.ext E2).cell rfl)) ?_; refine Wo rfl (opv_len Tryd.underlying51 rfl h2) ?_; refine Wo rfl (opv_lss rfl rfl) ?_; refine Wo_nil ?_
        refine W_cond_dec rfl (fun h3 => ?_) (fun h3 => ?_); refine W_skip ?_; refine W_seq ?_; refine W_block ?_; refine W_seq ?_; refine W_region rfl ?_; refine Wo rfl (opv_fieldAddr Tryd.underlying53 rfl rfl Tryd.sizeOf51 rfl) ?_
        refine Wo (v := u2) rfl (opv_load Tryd.isAgg51 rfl ((hB1.ext E2).cell rfl)) ?_; refine Wo rfl (opv_move (v := .int _ _) rfl) ?_
        refine Wo_get Tryd.underlying51 Tryd.sizeOf49 Tryd.isAgg49 rfl (fun _ => rfl) rfl h2 (E1.trans E2) rfl (by first | omega | (simp <;> omega)) ?_; rintro _ u3 hu1
        refine Wo_call rfl (opc1 (a := u3) Tryd.call76 rfl) (kq _ _ ((Mono.mono (E1.trans E2) hu1))) ?_; rintro _ w3 ⟨rfl, E3⟩; have hs2 := E3.size; refine Wo rfl (opv_not rfl) ?_; refine Wo_nil ?_
        refine W_cond rfl (fun h4 => ?_) (fun h4 => ?_); refine W_seq ?_; refine W_region rfl ?_; refine Wo rfl (opv_assign (v := .bool _) rfl) ?_; refine Wo_nil ?_; refine W_ret ?_; refine at_ret (v := .bool _) rfl ?_
        refine ⟨congrArg Value.bool ?_, ((E1.trans E2).trans E3)⟩; rotate_left; contradiction; (exfalso; omega)
      exact (decide_eq_false fun h => hq (h.2.2 _ (List.getElem_mem hlt))).symm
  · obtain rfl : k = pp.length := by omega
    rw [List.take_length] at hall
    by_cases hq : LeastP p
    · have kq : ∀ (w : World) (v : Value), ESl Ints w v p → Does Tryd.prog 76 [v] w (Ret w (.bool true)) := fun w v h => by
        have := LeastOk_ok w v _ h
        rwa [decide_eq_true hq] at this
      focus
        have szE2 := E2.size; have szE1 := E1.size; refine W_seq ?_; refine W_seq ?_; refine W_region rfl ?_; refine Wo rfl (opv_move (v := .int _ _) rfl) ?_; refine Wo rfl (opv_fieldAddr Tryd.underlying53 rfl rfl Tryd.sizeOf51 rfl) ?_
        refine Wo (v := u2) rfl (opv_load Tryd.isAgg51 rfl ((hB1.ext E2).cell rfl)) ?_; refine Wo rfl (opv_len Tryd.underlying51 rfl h2) ?_; refine Wo rfl (opv_lss rfl rfl) ?_; refine Wo_nil ?_
        refine W_cond_dec rfl (fun h3 => ?_) (fun h3 => ?_); (exfalso; omega); refine W_exit ?_; refine exitX_same ?_; refine W_seq ?_; refine W_region rfl ?_; refine Wo rfl (opv_fieldAddr Tryd.underlying53 rfl rfl Tryd.sizeOf49 rfl) ?_
        refine Wo (v := u1) rfl (opv_load Tryd.isAgg49 rfl ((hB1.ext E2).cell rfl)) ?_; refine Wo_call rfl (opc1 (a := u1) Tryd.call76 rfl) (kq _ _ ((Mono.mono (E1.trans E2) h1))) ?_; rintro _ w3 ⟨rfl, E3⟩; have hs2 := E3.size
        refine Wo rfl (opv_move (v := .bool _) rfl) ?_; refine Wo rfl (opv_fieldAddr Tryd.underlying53 rfl rfl Tryd.sizeOf51 rfl) ?_; refine Wo (v := u2) rfl (opv_load Tryd.isAgg51 rfl ((hB1.ext (E2.trans E3)).cell rfl)) ?_
        refine Wo rfl (opv_len Tryd.underlying51 rfl h2) ?_; refine Wo rfl (opv_leq rfl rfl) ?_; refine Wo rfl (opv_pick_t (v := .bool _) rfl rfl) ?_; refine Wo rfl (opv_assign (v := .bool _) rfl) ?_; refine Wo_nil ?_; refine W_ret ?_
        refine at_ret (v := .bool _) rfl ?_; refine ⟨congrArg Value.bool ?_, ((E1.trans E2).trans E3)⟩
      exact decide_eq_decide.2 ⟨fun h => ⟨hq, show pp.length ≤ 8 by omega, hall⟩, fun h => by have : pp.length ≤ 8 := h.2.1; omega⟩
    · have kq : ∀ (w : World) (v : Value), ESl Ints w v p → Does Tryd.prog 76 [v] w (Ret w (.bool false)) := fun w v h => by
        have := LeastOk_ok w v _ h
        rwa [decide_eq_false hq] at this
      focus
        have szE2 := E2.size; have szE1 := E1.size; refine W_seq ?_; refine W_seq ?_; refine W_region rfl ?_; refine Wo rfl (opv_move (v := .int _ _) rfl) ?_; refine Wo rfl (opv_fieldAddr Tryd.underlying53 rfl rfl Tryd.sizeOf51 rfl) ?_
        refine Wo (v := u2) rfl (opv_load Tryd.isAgg51 rfl ((hB1.ext E2).cell rfl)) ?_; refine Wo rfl (opv_len Tryd.underlying51 rfl h2) ?_; refine Wo rfl (opv_lss rfl rfl) ?_; refine Wo_nil ?_
        refine W_cond_dec rfl (fun h3 => ?_) (fun h3 => ?_); (exfalso; omega); refine W_exit ?_; refine exitX_same ?_; refine W_seq ?_; refine W_region rfl ?_; refine Wo rfl (opv_fieldAddr Tryd.underlying53 rfl rfl Tryd.sizeOf49 rfl) ?_
        refine Wo (v := u1) rfl (opv_load Tryd.isAgg49 rfl ((hB1.ext E2).cell rfl)) ?_; refine Wo_call rfl (opc1 (a := u1) Tryd.call76 rfl) (kq _ _ ((Mono.mono (E1.trans E2) h1))) ?_; rintro _ w3 ⟨rfl, E3⟩; have hs2 := E3.size
        refine Wo rfl (opv_move (v := .bool _) rfl) ?_; refine Wo_skip rfl ?_; refine Wo_skip rfl ?_; refine Wo_skip rfl ?_; refine Wo_skip rfl ?_; refine Wo rfl (opv_pick_f (v := .bool _) rfl rfl) ?_
        refine Wo rfl (opv_assign (v := .bool _) rfl) ?_; refine Wo_nil ?_; refine W_ret ?_; refine at_ret (v := .bool _) rfl ?_; refine ⟨congrArg Value.bool ?_, ((E1.trans E2).trans E3)⟩
      exact (decide_eq_false fun h => hq h.1).symm

end Go.Proofs.YtgphoihilheoeaaDoor
namespace Go.Proofs.YtgphoihilheoeaaDoor
open Go.Hs
set_option maxRecDepth 10000
set_option maxHeartbeats 4000000
set_option linter.unusedVariables false
set_option linter.unusedSimpArgs false

theorem shift_row {n : Nat} {r : List Int} {o : Nat} (j : Nat) (hj : j < r.length) (hn : o + r.length ≤ n) : (List.replicate o 0 ++ r.take j ++ List.replicate (n - o - j) 0).set (o + j) r[j] = List.replicate o 0 ++ r.take (j + 1) ++ List.replicate (n - o - (j + 1)) 0 := by
  rw [List.append_assoc, List.set_append_right _ _ (by simp), List.append_assoc]
  congr 1
  rw [List.length_replicate, Nat.add_sub_cancel_left, List.set_append_right _ _ (by simp; omega)]
  rw [show j - (r.take j).length = 0 by simp; omega, show n - o - j = (n - o - (j + 1)) + 1 by omega, List.replicate_succ, List.set_cons_zero, take_snoc _ _ hj, List.append_assoc]
  rfl
theorem l6Put_ok (w : World) (v u vl vr : Value) (p q : List (List Int)) (L R : List Nat) (h : ESl Ints w v p) (h' : ESl Ints w u q) (hL : Ints w vl (ints L)) (hR : Ints w vr (ints R)) (hp : Pic p) (hq : Pic q ∨ q = [])
    (hl : ∀ x ∈ L, x < p.length) (hr : ∀ x ∈ R, x < q.length) (hll : L.length ≤ 1000) (hrl : R.length ≤ 1000) :
    Does Tryd.prog 135 [v, u, vl, vr] w (RetO w XR (put (bes p q) (L ++ R.map (p.length + ·)))) := by
  have hp5 := hp.2.1
  have hq5 : q.length ≤ 5 := by rcases hq with hq | rfl; exact hq.2.1; simp
  have hqrow : ∀ (k : Nat) (hk : k < q.length), q[k].length = q.length := fun k hk => by
    rcases hq with hq | rfl
    · exact hq.row hk
    · cases hk
  have hle := h.le
  have hle' := h'.le
  have hil := ints_len L
  have hir := ints_len R
  obtain ⟨g, hg⟩ : ∃ g, g = p.length + q.length := ⟨_, rfl⟩
  refine fn_of_W1 Tryd.func135 rfl Tryd.results135 Tryd.ntmps135 rfl ?_
  have keepR : True := trivial
  focus
    refine W_seq ?_; refine W_region rfl ?_; refine Wo rfl (opv_assign (v := .slice _ _ _) rfl) ?_; refine Wo_nil ?_; refine W_seq ?_; refine W_region rfl ?_; refine Wo rfl (opv_move (v := v) rfl) ?_
    refine Wo rfl (opv_len Tryd.underlying49 rfl h) ?_; refine Wo rfl (opv_add rfl rfl (by omega)) ?_; refine Wo rfl (opv_move (v := u) rfl) ?_; refine Wo rfl (opv_len Tryd.underlying49 rfl h') ?_
    refine Wo rfl (opv_add rfl rfl (by omega)) ?_; refine Wo rfl (opv_assign (v := .int _ _) rfl) ?_; refine Wo_nil ?_; refine W_seq ?_; refine W_region rfl ?_; refine Wo rfl (opv_move (v := .int _ _) rfl) ?_
    refine Wo_makeI rfl el80 (int_z (by omega) rfl) (by omega) ?_; rintro b1 w1 hb1 b1lt E1 hO1; have hs1 := E1.size
    refine Wo_buildSliceH (ps := [(0, .slice _ _ _)]) (cs := [_]) rfl Tryd.underlying49 Tryd.sizeOf80 Tryd.zeroValue80 rfl rfl rfl rfl ?_; rintro b2 w2 hb2 E2 hB1 hHb2; have hlb2 := hB1.lt; have hs2 := E2.size
    refine Wo rfl (opv_assign (v := .slice _ _ _) rfl) ?_; refine Wo_nil ?_; refine W_seq ?_; refine W_seq ?_; refine W_region rfl ?_; refine Wo rfl (opv_assign (v := .int _ _) rfl) ?_; refine Wo_nil ?_; refine W_block ?_
  clear keepR
  obtain ⟨N, hN⟩ : ∃ N, N = (1 + (p.length : Int) + (q.length : Int)).toNat := ⟨_, rfl⟩
  have hNg : N = g + 1 := by omega
  rw [← hN] at hO1 hHb2
  have hO0 : Owned w.heap.size XR w2 (.slice (some ⟨b2, 0, none⟩) 1 1) [ro g []] := by
    rw [ro_nil, ← hNg]
    exact Owned.single (hO1.toB.ext E2) hHb2 (by omega) (by omega)
  clear hO1 hHb2 hB1
  have hrl0 : ∀ ms, (ro g ms).length = g + 1 := fun ms => ro_len
  refine W_loop [11, 28, 29, 30, 31, 32, 33, 34, 35, 36, 37, 38, 39, 40, 41, 42] (fun ((k, rows) : Nat × List (List Int)) => [(11, .int .i64 (k : Nat))]) (fun (k, rows) w' => Ext w w' ∧ k ≤ L.length ∧ Owned w.heap.size XR w' (.slice (some ⟨b2, 0, none⟩) 1 1) rows ∧ rows = [ro g (L.take k)]) (fun x => L.length - x.1) (0, [ro g []]) (by repeat (first | exact trivial | refine And.intro rfl ?_)) ?_ ?_
  · exact ⟨by exact (E1.trans E2), Nat.zero_le _, hO0, rfl⟩
  clear hO0
  rintro ⟨k, rows⟩ ρj w3 ⟨E3, hk, hO0, hrw⟩
  have hlr : rows.length = 1 := by rw [hrw]; rfl
  have hr0 : rows[0]'(by omega) = ro g (L.take k) := by simp only [hrw, List.getElem_cons_zero]
  have hr0l : (rows[0]'(by omega)).length = g + 1 := by rw [hr0]; exact hrl0 _
  obtain ⟨br, cr, hRw, hbr1, hbr2⟩ := hO0.rowAt (i := 0) (by omega) (by omega)
  by_cases hlt : k < L.length
  · have hgk : (ints L)[k]'(by omega) = (L[k] : Int) := ints_get hlt
    have hLk := hl L[k] (List.getElem_mem hlt)
    have hcell := rowAt_cell hRw
    have heldS : w = w := rfl
    focus
      have szE3 := E3.size; have szE2 := E2.size; have szE1 := E1.size; refine W_seq ?_; refine W_seq ?_; refine W_region rfl ?_; refine Wo rfl (opv_move (v := .int _ _) rfl) ?_; refine Wo rfl (opv_move (v := vl) rfl) ?_
      refine Wo rfl (opv_len Tryd.underlying80 rfl hL) ?_; refine Wo rfl (opv_lss rfl rfl) ?_; refine Wo_nil ?_; refine W_cond_dec rfl (fun h1 => ?_) (fun h1 => ?_); refine W_skip ?_; refine W_seq ?_; refine W_block ?_
      refine W_held (fun w' => Ext w w') mixed rfl (by kernel_rfl) ?_; intro w4 E4 K1 hz1; have hs3 := E4.size; refine Wh_take 0 rfl (by kernel_rfl) (by kernel_rfl) rfl (fun _ _ => opv_move (v := .slice _ _ _) rfl) (E3.trans E4) ?_
      refine Wh_take 1 rfl (by kernel_rfl) (by kernel_rfl) rfl (fun _ _ => opv_indexAddr (k := 0) Tryd.underlying49 Tryd.sizeOf80 rfl rfl (by omega)) (E3.trans E4) ?_
      refine Wh_take 3 rfl (by kernel_rfl) (by kernel_rfl) rfl (fun _ _ => opv_move (v := vl) rfl) (E3.trans E4) ?_; refine Wh_take 4 rfl (by kernel_rfl) (by kernel_rfl) rfl (fun _ _ => opv_move (v := .int _ _) rfl) (E3.trans E4) ?_
      refine Wh_get 5 6 rfl (by kernel_rfl) (by kernel_rfl) rfl rfl (by kernel_rfl) (by kernel_rfl) (fun _ => rfl) Tryd.underlying80 Tryd.sizeOf3 Tryd.isAgg3 rfl hL (fun w' hw' => Ext.trans (Ext.refl _) hw') rfl (by first | omega | (simp <;> omega)) (E3.trans E4) ?_
      rintro _ _ rfl; refine Wh_take 7 rfl (by kernel_rfl) (by kernel_rfl) rfl (fun _ _ => opv_add rfl rfl (by omega)) (E3.trans E4) ?_; refine Wh_all (rs := [2]) (by kernel_rfl) rfl ?_; refine WhAll_cons rfl ?_ ?_
      refine Wo rfl (opv_load Tryd.isAgg80 rfl (E4.cell hcell)) ?_; refine Wo_nil ?_; refine ⟨(E3.trans E4), ?_⟩
      refine Wh_take 8 rfl (by kernel_rfl) (by kernel_rfl) rfl (fun _ _ => opv_indexAddr_z Tryd.underlying80 Tryd.sizeOf3 rfl rfl (by omega)) (E3.trans E4) ?_; refine Wh_all (rs := [9]) (by kernel_rfl) rfl ?_; refine WhAll_cons rfl ?_ ?_
      refine Wo_gset rfl Tryd.sizeOf3 rfl rfl (hO0.toB.ext E4) (hRw.ext E4) (by first | omega | (simp <;> omega)) (by first | omega | (simp <;> omega)) ?_; rintro w5 hO0 hRw On1 K2 hz2; have E5 := On1.ext1 (E3.trans E4) (by omega)
      have hs4 := On1.size; refine Wo_nil ?_; refine ⟨E5, ?_⟩; refine Wh_done (by kernel_rfl) ?_; refine W_region rfl ?_; refine Wo rfl (opv_move (v := .int _ _) rfl) ?_; refine Wo rfl (opv_add rfl rfl (by omega)) ?_
      refine Wo rfl (opv_assign (v := .int _ _) rfl) ?_; refine Wo_nil ?_; rotate_left; exact WhAll_nil; exact WhAll_nil; (exfalso; omega)
    refine ⟨((k + 1, rows.set 0 (rows[0].set (1 + (ints L)[k]'(by omega)).toNat 1))), by repeat (first | exact trivial | refine And.intro rfl ?_), by repeat (first | with_reducible exact Same.refl | refine Same.upd rfl ?_ | refine Same.upds rfl ?_ | refine Same.mix rfl ?_), ?_, ?_⟩
    · refine ⟨by exact E5, by omega, by exact hO0, ?_⟩
      rw [row_next (Q := rows) (i := 0) (r := ro g (L.take k)) (r' := ro g (L.take (k + 1))) (by rw [hrw]; rfl) (by omega) ?_]
      · rw [hrw]; rfl
      · rw [hr0, show (1 + (ints L)[k]'(by omega)).toNat = L[k] + 1 by rw [hgk]; omega, ro_step (by omega), ← take_snoc]
    · simp only; omega
  · obtain rfl : k = L.length := by omega
    rw [List.take_length] at hrw hr0
    clear hRw
    focus
      have szE3 := E3.size; have szE2 := E2.size; have szE1 := E1.size; refine W_seq ?_; refine W_seq ?_; refine W_region rfl ?_; refine Wo rfl (opv_move (v := .int _ _) rfl) ?_; refine Wo rfl (opv_move (v := vl) rfl) ?_
      refine Wo rfl (opv_len Tryd.underlying80 rfl hL) ?_; refine Wo rfl (opv_lss rfl rfl) ?_; refine Wo_nil ?_; refine W_cond_dec rfl (fun h1 => ?_) (fun h1 => ?_); (exfalso; omega); refine W_exit ?_; refine exitX_same ?_
      refine W_seq ?_; refine W_seq ?_; refine W_region rfl ?_; refine Wo rfl (opv_assign (v := .int _ _) rfl) ?_; refine Wo_nil ?_; refine W_block ?_
    refine W_loop [12, 43, 44, 45, 46, 47, 48, 49, 50, 51, 52, 53, 54, 55, 56, 57, 58, 59, 60] (fun ((k, rows) : Nat × List (List Int)) => [(12, .int .i64 (k : Nat))]) (fun (k, rows) w' => Ext w w' ∧ k ≤ R.length ∧ Owned w.heap.size XR w' (.slice (some ⟨b2, 0, none⟩) 1 1) rows ∧ rows = [ro g (L ++ (R.take k).map (p.length + ·))]) (fun x => R.length - x.1) (0, rows) (by repeat (first | exact trivial | refine And.intro rfl ?_)) ?_ ?_
    · exact ⟨by exact E3, Nat.zero_le _, hO0, by rw [hrw]; simp⟩
    clear hO0 hr0 hr0l hlr hrw
    rintro ⟨k, rows⟩ ρk w4 ⟨E4, hk, hO0, hrw⟩
    have hlr : rows.length = 1 := by rw [hrw]; rfl
    have hr0 : rows[0]'(by omega) = ro g (L ++ (R.take k).map (p.length + ·)) := by simp only [hrw, List.getElem_cons_zero]
    have hr0l : (rows[0]'(by omega)).length = g + 1 := by rw [hr0]; exact hrl0 _
    obtain ⟨br, cr, hRw, hbr1, hbr2⟩ := hO0.rowAt (i := 0) (by omega) (by omega)
    by_cases hlt : k < R.length
    · have hgk : (ints R)[k]'(by omega) = (R[k] : Int) := ints_get hlt
      have hRk := hr R[k] (List.getElem_mem hlt)
      have hcell := rowAt_cell hRw
      have heldS : w = w := rfl
      focus
        have szE4 := E4.size; have szE3 := E3.size; have szE2 := E2.size; have szE1 := E1.size; refine W_seq ?_; refine W_seq ?_; refine W_region rfl ?_; refine Wo rfl (opv_move (v := .int _ _) rfl) ?_
        refine Wo rfl (opv_move (v := vr) rfl) ?_; refine Wo rfl (opv_len Tryd.underlying80 rfl hR) ?_; refine Wo rfl (opv_lss rfl rfl) ?_; refine Wo_nil ?_; refine W_cond_dec rfl (fun h2 => ?_) (fun h2 => ?_); refine W_skip ?_
        refine W_seq ?_; refine W_block ?_; refine W_held (fun w' => Ext w w') mixed rfl (by kernel_rfl) ?_; intro w5 E5 K1 hz1; have hs3 := E5.size
        refine Wh_take 0 rfl (by kernel_rfl) (by kernel_rfl) rfl (fun _ _ => opv_move (v := .slice _ _ _) rfl) (E4.trans E5) ?_
        refine Wh_take 1 rfl (by kernel_rfl) (by kernel_rfl) rfl (fun _ _ => opv_indexAddr (k := 0) Tryd.underlying49 Tryd.sizeOf80 rfl rfl (by omega)) (E4.trans E5) ?_
        refine Wh_take 3 rfl (by kernel_rfl) (by kernel_rfl) rfl (fun _ _ => opv_move (v := v) rfl) (E4.trans E5) ?_; refine Wh_take 4 rfl (by kernel_rfl) (by kernel_rfl) rfl (fun _ _ => opv_len Tryd.underlying49 rfl h) (E4.trans E5) ?_
        refine Wh_take 5 rfl (by kernel_rfl) (by kernel_rfl) rfl (fun _ _ => opv_add rfl rfl (by omega)) (E4.trans E5) ?_; refine Wh_take 6 rfl (by kernel_rfl) (by kernel_rfl) rfl (fun _ _ => opv_move (v := vr) rfl) (E4.trans E5) ?_
        refine Wh_take 7 rfl (by kernel_rfl) (by kernel_rfl) rfl (fun _ _ => opv_move (v := .int _ _) rfl) (E4.trans E5) ?_
        refine Wh_get 8 9 rfl (by kernel_rfl) (by kernel_rfl) rfl rfl (by kernel_rfl) (by kernel_rfl) (fun _ => rfl) Tryd.underlying80 Tryd.sizeOf3 Tryd.isAgg3 rfl hR (fun w' hw' => Ext.trans (Ext.refl _) hw') rfl (by first | omega | (simp <;> omega)) (E4.trans E5) ?_
        rintro _ _ rfl; refine Wh_take 10 rfl (by kernel_rfl) (by kernel_rfl) rfl (fun _ _ => opv_add rfl rfl (by omega)) (E4.trans E5) ?_; refine Wh_all (rs := [2]) (by kernel_rfl) rfl ?_; refine WhAll_cons rfl ?_ ?_
        refine Wo rfl (opv_load Tryd.isAgg80 rfl (E5.cell hcell)) ?_; refine Wo_nil ?_; refine ⟨(E4.trans E5), ?_⟩
        refine Wh_take 11 rfl (by kernel_rfl) (by kernel_rfl) rfl (fun _ _ => opv_indexAddr_z Tryd.underlying80 Tryd.sizeOf3 rfl rfl (by omega)) (E4.trans E5) ?_; refine Wh_all (rs := [12]) (by kernel_rfl) rfl ?_
        refine WhAll_cons rfl ?_ ?_; refine Wo_gset rfl Tryd.sizeOf3 rfl rfl (hO0.toB.ext E5) (hRw.ext E5) (by first | omega | (simp <;> omega)) (by first | omega | (simp <;> omega)) ?_; rintro w6 hO0 hRw On1 K2 hz2
        have E6 := On1.ext1 (E4.trans E5) (by omega); have hs4 := On1.size; refine Wo_nil ?_; refine ⟨E6, ?_⟩; refine Wh_done (by kernel_rfl) ?_; refine W_region rfl ?_; refine Wo rfl (opv_move (v := .int _ _) rfl) ?_
        refine Wo rfl (opv_add rfl rfl (by omega)) ?_; refine Wo rfl (opv_assign (v := .int _ _) rfl) ?_; refine Wo_nil ?_; rotate_left; exact WhAll_nil; exact WhAll_nil; (exfalso; omega)
      refine ⟨((k + 1, rows.set 0 (rows[0].set (1 + (p.length : Int) + (ints R)[k]'(by omega)).toNat 1))), by repeat (first | exact trivial | refine And.intro rfl ?_), by repeat (first | with_reducible exact Same.refl | refine Same.upd rfl ?_ | refine Same.upds rfl ?_ | refine Same.mix rfl ?_), ?_, ?_⟩
      · refine ⟨by exact E6, by omega, by exact hO0, ?_⟩
        rw [row_next (Q := rows) (i := 0) (r := ro g (L ++ (R.take k).map (p.length + ·))) (r' := ro g (L ++ (R.take (k + 1)).map (p.length + ·))) (by rw [hrw]; rfl) (by omega) ?_]
        · rw [hrw]; rfl
        · rw [hr0, show (1 + (p.length : Int) + (ints R)[k]'(by omega)).toNat = (p.length + R[k]) + 1 by rw [hgk]; omega, ro_step (by omega), take_snoc _ _ hlt, List.map_append, List.append_assoc]
          rfl
      · simp only; omega
    · obtain rfl : k = R.length := by omega
      rw [List.take_length] at hrw hr0
      obtain ⟨ms, hms⟩ : ∃ ms, ms = L ++ R.map (p.length + ·) := ⟨_, rfl⟩
      rw [← hms] at hrw hr0 ⊢
      clear hRw
      focus
        have szE4 := E4.size; have szE3 := E3.size; have szE2 := E2.size; have szE1 := E1.size; refine W_seq ?_; refine W_seq ?_; refine W_region rfl ?_; refine Wo rfl (opv_move (v := .int _ _) rfl) ?_
        refine Wo rfl (opv_move (v := vr) rfl) ?_; refine Wo rfl (opv_len Tryd.underlying80 rfl hR) ?_; refine Wo rfl (opv_lss rfl rfl) ?_; refine Wo_nil ?_; refine W_cond_dec rfl (fun h2 => ?_) (fun h2 => ?_); (exfalso; omega)
        refine W_exit ?_; refine exitX_same ?_; refine W_seq ?_; refine W_seq ?_; refine W_region rfl ?_; refine Wo rfl (opv_assign (v := .int _ _) rfl) ?_; refine Wo_nil ?_; refine W_block ?_
      refine W_loop [10, 13, 14, 15, 61, 62, 63, 64, 65, 66, 67, 68, 69, 70, 71, 72, 73, 74, 75, 76, 77, 78, 79, 80, 81, 82, 83, 84, 85, 86, 87, 88, 89] (fun ((k, o) : Nat × Value) => [(13, .int .i64 (k : Nat)), (10, o)]) (fun (k, o) w' => Ext w w' ∧ k ≤ p.length ∧ Owned w.heap.size XR w' o (ro g ms :: (p.take k).map fun r => List.replicate 1 0 ++ r ++ List.replicate q.length 0)) (fun x => p.length - x.1) (0, .slice (some ⟨b2, 0, none⟩) 1 1) (by repeat (first | exact trivial | refine And.intro rfl ?_)) ?_ ?_
      · exact ⟨by exact E4, Nat.zero_le _, by rw [hrw] at hO0; exact hO0⟩
      clear hO0 hr0 hr0l hlr hrw
      rintro ⟨k, o⟩ ρl w5 ⟨E5, hk, hO0⟩
      have htl : (ro g ms :: (p.take k).map fun r => List.replicate 1 0 ++ r ++ List.replicate q.length 0).length = k + 1 := by simp; omega
      by_cases hlt : k < p.length
      · have hrow := hp.row hlt
        focus
          have szE5 := E5.size; have szE4 := E4.size; have szE3 := E3.size; have szE2 := E2.size; have szE1 := E1.size; refine W_seq ?_; refine W_seq ?_; refine W_region rfl ?_; refine Wo rfl (opv_move (v := .int _ _) rfl) ?_
          refine Wo rfl (opv_move (v := v) rfl) ?_; refine Wo rfl (opv_len Tryd.underlying49 rfl h) ?_; refine Wo rfl (opv_lss rfl rfl) ?_; refine Wo_nil ?_; refine W_cond_dec rfl (fun h3 => ?_) (fun h3 => ?_); refine W_skip ?_
          refine W_seq ?_; refine W_block ?_; refine W_seq ?_; refine W_region rfl ?_; refine Wo rfl (opv_move (v := .int _ _) rfl) ?_; refine Wo_makeI rfl el80 (int_z (by omega) rfl) (by omega) ?_; rintro b3 w6 hb3 b3lt E6 hO1
          have hs3 := E6.size; refine Wo rfl (opv_assign (v := .slice _ _ _) rfl) ?_; refine Wo_nil ?_; refine W_seq ?_; refine W_seq ?_; refine W_region rfl ?_; refine Wo rfl (opv_assign (v := .int _ _) rfl) ?_; refine Wo_nil ?_
          refine W_block ?_; rotate_left; (exfalso; omega)
        have hbb := hO1.lt_own (k := b3) rfl
        have hrl3 : ∀ j, j ≤ p.length → (List.replicate 1 (0 : Int) ++ p[k].take j ++ List.replicate ((1 + (p.length : Int) + (q.length : Int)).toNat - 1 - j) 0).length = g + 1 := fun j hj => by simp; omega
        refine W_loop [15, 69, 70, 71, 72, 73, 74, 75, 76, 77, 78, 79, 80, 81, 82, 83, 84, 85] (fun (j : Nat) => [(15, .int .i64 (j : Nat))]) (fun j w' => Ext w w' ∧ w5.heap.size ≤ w'.heap.size ∧ j ≤ p.length ∧ OwnedB w.heap.size w5.heap.size XR w' o (ro g ms :: (p.take k).map fun r => List.replicate 1 0 ++ r ++ List.replicate q.length 0) ∧ Owned w5.heap.size XI w' (.slice (some ⟨b3, 0, none⟩) (1 + (p.length : Int) + (q.length : Int)).toNat (1 + (p.length : Int) + (q.length : Int)).toNat) (List.replicate 1 0 ++ p[k].take j ++ List.replicate ((1 + (p.length : Int) + (q.length : Int)).toNat - 1 - j) 0)) (fun j => p.length - j) 0 (by repeat (first | exact trivial | refine And.intro rfl ?_)) ?_ ?_
        · refine ⟨by exact (E5.trans E6), by omega, Nat.zero_le _, hO0.toB.ext (by exact E6), ?_⟩
          rw [show List.replicate 1 (0 : Int) ++ p[k].take 0 ++ List.replicate ((1 + (p.length : Int) + (q.length : Int)).toNat - 1 - 0) 0 = List.replicate (1 + (p.length : Int) + (q.length : Int)).toNat 0 by
            rw [List.take_zero, List.append_nil, List.replicate_append_replicate]; congr 1; omega]
          exact hO1
        clear hO0 hO1
        rintro j ρm w7 ⟨E7, hs7, hj, hO0, hO1⟩
        have hrj := hrl3 j hj
        by_cases hjl : j < p.length
        · focus
            have szE7 := E7.size; have szE6 := E6.size; have szE5 := E5.size; have szE4 := E4.size; have szE3 := E3.size; have szE2 := E2.size; have szE1 := E1.size; refine W_seq ?_; refine W_seq ?_; refine W_region rfl ?_
            refine Wo rfl (opv_move (v := .int _ _) rfl) ?_; refine Wo rfl (opv_move (v := v) rfl) ?_; refine Wo rfl (opv_len Tryd.underlying49 rfl h) ?_; refine Wo rfl (opv_lss rfl rfl) ?_; refine Wo_nil ?_
            refine W_cond_dec rfl (fun h4 => ?_) (fun h4 => ?_); refine W_skip ?_; refine W_seq ?_; refine W_block ?_; refine W_region rfl ?_; refine Wo rfl (opv_move (v := .slice _ _ _) rfl) ?_; refine Wo rfl (opv_move (v := .int _ _) rfl) ?_
            refine Wo rfl (opv_add rfl rfl (by omega)) ?_; refine Wo rfl (opv_move (v := v) rfl) ?_; refine Wo rfl (opv_move (v := .int _ _) rfl) ?_
            refine Wo_get Tryd.underlying49 Tryd.sizeOf80 Tryd.isAgg80 rfl (fun _ => rfl) rfl h E7 rfl (by first | omega | (simp <;> omega)) ?_; rintro _ u1 hu1; refine Wo rfl (opv_move (v := .int _ _) rfl) ?_
            refine Wo_get Tryd.underlying80 Tryd.sizeOf3 Tryd.isAgg3 rfl (fun _ => rfl) rfl hu1 E7 rfl (by first | omega | (simp <;> omega)) ?_; rintro _ _ rfl
            refine Wo rfl (opv_indexAddr_z Tryd.underlying80 Tryd.sizeOf3 rfl rfl (by omega)) ?_; refine Wo_set rfl Tryd.sizeOf3 rfl rfl hO1.toB (by first | omega | (simp <;> omega)) Owned.int (Nat.le_refl _) (by omega) ?_
            rintro w8 hO1 On1 K1 hz1; have E8 := On1.ext1 E7 (by omega); have hO0 := hO0.wrote K1 (by omega); have hs4 := On1.size; refine Wo_nil ?_; refine W_region rfl ?_; refine Wo rfl (opv_move (v := .int _ _) rfl) ?_
            refine Wo rfl (opv_add rfl rfl (by omega)) ?_; refine Wo rfl (opv_assign (v := .int _ _) rfl) ?_; refine Wo_nil ?_; rotate_left; (exfalso; omega)
          refine ⟨(j + 1), by repeat (first | exact trivial | refine And.intro rfl ?_), by repeat (first | with_reducible exact Same.refl | refine Same.upd rfl ?_ | refine Same.upds rfl ?_ | refine Same.mix rfl ?_), ?_, ?_⟩
          · refine ⟨by exact E8, by omega, by omega, by exact hO0, ?_⟩
            rw [← shift_row j (by omega) (by omega)]
            have e : (1 + (j : Int)).toNat = 1 + j := by omega
            rw [← e]
            assumption
          · omega
        · obtain rfl : j = p.length := by omega
          focus
            have szE7 := E7.size; have szE6 := E6.size; have szE5 := E5.size; have szE4 := E4.size; have szE3 := E3.size; have szE2 := E2.size; have szE1 := E1.size; refine W_seq ?_; refine W_seq ?_; refine W_region rfl ?_
            refine Wo rfl (opv_move (v := .int _ _) rfl) ?_; refine Wo rfl (opv_move (v := v) rfl) ?_; refine Wo rfl (opv_len Tryd.underlying49 rfl h) ?_; refine Wo rfl (opv_lss rfl rfl) ?_; refine Wo_nil ?_
            refine W_cond_dec rfl (fun h4 => ?_) (fun h4 => ?_); (exfalso; omega); refine W_exit ?_; refine exitX_same ?_; refine W_region rfl ?_; refine Wo rfl (opv_move (v := o) rfl) ?_; refine Wo rfl (opv_move (v := .slice _ _ _) rfl) ?_
            refine Wo_buildSlice (ps := [(0, .slice _ _ _)]) (cs := [_]) rfl Tryd.underlying49 Tryd.sizeOf80 Tryd.zeroValue80 rfl rfl rfl rfl ?_; rintro b4 w8 hb4 E8 hB1; have hlb4 := hB1.lt; have hs4 := E8.size
            refine Wo_app1 rfl el49 rfl rfl hB1 (hO0.ext E8) (hO1.toB.ext E8).o (by omega) (by first | omega | (simp <;> omega)) (by omega) (by omega) (E7.trans E8) (by omega) ?_; have hT1 := (hO0.ext E8); rintro v1 w9 hO0 E9 M1
            have hO1 := (hO1.toB.ext E8).moves M1 hT1 (by omega); have hB1 := hB1.moves M1 hT1 (by omega); have hs5 := E9.size; refine Wo rfl (opv_assign (v := v1) rfl) ?_; refine Wo_nil ?_; refine W_region rfl ?_
            refine Wo rfl (opv_move (v := .int _ _) rfl) ?_; refine Wo rfl (opv_add rfl rfl (by omega)) ?_; refine Wo rfl (opv_assign (v := .int _ _) rfl) ?_; refine Wo_nil ?_
          refine ⟨((k + 1, v1)), by repeat (first | exact trivial | refine And.intro rfl ?_), by repeat (first | with_reducible exact Same.refl | refine Same.upd rfl ?_ | refine Same.upds rfl ?_ | refine Same.mix rfl ?_), ?_, ?_⟩
          · refine ⟨by exact E9, by omega, ?_⟩
            rw [take_snoc _ _ hlt, List.map_append, ← List.cons_append]
            have e : List.replicate 1 (0 : Int) ++ p[k].take p.length ++ List.replicate ((1 + (p.length : Int) + (q.length : Int)).toNat - 1 - p.length) 0 = List.replicate 1 0 ++ p[k] ++ List.replicate q.length 0 := by
              rw [List.take_of_length_le (by omega)]; congr 2; omega
            simp only [List.map_cons, List.map_nil]
            rw [← e]
            assumption
          · simp only; omega
      · obtain rfl : k = p.length := by omega
        rw [List.take_length] at hO0 htl
        focus
          have szE5 := E5.size; have szE4 := E4.size; have szE3 := E3.size; have szE2 := E2.size; have szE1 := E1.size; refine W_seq ?_; refine W_seq ?_; refine W_region rfl ?_; refine Wo rfl (opv_move (v := .int _ _) rfl) ?_
          refine Wo rfl (opv_move (v := v) rfl) ?_; refine Wo rfl (opv_len Tryd.underlying49 rfl h) ?_; refine Wo rfl (opv_lss rfl rfl) ?_; refine Wo_nil ?_; refine W_cond_dec rfl (fun h3 => ?_) (fun h3 => ?_); (exfalso; omega)
          refine W_exit ?_; refine exitX_same ?_; refine W_seq ?_; refine W_seq ?_; refine W_region rfl ?_; refine Wo rfl (opv_assign (v := .int _ _) rfl) ?_; refine Wo_nil ?_; refine W_block ?_
        refine W_loop [10, 16, 17, 18, 90, 91, 92, 93, 94, 95, 96, 97, 98, 99, 100, 101, 102, 103, 104, 105, 106, 107, 108, 109, 110, 111, 112, 113, 114, 115, 116, 117, 118, 119, 120, 121] (fun ((k, o) : Nat × Value) => [(16, .int .i64 (k : Nat)), (10, o)]) (fun (k, o) w' => Ext w w' ∧ k ≤ q.length ∧ Owned w.heap.size XR w' o ((ro g ms :: p.map fun r => List.replicate 1 0 ++ r ++ List.replicate q.length 0) ++ (q.take k).map fun r => List.replicate (1 + p.length) 0 ++ r)) (fun x => q.length - x.1) (0, o) (by repeat (first | exact trivial | refine And.intro rfl ?_)) ?_ ?_
        · exact ⟨by exact E5, Nat.zero_le _, by simpa using hO0⟩
        clear hO0
        rintro ⟨k, o2⟩ ρm w6 ⟨E6, hk, hO0⟩
        have htl2 : ((ro g ms :: p.map fun r => List.replicate 1 0 ++ r ++ List.replicate q.length 0) ++ (q.take k).map fun r => List.replicate (1 + p.length) 0 ++ r).length = p.length + 1 + k := by rw [List.length_append, htl]; simp; omega
        by_cases hlt : k < q.length
        · have hrow := hqrow k hlt
          focus
            have szE6 := E6.size; have szE5 := E5.size; have szE4 := E4.size; have szE3 := E3.size; have szE2 := E2.size; have szE1 := E1.size; refine W_seq ?_; refine W_seq ?_; refine W_region rfl ?_
            refine Wo rfl (opv_move (v := .int _ _) rfl) ?_; refine Wo rfl (opv_move (v := u) rfl) ?_; refine Wo rfl (opv_len Tryd.underlying49 rfl h') ?_; refine Wo rfl (opv_lss rfl rfl) ?_; refine Wo_nil ?_
            refine W_cond_dec rfl (fun h4 => ?_) (fun h4 => ?_); refine W_skip ?_; refine W_seq ?_; refine W_block ?_; refine W_seq ?_; refine W_region rfl ?_; refine Wo rfl (opv_move (v := .int _ _) rfl) ?_
            refine Wo_makeI rfl el80 (int_z (by omega) rfl) (by omega) ?_; rintro b3 w7 hb3 b3lt E7 hO1; have hs3 := E7.size; refine Wo rfl (opv_assign (v := .slice _ _ _) rfl) ?_; refine Wo_nil ?_; refine W_seq ?_; refine W_seq ?_
            refine W_region rfl ?_; refine Wo rfl (opv_assign (v := .int _ _) rfl) ?_; refine Wo_nil ?_; refine W_block ?_; rotate_left; (exfalso; omega)
          have hbb := hO1.lt_own (k := b3) rfl
          have hrl3 : ∀ j, j ≤ q.length → (List.replicate (1 + p.length) (0 : Int) ++ q[k].take j ++ List.replicate ((1 + (p.length : Int) + (q.length : Int)).toNat - (1 + p.length) - j) 0).length = g + 1 := fun j hj => by simp; omega
          refine W_loop [18, 98, 99, 100, 101, 102, 103, 104, 105, 106, 107, 108, 109, 110, 111, 112, 113, 114, 115, 116, 117] (fun (j : Nat) => [(18, .int .i64 (j : Nat))]) (fun j w' => Ext w w' ∧ w6.heap.size ≤ w'.heap.size ∧ j ≤ q.length ∧ OwnedB w.heap.size w6.heap.size XR w' o2 ((ro g ms :: p.map fun r => List.replicate 1 0 ++ r ++ List.replicate q.length 0) ++ (q.take k).map fun r => List.replicate (1 + p.length) 0 ++ r) ∧ Owned w6.heap.size XI w' (.slice (some ⟨b3, 0, none⟩) (1 + (p.length : Int) + (q.length : Int)).toNat (1 + (p.length : Int) + (q.length : Int)).toNat) (List.replicate (1 + p.length) 0 ++ q[k].take j ++ List.replicate ((1 + (p.length : Int) + (q.length : Int)).toNat - (1 + p.length) - j) 0)) (fun j => q.length - j) 0 (by repeat (first | exact trivial | refine And.intro rfl ?_)) ?_ ?_
          · refine ⟨by exact (E6.trans E7), by omega, Nat.zero_le _, hO0.toB.ext (by exact E7), ?_⟩
            rw [show List.replicate (1 + p.length) (0 : Int) ++ q[k].take 0 ++ List.replicate ((1 + (p.length : Int) + (q.length : Int)).toNat - (1 + p.length) - 0) 0 = List.replicate (1 + (p.length : Int) + (q.length : Int)).toNat 0 by
              rw [List.take_zero, List.append_nil, List.replicate_append_replicate]; congr 1; omega]
            exact hO1
          clear hO0 hO1
          rintro j ρn w8 ⟨E8, hs8, hj, hO0, hO1⟩
          have hrj := hrl3 j hj
          by_cases hjl : j < q.length
          · focus
              have szE8 := E8.size; have szE7 := E7.size; have szE6 := E6.size; have szE5 := E5.size; have szE4 := E4.size; have szE3 := E3.size; have szE2 := E2.size; have szE1 := E1.size; refine W_seq ?_; refine W_seq ?_; refine W_region rfl ?_
              refine Wo rfl (opv_move (v := .int _ _) rfl) ?_; refine Wo rfl (opv_move (v := u) rfl) ?_; refine Wo rfl (opv_len Tryd.underlying49 rfl h') ?_; refine Wo rfl (opv_lss rfl rfl) ?_; refine Wo_nil ?_
              refine W_cond_dec rfl (fun h5 => ?_) (fun h5 => ?_); refine W_skip ?_; refine W_seq ?_; refine W_block ?_; refine W_region rfl ?_; refine Wo rfl (opv_move (v := .slice _ _ _) rfl) ?_; refine Wo rfl (opv_move (v := v) rfl) ?_
              refine Wo rfl (opv_len Tryd.underlying49 rfl h) ?_; refine Wo rfl (opv_add rfl rfl (by omega)) ?_; refine Wo rfl (opv_move (v := .int _ _) rfl) ?_; refine Wo rfl (opv_add rfl rfl (by omega)) ?_
              refine Wo rfl (opv_move (v := u) rfl) ?_; refine Wo rfl (opv_move (v := .int _ _) rfl) ?_; refine Wo_get Tryd.underlying49 Tryd.sizeOf80 Tryd.isAgg80 rfl (fun _ => rfl) rfl h' E8 rfl (by first | omega | (simp <;> omega)) ?_
              rintro _ u1 hu1; refine Wo rfl (opv_move (v := .int _ _) rfl) ?_; refine Wo_get Tryd.underlying80 Tryd.sizeOf3 Tryd.isAgg3 rfl (fun _ => rfl) rfl hu1 E8 rfl (by first | omega | (simp <;> omega)) ?_; rintro _ _ rfl
              refine Wo rfl (opv_indexAddr_z Tryd.underlying80 Tryd.sizeOf3 rfl rfl (by omega)) ?_; refine Wo_set rfl Tryd.sizeOf3 rfl rfl hO1.toB (by first | omega | (simp <;> omega)) Owned.int (Nat.le_refl _) (by omega) ?_
              rintro w9 hO1 On1 K1 hz1; have E9 := On1.ext1 E8 (by omega); have hO0 := hO0.wrote K1 (by omega); have hs4 := On1.size; refine Wo_nil ?_; refine W_region rfl ?_; refine Wo rfl (opv_move (v := .int _ _) rfl) ?_
              refine Wo rfl (opv_add rfl rfl (by omega)) ?_; refine Wo rfl (opv_assign (v := .int _ _) rfl) ?_; refine Wo_nil ?_; rotate_left; (exfalso; omega)
            refine ⟨(j + 1), by repeat (first | exact trivial | refine And.intro rfl ?_), by repeat (first | with_reducible exact Same.refl | refine Same.upd rfl ?_ | refine Same.upds rfl ?_ | refine Same.mix rfl ?_), ?_, ?_⟩
            · refine ⟨by exact E9, by omega, by omega, by exact hO0, ?_⟩
              rw [← shift_row j (by omega) (by omega)]
              have e : (1 + (p.length : Int) + (j : Int)).toNat = 1 + p.length + j := by omega
              rw [← e]
              assumption
            · omega
          · obtain rfl : j = q.length := by omega
            focus
              have szE8 := E8.size; have szE7 := E7.size; have szE6 := E6.size; have szE5 := E5.size; have szE4 := E4.size; have szE3 := E3.size; have szE2 := E2.size; have szE1 := E1.size; refine W_seq ?_; refine W_seq ?_; refine W_region rfl ?_
              refine Wo rfl (opv_move (v := .int _ _) rfl) ?_; refine Wo rfl (opv_move (v := u) rfl) ?_; refine Wo rfl (opv_len Tryd.underlying49 rfl h') ?_; refine Wo rfl (opv_lss rfl rfl) ?_; refine Wo_nil ?_
              refine W_cond_dec rfl (fun h5 => ?_) (fun h5 => ?_); (exfalso; omega); refine W_exit ?_; refine exitX_same ?_; refine W_region rfl ?_; refine Wo rfl (opv_move (v := o2) rfl) ?_; refine Wo rfl (opv_move (v := .slice _ _ _) rfl) ?_
              refine Wo_buildSlice (ps := [(0, .slice _ _ _)]) (cs := [_]) rfl Tryd.underlying49 Tryd.sizeOf80 Tryd.zeroValue80 rfl rfl rfl rfl ?_; rintro b4 w9 hb4 E9 hB1; have hlb4 := hB1.lt; have hs4 := E9.size
              refine Wo_app1 rfl el49 rfl rfl hB1 (hO0.ext E9) (hO1.toB.ext E9).o (by omega) (by first | omega | (simp <;> omega)) (by omega) (by omega) (E8.trans E9) (by omega) ?_; have hT1 := (hO0.ext E9); rintro v1 w10 hO0 E10 M1
              have hO1 := (hO1.toB.ext E9).moves M1 hT1 (by omega); have hB1 := hB1.moves M1 hT1 (by omega); have hs5 := E10.size; refine Wo rfl (opv_assign (v := v1) rfl) ?_; refine Wo_nil ?_; refine W_region rfl ?_
              refine Wo rfl (opv_move (v := .int _ _) rfl) ?_; refine Wo rfl (opv_add rfl rfl (by omega)) ?_; refine Wo rfl (opv_assign (v := .int _ _) rfl) ?_; refine Wo_nil ?_
            refine ⟨((k + 1, v1)), by repeat (first | exact trivial | refine And.intro rfl ?_), by repeat (first | with_reducible exact Same.refl | refine Same.upd rfl ?_ | refine Same.upds rfl ?_ | refine Same.mix rfl ?_), ?_, ?_⟩
            · refine ⟨by exact E10, by omega, ?_⟩
              rw [take_snoc _ _ hlt, List.map_append, ← List.append_assoc]
              have e : List.replicate (1 + p.length) (0 : Int) ++ q[k].take q.length ++ List.replicate ((1 + (p.length : Int) + (q.length : Int)).toNat - (1 + p.length) - q.length) 0 = List.replicate (1 + p.length) 0 ++ q[k] := by
                rw [List.take_of_length_le (by omega), show (1 + (p.length : Int) + (q.length : Int)).toNat - (1 + p.length) - q.length = 0 by omega]; simp
              simp only [List.map_cons, List.map_nil]
              rw [← e]
              assumption
            · simp only; omega
        · obtain rfl : k = q.length := by omega
          focus
            have szE6 := E6.size; have szE5 := E5.size; have szE4 := E4.size; have szE3 := E3.size; have szE2 := E2.size; have szE1 := E1.size; refine W_seq ?_; refine W_seq ?_; refine W_region rfl ?_
            refine Wo rfl (opv_move (v := .int _ _) rfl) ?_; refine Wo rfl (opv_move (v := u) rfl) ?_; refine Wo rfl (opv_len Tryd.underlying49 rfl h') ?_; refine Wo rfl (opv_lss rfl rfl) ?_; refine Wo_nil ?_
            refine W_cond_dec rfl (fun h4 => ?_) (fun h4 => ?_); (exfalso; omega); refine W_exit ?_; refine exitX_same ?_; refine W_seq ?_; refine W_region rfl ?_; refine Wo rfl (opv_move (v := o2) rfl) ?_
            refine Wo rfl (opv_assign (v := o2) rfl) ?_; refine Wo_nil ?_; refine W_ret ?_; refine ⟨E6, (congrArg (Owned _ _ _ _) ?_).mp (hO0.toB.o.mono (by omega))⟩
          rw [List.take_length, put_eq, bes_len, ← hg]
          unfold bes
          rw [List.map_append, List.map_map, List.map_map]
          simp only [List.cons_append, List.cons.injEq, true_and]
          congr 1
          · refine List.map_congr_left fun r _ => ?_
            simp [Nat.add_comm 1, List.replicate_succ]

end Go.Proofs.YtgphoihilheoeaaDoor
namespace Go.Proofs.YtgphoihilheoeaaDoor
open Go.Hs
set_option maxRecDepth 10000
set_option maxHeartbeats 4000000
set_option linter.unusedVariables false
set_option linter.unusedSimpArgs false

theorem l6Least_ok (w : World) (v : Value) (p : List (List Int)) (h : ESl Ints w v p) (hp : Gr p) :
    Does Tryd.prog 134 [v] w (RetOB w XR (if (lst p 0).length ≤ 5 then lst p 0 else []) (decide ((lst p 0).length ≤ 5))) := by
  have hp5 := hp.2.1
  have hp1 := hp.1
  have hle := h.le
  have hkl := ikndL_len (p := p)
  have k1 : ∀ w, Does Tryd.prog 151 [.int .i64 (p.length : Int)] w (RetO w XR (matV p (bsm p 0))) := fun w => by
    have := l3Start_ok w p.length hp5
    rwa [matV_zero] at this
  have k2 : ∀ (n : Nat) (w : World) (v v' : Value), ESl Ints w v p → ESl Ints w v' (matV p (bsm p n)) → Does Tryd.prog 152 [v, v'] w (RetO w XR (matV p (bsm p (n + 1)))) := fun n w v v' h h' => l3Round_ok w v v' p h hp _ h'
  refine fn_of_W2 Tryd.func134 rfl Tryd.results134 Tryd.ntmps134 rfl ?_
  focus
    refine W_seq ?_; refine W_region rfl ?_; refine Wo rfl (opv_assign (v := .slice _ _ _) rfl) ?_; refine Wo rfl (opv_assign (v := .bool _) rfl) ?_; refine Wo_nil ?_; refine W_seq ?_; refine W_region rfl ?_
    refine Wo rfl (opv_move (v := v) rfl) ?_; refine Wo rfl (opv_len Tryd.underlying49 rfl h) ?_; refine Wo_call rfl (opc1 (a := .int _ _) Tryd.call151 rfl) (k1 _) ?_; rintro u1 w1 ⟨E1, hO1⟩; have hs1 := E1.size
    refine Wo rfl (opv_assign (v := u1) rfl) ?_; refine Wo_nil ?_; refine W_seq ?_; refine W_seq ?_; refine W_region rfl ?_; refine Wo rfl (opv_assign (v := .int _ _) rfl) ?_; refine Wo_nil ?_; refine W_block ?_
  refine W_loop [4, 5, 17, 18, 19, 20, 21, 22, 23, 24, 25] (fun ((n, u) : Nat × Value) => [(5, .int .i64 (n : Nat)), (4, u)]) (fun (n, u) w' => Ext w w' ∧ n ≤ p.length ∧ Owned w.heap.size XR w' u (matV p (bsm p n))) (fun x => p.length - x.1) (0, u1) (by repeat (first | exact trivial | refine And.intro rfl ?_)) ?_ ?_
  · exact ⟨by exact E1, Nat.zero_le _, hO1⟩
  clear hO1
  rintro ⟨n, um⟩ ρj w2 ⟨E2, hn, hO1⟩
  have k2n := k2 n
  by_cases hnl : n < p.length
  · focus
      have szE2 := E2.size; have szE1 := E1.size; refine W_seq ?_; refine W_seq ?_; refine W_region rfl ?_; refine Wo rfl (opv_move (v := .int _ _) rfl) ?_; refine Wo rfl (opv_move (v := v) rfl) ?_
      refine Wo rfl (opv_len Tryd.underlying49 rfl h) ?_; refine Wo rfl (opv_lss rfl rfl) ?_; refine Wo_nil ?_; refine W_cond_dec rfl (fun h1 => ?_) (fun h1 => ?_); refine W_skip ?_; refine W_seq ?_; refine W_block ?_
      refine W_region rfl ?_; refine Wo rfl (opv_move (v := v) rfl) ?_; refine Wo rfl (opv_move (v := um) rfl) ?_; refine Wo_call rfl (opc2 (a := v) (b := um) Tryd.call152 rfl rfl) (k2n _ _ _ ((Mono.mono E2 h)) ((Owned.read hO1))) ?_
      rintro u2 w3 ⟨E3, hO2⟩; have hs2 := E3.size; refine Wo rfl (opv_assign (v := u2) rfl) ?_; refine Wo_nil ?_; refine W_region rfl ?_; refine Wo rfl (opv_move (v := .int _ _) rfl) ?_; refine Wo rfl (opv_add rfl rfl (by omega)) ?_
      refine Wo rfl (opv_assign (v := .int _ _) rfl) ?_; refine Wo_nil ?_; rotate_left; (exfalso; omega)
    refine ⟨((n + 1, u2)), by repeat (first | exact trivial | refine And.intro rfl ?_), by repeat (first | with_reducible exact Same.refl | refine Same.upd rfl ?_ | refine Same.upds rfl ?_ | refine Same.mix rfl ?_), ?_, ?_⟩
    · exact ⟨by exact (E2.trans E3), by omega, hO2.mono (by omega)⟩
    · simp only; omega
  · obtain rfl : n = p.length := by omega
    clear k1 k2 k2n
    have hml := matV_len (p := p) (bsm p p.length)
    have rM := hO1.read
    clear hO1
    focus
      have szE2 := E2.size; have szE1 := E1.size; refine W_seq ?_; refine W_seq ?_; refine W_region rfl ?_; refine Wo rfl (opv_move (v := .int _ _) rfl) ?_; refine Wo rfl (opv_move (v := v) rfl) ?_
      refine Wo rfl (opv_len Tryd.underlying49 rfl h) ?_; refine Wo rfl (opv_lss rfl rfl) ?_; refine Wo_nil ?_; refine W_cond_dec rfl (fun h1 => ?_) (fun h1 => ?_); (exfalso; omega); refine W_exit ?_; refine exitX_same ?_; refine W_seq ?_
      refine W_region rfl ?_; refine Wo_lit0 XInt rfl el80 Tryd.sizeOf3 ?_; rintro b1 w3 hb1 b1lt E3 hO1; have hs2 := E3.size; refine Wo rfl (opv_assign (v := .slice _ _ _) rfl) ?_; refine Wo_nil ?_; refine W_seq ?_; refine W_seq ?_
      refine W_region rfl ?_; refine Wo rfl (opv_assign (v := .int _ _) rfl) ?_; refine Wo_nil ?_; refine W_block ?_
    refine W_loop [6, 7, 8, 27, 28, 29, 30, 31, 32, 33, 34, 35, 36, 37, 38, 39, 40, 41, 42, 43, 44, 45, 46, 47, 48, 49, 50] (fun ((k, u) : Nat × Value) => [(7, .int .i64 (k : Nat)), (6, u)]) (fun (k, u) w' => Ext w2 w' ∧ k ≤ p.length ∧ Owned w2.heap.size XI w' u ((ints (kndL p)).take k)) (fun x => p.length - x.1) (0, .slice (some ⟨b1, 0, none⟩) 0 0) (by repeat (first | exact trivial | refine And.intro rfl ?_)) ?_ ?_
    · exact ⟨by exact E3, Nat.zero_le _, by simpa using hO1⟩
    clear hO1
    rintro ⟨k, uk⟩ ρk w4 ⟨E4, hk, hO1⟩
    have htl : ((ints (kndL p)).take k).length = k := by simp; omega
    by_cases hlt : k < p.length
    · obtain ⟨g1, g2, g3⟩ := knd_spec hlt
      focus
        have szE4 := E4.size; have szE3 := E3.size; have szE2 := E2.size; have szE1 := E1.size; refine W_seq ?_; refine W_seq ?_; refine W_region rfl ?_; refine Wo rfl (opv_move (v := .int _ _) rfl) ?_
        refine Wo rfl (opv_move (v := v) rfl) ?_; refine Wo rfl (opv_len Tryd.underlying49 rfl h) ?_; refine Wo rfl (opv_lss rfl rfl) ?_; refine Wo_nil ?_; refine W_cond_dec rfl (fun h2 => ?_) (fun h2 => ?_); refine W_skip ?_
        refine W_seq ?_; refine W_block ?_; refine W_seq ?_; refine W_region rfl ?_; refine Wo rfl (opv_assign (v := .int _ _) rfl) ?_; refine Wo_nil ?_; refine W_block ?_; rotate_left; (exfalso; omega)
      refine W_loop [6, 8, 33, 34, 35, 36, 37, 38, 39, 40, 41, 42, 43, 44, 45, 46, 47, 48, 49, 50] (fun (j : Nat) => [(8, .int .i64 (j : Nat)), (6, uk)]) (fun j w' => w' = w4 ∧ j ≤ knd p k) (fun j => p.length - j) 0 (by repeat (first | exact trivial | refine And.intro rfl ?_)) ?_ ?_
      · exact ⟨rfl, Nat.zero_le _⟩
      rintro j ρl w5 ⟨rfl, hj⟩
      have hmr := matV_rlen (p := p) (S := bsm p p.length) hlt
      have hma := matV_at (p := p) (S := bsm p p.length) (a := k) (b := j) hlt (by omega)
      rcases Nat.lt_or_ge j (knd p k) with hjl | hjl
      · have h0 : ((matV p (bsm p p.length))[k]'(by omega))[j]'(by omega) = 0 := by rw [hma, show bsm p p.length k j = false from g3 j hjl]; rfl
        focus
          have szE4 := E4.size; have szE3 := E3.size; have szE2 := E2.size; have szE1 := E1.size; refine W_seq ?_; refine W_seq ?_; refine W_region rfl ?_; refine Wo rfl (opv_move (v := .int _ _) rfl) ?_
          refine Wo rfl (opv_move (v := v) rfl) ?_; refine Wo rfl (opv_len Tryd.underlying49 rfl h) ?_; refine Wo rfl (opv_lss rfl rfl) ?_; refine Wo_nil ?_; refine W_cond_dec rfl (fun h3 => ?_) (fun h3 => ?_); refine W_skip ?_
          refine W_seq ?_; refine W_block ?_; refine W_seq ?_; refine W_region rfl ?_; refine Wo rfl (opv_move (v := um) rfl) ?_; refine Wo rfl (opv_move (v := .int _ _) rfl) ?_
          refine Wo_get Tryd.underlying49 Tryd.sizeOf80 Tryd.isAgg80 rfl (fun _ => rfl) rfl rM E4 rfl (by first | omega | (simp <;> omega)) ?_; rintro _ u2 hu1; refine Wo rfl (opv_move (v := .int _ _) rfl) ?_
          refine Wo_get Tryd.underlying80 Tryd.sizeOf3 Tryd.isAgg3 rfl (fun _ => rfl) rfl hu1 E4 rfl (by first | omega | (simp <;> omega)) ?_; rintro _ _ rfl; refine Wo rfl (opv_eql rfl rfl) ?_; refine Wo_nil ?_
          refine W_cond_dec rfl (fun h4 => ?_) (fun h4 => ?_); (exfalso; omega); refine W_skip ?_; refine W_region rfl ?_; refine Wo rfl (opv_move (v := .int _ _) rfl) ?_; refine Wo rfl (opv_add rfl rfl (by omega)) ?_
          refine Wo rfl (opv_assign (v := .int _ _) rfl) ?_; refine Wo_nil ?_; rotate_left; (exfalso; omega)
        refine ⟨(j + 1), by repeat (first | exact trivial | refine And.intro rfl ?_), by repeat (first | with_reducible exact Same.refl | refine Same.upd rfl ?_ | refine Same.upds rfl ?_ | refine Same.mix rfl ?_), ?_, ?_⟩
        · exact ⟨rfl, by omega⟩
        · omega
      · obtain rfl : j = knd p k := by omega
        have h1 : ((matV p (bsm p p.length))[k]'(by omega))[knd p k]'(by omega) = 1 := by rw [hma, show bsm p p.length k (knd p k) = true from g2]; rfl
        focus
          have szE4 := E4.size; have szE3 := E3.size; have szE2 := E2.size; have szE1 := E1.size; refine W_seq ?_; refine W_seq ?_; refine W_region rfl ?_; refine Wo rfl (opv_move (v := .int _ _) rfl) ?_
          refine Wo rfl (opv_move (v := v) rfl) ?_; refine Wo rfl (opv_len Tryd.underlying49 rfl h) ?_; refine Wo rfl (opv_lss rfl rfl) ?_; refine Wo_nil ?_; refine W_cond_dec rfl (fun h3 => ?_) (fun h3 => ?_); refine W_skip ?_
          refine W_seq ?_; refine W_block ?_; refine W_seq ?_; refine W_region rfl ?_; refine Wo rfl (opv_move (v := um) rfl) ?_; refine Wo rfl (opv_move (v := .int _ _) rfl) ?_
          refine Wo_get Tryd.underlying49 Tryd.sizeOf80 Tryd.isAgg80 rfl (fun _ => rfl) rfl rM E4 rfl (by first | omega | (simp <;> omega)) ?_; rintro _ u2 hu1; refine Wo rfl (opv_move (v := .int _ _) rfl) ?_
          refine Wo_get Tryd.underlying80 Tryd.sizeOf3 Tryd.isAgg3 rfl (fun _ => rfl) rfl hu1 E4 rfl (by first | omega | (simp <;> omega)) ?_; rintro _ _ rfl; refine Wo rfl (opv_eql rfl rfl) ?_; refine Wo_nil ?_
          refine W_cond_dec rfl (fun h4 => ?_) (fun h4 => ?_); refine W_seq ?_; refine W_region rfl ?_; refine Wo rfl (opv_move (v := uk) rfl) ?_; refine Wo rfl (opv_move (v := .int _ _) rfl) ?_
          refine Wo_buildSliceH (ps := [(0, .int _ _)]) (cs := [_]) rfl Tryd.underlying80 Tryd.sizeOf3 Tryd.zeroValue3 rfl rfl rfl rfl ?_; rintro b2 w4 hb2 E5 hB1 hHb2; have hlb2 := hB1.lt; have hs3 := E5.size
          refine Wo_app1 rfl el80 rfl rfl hB1 (hO1.toB.ext E5) Owned.int (Nat.le_refl _) (by first | omega | (simp <;> omega)) (by omega) (by omega) ((E2.trans E4).trans E5) (by omega) ?_; have hT1 := (hO1.toB.ext E5); rintro v1 w6 hO1 E6 M1
          have E7 := M1.ext hT1 (E4.trans E5) (by omega); have szE7 := E7.size; have hB1 := hB1.moves M1 hT1 (by omega); have hs4 := E6.size; refine Wo rfl (opv_assign (v := v1) rfl) ?_; refine Wo_nil ?_; refine W_exit ?_
          refine exitX_other rfl ?_; refine exitX_same ?_; refine W_region rfl ?_; refine Wo rfl (opv_move (v := .int _ _) rfl) ?_; refine Wo rfl (opv_add rfl rfl (by omega)) ?_; refine Wo rfl (opv_assign (v := .int _ _) rfl) ?_
          refine Wo_nil ?_; rotate_left; contradiction; (exfalso; omega)
        refine ⟨((k + 1, v1)), by repeat (first | exact trivial | refine And.intro rfl ?_), by repeat (first | with_reducible exact Same.refl | refine Same.upd rfl ?_ | refine Same.upds rfl ?_ | refine Same.mix rfl ?_), ?_, ?_⟩
        · refine ⟨by exact E7, by omega, ?_⟩
          rw [take_snoc _ _ (by omega), ikndL_at]
          exact hO1
        · simp only; omega
    · obtain rfl : k = p.length := by omega
      rw [List.take_of_length_le (by omega)] at hO1
      have rK := hO1.read
      clear hO1
      focus
        have szE4 := E4.size; have szE3 := E3.size; have szE2 := E2.size; have szE1 := E1.size; refine W_seq ?_; refine W_seq ?_; refine W_region rfl ?_; refine Wo rfl (opv_move (v := .int _ _) rfl) ?_
        refine Wo rfl (opv_move (v := v) rfl) ?_; refine Wo rfl (opv_len Tryd.underlying49 rfl h) ?_; refine Wo rfl (opv_lss rfl rfl) ?_; refine Wo_nil ?_; refine W_cond_dec rfl (fun h2 => ?_) (fun h2 => ?_); contradiction; refine W_exit ?_
        refine exitX_same ?_; refine W_seq ?_; refine W_region rfl ?_; refine Wo_buildSliceH (ps := [(0, .int _ _)]) (cs := [_]) rfl Tryd.underlying80 Tryd.sizeOf3 Tryd.zeroValue3 rfl rfl rfl rfl ?_; rintro b2 w5 hb2 E5 hB1 hHb2
        have hlb2 := hB1.lt; have hs3 := E5.size; refine Wo rfl (opv_assign (v := .slice _ _ _) rfl) ?_; refine Wo_nil ?_; refine W_seq ?_; refine W_seq ?_; refine W_region rfl ?_; refine Wo rfl (opv_assign (v := .int _ _) rfl) ?_
        refine Wo_nil ?_; refine W_block ?_
      have hO2 : Owned w4.heap.size XI w5 (.slice (some ⟨b2, 0, none⟩) 1 1) (ints [0]) := Owned.block hHb2 hb2 rfl (by decide) ⟨⟨rfl, rfl⟩, trivial⟩
      clear hHb2 hB1
      refine W_loop [9, 10, 11, 12, 13, 52, 53, 54, 55, 56, 57, 58, 59, 60, 61, 62, 63, 64, 65, 66, 67, 68, 69, 70, 71, 72, 73, 74, 75, 76, 77, 78, 79, 80, 81, 82, 83, 84, 85, 86, 87, 88, 89, 90, 91, 92, 93, 94, 95, 96, 97, 98, 99, 100] (fun ((t, u, L) : Nat × Value × List Nat) => [(10, .int .i64 (t : Nat)), (9, u)]) (fun (t, u, L) w' => Ext w4 w' ∧ Owned w4.heap.size XI w' u (ints L) ∧ Wlk p L ∧ t ≤ L.length ∧ ∀ x ∈ L.take t, ∀ j ∈ arr p x, knd p j ∈ L.map (knd p)) (fun x => p.length - x.1) (0, .slice (some ⟨b2, 0, none⟩) 1 1, [0]) (by repeat (first | exact trivial | refine And.intro rfl ?_)) ?_ ?_
      · exact ⟨by exact E5, hO2, Wlk.zero, Nat.zero_le _, by simp⟩
      clear hO2
      rintro ⟨t, u, L⟩ ρl w6 ⟨E6, hO2, hW, ht, hcl⟩
      have hLl := hW.len hp
      have hLil := ints_len L
      by_cases htl : t < L.length
      · obtain ⟨X, hX⟩ : ∃ X, X = L[t] := ⟨_, rfl⟩
        have hXl : X < p.length := hX ▸ hW.lt hp (List.getElem_mem htl)
        have hrow := hp.row hXl
        focus
          have szE6 := E6.size; have szE5 := E5.size; have szE4 := E4.size; have szE3 := E3.size; have szE2 := E2.size; have szE1 := E1.size; refine W_seq ?_; refine W_seq ?_; refine W_region rfl ?_
          refine Wo rfl (opv_move (v := .int _ _) rfl) ?_; refine Wo rfl (opv_move (v := u) rfl) ?_; refine Wo rfl (opv_len Tryd.underlying80 rfl (Owned.read hO2)) ?_; refine Wo rfl (opv_lss rfl rfl) ?_; refine Wo_nil ?_
          refine W_cond_dec rfl (fun h3 => ?_) (fun h3 => ?_); refine W_skip ?_; refine W_seq ?_; refine W_block ?_; refine W_seq ?_; refine W_region rfl ?_; refine Wo rfl (opv_assign (v := .int _ _) rfl) ?_; refine Wo_nil ?_
          refine W_block ?_; rotate_left; (exfalso; omega)
        refine W_loop [9, 11, 12, 13, 58, 59, 60, 61, 62, 63, 64, 65, 66, 67, 68, 69, 70, 71, 72, 73, 74, 75, 76, 77, 78, 79, 80, 81, 82, 83, 84, 85, 86, 87, 88, 89, 90, 91, 92, 93, 94, 95, 96, 97, 98, 99, 100] (fun ((j, u, L') : Nat × Value × List Nat) => [(11, .int .i64 (j : Nat)), (9, u)]) (fun (j, u, L') w' => Ext w4 w' ∧ j ≤ p.length ∧ Owned w4.heap.size XI w' u (ints L') ∧ Wlk p L' ∧ (∃ e, L' = L ++ e) ∧ ∀ j' ∈ arr p X, j' < j → knd p j' ∈ L'.map (knd p)) (fun x => p.length - x.1) (0, u, L) (by repeat (first | exact trivial | refine And.intro rfl ?_)) ?_ ?_
        · exact ⟨by exact E6, Nat.zero_le _, hO2, hW, ⟨[], by simp⟩, fun j' _ h => by omega⟩
        clear hO2
        rintro ⟨j, u', L'⟩ ρm w7 ⟨E7, hj, hO2, hW', ⟨e, he⟩, hcl'⟩
        have hLl' := hW'.len hp
        have hLil' := ints_len L'
        have htl' : t < L'.length := by rw [he]; simp; omega
        have hXt : L'[t] = X := by simp only [he]; rw [List.getElem_append_left htl, hX]
        have hXm : X ∈ L' := hXt ▸ List.getElem_mem htl'
        have hgt : (ints L')[t]'(by omega) = (X : Int) := by rw [ints_get htl', hXt]
        by_cases hjl : j < p.length
        · have hgX : (p[((ints L')[t]'(by omega)).toNat]'(by rw [hgt]; omega)) = p[X] := by simp only [hgt, Int.toNat_natCast]
          have hgXl : (p[((ints L')[t]'(by omega)).toNat]'(by rw [hgt]; omega)).length = p.length := by rw [hgX]; exact hrow
          have hgXj : (p[((ints L')[t]'(by omega)).toNat]'(by rw [hgt]; omega))[j]'(by omega) = p[X][j] := by simp only [hgt, Int.toNat_natCast]
          have harX : j ∈ arr p X ↔ p[X][j] = 1 := by
            rw [mem_arr hp hXl]; unfold bit; rw [getD_lt hXl, getD_lt (show j < p[X].length by omega)]
            exact ⟨fun h => h.2, fun h => ⟨hjl, h⟩⟩
          focus
            have szE7 := E7.size; have szE6 := E6.size; have szE5 := E5.size; have szE4 := E4.size; have szE3 := E3.size; have szE2 := E2.size; have szE1 := E1.size; refine W_seq ?_; refine W_seq ?_; refine W_region rfl ?_
            refine Wo rfl (opv_move (v := .int _ _) rfl) ?_; refine Wo rfl (opv_move (v := v) rfl) ?_; refine Wo rfl (opv_len Tryd.underlying49 rfl h) ?_; refine Wo rfl (opv_lss rfl rfl) ?_; refine Wo_nil ?_
            refine W_cond_dec rfl (fun h4 => ?_) (fun h4 => ?_); refine W_skip ?_; refine W_seq ?_; refine W_block ?_; refine W_seq ?_; refine W_region rfl ?_; refine Wo rfl (opv_move (v := v) rfl) ?_; refine Wo rfl (opv_move (v := u') rfl) ?_
            refine Wo rfl (opv_move (v := .int _ _) rfl) ?_; refine Wo_get Tryd.underlying80 Tryd.sizeOf3 Tryd.isAgg3 rfl (fun _ => rfl) rfl (Owned.read hO2) (Ext.refl _) rfl (by first | omega | (simp <;> omega)) ?_; rintro _ _ rfl
            refine Wo_get_z Tryd.underlying49 Tryd.sizeOf80 Tryd.isAgg80 rfl (fun _ => rfl) rfl h ((E2.trans E4).trans E7) rfl (by first | omega | (simp <;> omega)) ?_; rintro _ u2 hu1; refine Wo rfl (opv_move (v := .int _ _) rfl) ?_
            refine Wo_get Tryd.underlying80 Tryd.sizeOf3 Tryd.isAgg3 rfl (fun _ => rfl) rfl hu1 ((E2.trans E4).trans E7) rfl (by first | omega | (simp <;> omega)) ?_; rintro _ _ rfl; refine Wo rfl (opv_eql rfl rfl) ?_
            refine Wo rfl (opv_assign (v := .bool _) rfl) ?_; refine Wo_nil ?_; refine W_seq ?_; refine W_seq ?_; refine W_region rfl ?_; refine Wo rfl (opv_assign (v := .int _ _) rfl) ?_; refine Wo_nil ?_; refine W_block ?_; rotate_left
            (exfalso; omega)
          refine W_loop [12, 13, 75, 76, 77, 78, 79, 80, 81, 82, 83, 84, 85, 86, 87, 88, 89, 90, 91, 92, 93, 94, 95] (fun ((m, f) : Nat × Bool) => [(13, .int .i64 (m : Nat)), (12, .bool f)]) (fun (m, f) w' => Ext w7 w' ∧ m ≤ L'.length ∧ (f = true ↔ j ∈ arr p X ∧ knd p j ∉ (L'.take m).map (knd p))) (fun x => L'.length - x.1) (0, decide ((p[((ints L')[t]'(by omega)).toNat]'(by rw [hgt]; omega))[j]'(by omega) = 1)) (by repeat (first | exact trivial | refine And.intro rfl ?_)) ?_ ?_
          · refine ⟨Ext.refl _, Nat.zero_le _, ?_⟩
            rw [decide_eq_true_iff, hgXj, harX]; simp
          rintro ⟨m, f⟩ ρn w9 ⟨E9, hm, hf⟩
          by_cases hml2 : m < L'.length
          · have hLm := hW'.lt hp (List.getElem_mem hml2)
            have hgm : (ints L')[m]'(by omega) = (L'[m] : Int) := ints_get hml2
            have hkm : (ints (kndL p))[((ints L')[m]'(by omega)).toNat]'(by rw [hgm, hkl]; omega) = (knd p L'[m] : Int) := by
              simp only [hgm, Int.toNat_natCast]; exact ikndL_at _
            have hkj : (ints (kndL p))[j]'(by omega) = (knd p j : Int) := ikndL_at _
            have hts := take_snoc _ _ hml2
            have bm : ((ints L')[m]'(by omega)).toNat < (ints (kndL p)).length := by rw [hkl, hgm]; omega
            cases f
            · focus
                have szE9 := E9.size; have szE7 := E7.size; have szE6 := E6.size; have szE5 := E5.size; have szE4 := E4.size; have szE3 := E3.size; have szE2 := E2.size; have szE1 := E1.size; refine W_seq ?_; refine W_seq ?_; refine W_region rfl ?_
                refine Wo rfl (opv_move (v := .int _ _) rfl) ?_; refine Wo rfl (opv_move (v := u') rfl) ?_; refine Wo rfl (opv_len Tryd.underlying80 rfl (Owned.read hO2)) ?_; refine Wo rfl (opv_lss rfl rfl) ?_; refine Wo_nil ?_
                refine W_cond_dec rfl (fun h5 => ?_) (fun h5 => ?_); refine W_skip ?_; refine W_seq ?_; refine W_block ?_; refine W_draw mixed (by kernel_rfl) rfl ?_; refine Wq_o rfl (fun _ _ => opv_move (v := .bool _) rfl) ?_
                refine Wq_o rfl (fun _ _ => opv_move (v := .bool _) rfl) ?_; refine Wq_skip rfl ?_; refine Wq_skip rfl ?_; refine Wq_skip rfl ?_; refine Wq_skip rfl ?_; refine Wq_skip rfl ?_; refine Wq_skip rfl ?_; refine Wq_skip rfl ?_
                refine Wq_skip rfl ?_; refine Wq_skip rfl ?_; refine Wq_skip rfl ?_; refine Wq_skip rfl ?_; refine Wq_skip rfl ?_; refine Wq_o rfl (fun _ _ => opv_pick_f (v := .bool _) rfl rfl) ?_
                refine Wq_o rfl (fun _ _ => opv_assign (v := .bool _) rfl) ?_; refine Wq_nil (fun w8 E8 => ?_); have hs4 := E8.size; refine W_region rfl ?_; refine Wo rfl (opv_move (v := .int _ _) rfl) ?_
                refine Wo rfl (opv_add rfl rfl (by omega)) ?_; refine Wo rfl (opv_assign (v := .int _ _) rfl) ?_; refine Wo_nil ?_; rotate_left; (exfalso; omega)
              refine ⟨((m + 1, false)), by repeat (first | exact trivial | refine And.intro rfl ?_), by repeat (first | with_reducible exact Same.refl | refine Same.upd rfl ?_ | refine Same.upds rfl ?_ | refine Same.mix rfl ?_), ?_, ?_⟩
              · refine ⟨by exact (E9.trans E8), by omega, ⟨fun h => (by cases h), fun h => ?_⟩⟩
                rw [hts, List.map_append, List.mem_append, not_or] at h
                exact absurd (hf.2 ⟨h.1, h.2.1⟩) (by simp)
              · simp only; omega
            · focus
                have szE9 := E9.size; have szE7 := E7.size; have szE6 := E6.size; have szE5 := E5.size; have szE4 := E4.size; have szE3 := E3.size; have szE2 := E2.size; have szE1 := E1.size; refine W_seq ?_; refine W_seq ?_; refine W_region rfl ?_
                refine Wo rfl (opv_move (v := .int _ _) rfl) ?_; refine Wo rfl (opv_move (v := u') rfl) ?_; refine Wo rfl (opv_len Tryd.underlying80 rfl (Owned.read hO2)) ?_; refine Wo rfl (opv_lss rfl rfl) ?_; refine Wo_nil ?_
                refine W_cond_dec rfl (fun h5 => ?_) (fun h5 => ?_); refine W_skip ?_; refine W_seq ?_; refine W_block ?_; refine W_draw mixed (by kernel_rfl) rfl ?_; refine Wq_o rfl (fun _ _ => opv_move (v := .bool _) rfl) ?_
                refine Wq_o rfl (fun _ _ => opv_move (v := .bool _) rfl) ?_; refine Wq_o rfl (fun _ _ => opv_move (v := uk) rfl) ?_; refine Wq_o rfl (fun _ _ => opv_move (v := u') rfl) ?_
                refine Wq_o rfl (fun _ _ => opv_move (v := .int _ _) rfl) ?_; refine Wq_get Tryd.underlying80 Tryd.sizeOf3 Tryd.isAgg3 rfl (fun _ => rfl) rfl (Owned.read hO2) E9 rfl (by first | omega | (simp <;> omega)) ?_; rintro _ _ rfl
                refine Wq_get_z Tryd.underlying80 Tryd.sizeOf3 Tryd.isAgg3 rfl (fun _ => rfl) rfl rK (E7.trans E9) rfl (by first | omega | (simp <;> omega)) ?_; rintro _ _ rfl; refine Wq_o rfl (fun _ _ => opv_move (v := uk) rfl) ?_
                refine Wq_o rfl (fun _ _ => opv_move (v := .int _ _) rfl) ?_; refine Wq_get Tryd.underlying80 Tryd.sizeOf3 Tryd.isAgg3 rfl (fun _ => rfl) rfl rK (E7.trans E9) rfl (by first | omega | (simp <;> omega)) ?_; rintro _ _ rfl
                refine Wq_o rfl (fun _ _ => opv_neq rfl rfl) ?_; refine Wq_o rfl (fun _ _ => opv_pick_t (v := .bool _) rfl rfl) ?_; refine Wq_o rfl (fun _ _ => opv_assign (v := .bool _) rfl) ?_; refine Wq_nil (fun w8 E8 => ?_); have hs4 := E8.size
                refine W_region rfl ?_; refine Wo rfl (opv_move (v := .int _ _) rfl) ?_; refine Wo rfl (opv_add rfl rfl (by omega)) ?_; refine Wo rfl (opv_assign (v := .int _ _) rfl) ?_; refine Wo_nil ?_; rotate_left; (exfalso; omega)
              refine ⟨((m + 1, !decide ((ints (kndL p))[((ints L')[m]'(by omega)).toNat]'bm = (ints (kndL p))[j]'(by omega)))), by repeat (first | exact trivial | refine And.intro rfl ?_), by repeat (first | with_reducible exact Same.refl | refine Same.upd rfl ?_ | refine Same.upds rfl ?_ | refine Same.mix rfl ?_), ?_, ?_⟩
              · refine ⟨by exact (E9.trans E8), by omega, ?_⟩
                rw [hkm, hkj, hts, List.map_append, List.mem_append, not_or]
                have hf' := hf.1 rfl
                simp only [List.map_cons, List.map_nil, List.mem_singleton, Bool.not_eq_true', decide_eq_false_iff_not]
                constructor
                · intro h; exact ⟨hf'.1, hf'.2, fun e => h (by rw [e])⟩
                · intro h e; exact h.2.2 (by omega)
              · simp only; omega
          · obtain rfl : m = L'.length := by omega
            rw [List.take_length] at hf
            cases f
            · focus
                have szE9 := E9.size; have szE7 := E7.size; have szE6 := E6.size; have szE5 := E5.size; have szE4 := E4.size; have szE3 := E3.size; have szE2 := E2.size; have szE1 := E1.size; refine W_seq ?_; refine W_seq ?_; refine W_region rfl ?_
                refine Wo rfl (opv_move (v := .int _ _) rfl) ?_; refine Wo rfl (opv_move (v := u') rfl) ?_; refine Wo rfl (opv_len Tryd.underlying80 rfl (Owned.read hO2)) ?_; refine Wo rfl (opv_lss rfl rfl) ?_; refine Wo_nil ?_
                refine W_cond_dec rfl (fun h5 => ?_) (fun h5 => ?_); (exfalso; omega); refine W_exit ?_; refine exitX_same ?_; refine W_seq ?_; refine W_region rfl ?_; refine Wo rfl (opv_move (v := .bool _) rfl) ?_; refine Wo_nil ?_
                refine W_cond_false rfl ?_; refine W_skip ?_; refine W_region rfl ?_; refine Wo rfl (opv_move (v := .int _ _) rfl) ?_; refine Wo rfl (opv_add rfl rfl (by omega)) ?_; refine Wo rfl (opv_assign (v := .int _ _) rfl) ?_
                refine Wo_nil ?_
              refine ⟨((j + 1, u', L')), by repeat (first | exact trivial | refine And.intro rfl ?_), by repeat (first | with_reducible exact Same.refl | refine Same.upd rfl ?_ | refine Same.upds rfl ?_ | refine Same.mix rfl ?_), ?_, ?_⟩
              · refine ⟨by exact (E7.trans E9), by omega, by exact (Mono.mono E9 hO2), hW', ⟨e, he⟩, fun j' h1 h2 => ?_⟩
                rcases Nat.lt_or_ge j' j with h3 | h3
                · exact hcl' j' h1 h3
                · obtain rfl : j' = j := by omega
                  exact Classical.byContradiction fun h => absurd (hf.2 ⟨h1, h⟩) (by simp)
              · simp only; omega
            · obtain ⟨hf1, hf2⟩ := hf.1 rfl
              focus
                have szE9 := E9.size; have szE7 := E7.size; have szE6 := E6.size; have szE5 := E5.size; have szE4 := E4.size; have szE3 := E3.size; have szE2 := E2.size; have szE1 := E1.size; refine W_seq ?_; refine W_seq ?_; refine W_region rfl ?_
                refine Wo rfl (opv_move (v := .int _ _) rfl) ?_; refine Wo rfl (opv_move (v := u') rfl) ?_; refine Wo rfl (opv_len Tryd.underlying80 rfl (Owned.read hO2)) ?_; refine Wo rfl (opv_lss rfl rfl) ?_; refine Wo_nil ?_
                refine W_cond_dec rfl (fun h5 => ?_) (fun h5 => ?_); (exfalso; omega); refine W_exit ?_; refine exitX_same ?_; refine W_seq ?_; refine W_region rfl ?_; refine Wo rfl (opv_move (v := .bool _) rfl) ?_; refine Wo_nil ?_
                refine W_cond_true rfl ?_; refine W_region rfl ?_; refine Wo rfl (opv_move (v := u') rfl) ?_; refine Wo rfl (opv_move (v := .int _ _) rfl) ?_
                refine Wo_buildSliceH (ps := [(0, .int _ _)]) (cs := [_]) rfl Tryd.underlying80 Tryd.sizeOf3 Tryd.zeroValue3 rfl rfl rfl rfl ?_; rintro b3 w8 hb3 E8 hB1 hHb3; have hlb3 := hB1.lt; have hs4 := E8.size
                refine Wo_app1 rfl el80 rfl rfl hB1 (hO2.toB.ext (E9.trans E8)) Owned.int (Nat.le_refl _) (by first | omega | (simp <;> omega)) (by omega) (by omega) ((((E2.trans E4).trans E7).trans E9).trans E8) (by omega) ?_
                have hT1 := (hO2.toB.ext (E9.trans E8)); rintro v1 w10 hO2 E10 M1; have E11 := M1.ext hT1 (((E4.trans E7).trans E9).trans E8) (by omega); have szE11 := E11.size; have E12 := M1.ext hT1 ((E7.trans E9).trans E8) (by omega)
                have szE12 := E12.size; have hB1 := hB1.moves M1 hT1 (by omega); have hs5 := E10.size; refine Wo rfl (opv_assign (v := v1) rfl) ?_; refine Wo_nil ?_; refine W_region rfl ?_; refine Wo rfl (opv_move (v := .int _ _) rfl) ?_
                refine Wo rfl (opv_add rfl rfl (by omega)) ?_; refine Wo rfl (opv_assign (v := .int _ _) rfl) ?_; refine Wo_nil ?_
              refine ⟨((j + 1, v1, L' ++ [j])), by repeat (first | exact trivial | refine And.intro rfl ?_), by repeat (first | with_reducible exact Same.refl | refine Same.upd rfl ?_ | refine Same.upds rfl ?_ | refine Same.mix rfl ?_), ?_, ?_⟩
              · refine ⟨by exact E12, by omega, ?_, hW'.step hXm hf1 hf2, ⟨e ++ [j], by rw [he, List.append_assoc]⟩, fun j' h1 h2 => ?_⟩
                · rw [ints_append]; assumption
                · rw [List.map_append, List.mem_append]
                  rcases Nat.lt_or_ge j' j with h3 | h3
                  · exact .inl (hcl' j' h1 h3)
                  · obtain rfl : j' = j := by omega
                    exact .inr (by simp)
              · simp only; omega
        · obtain rfl : j = p.length := by omega
          focus
            have szE7 := E7.size; have szE6 := E6.size; have szE5 := E5.size; have szE4 := E4.size; have szE3 := E3.size; have szE2 := E2.size; have szE1 := E1.size; refine W_seq ?_; refine W_seq ?_; refine W_region rfl ?_
            refine Wo rfl (opv_move (v := .int _ _) rfl) ?_; refine Wo rfl (opv_move (v := v) rfl) ?_; refine Wo rfl (opv_len Tryd.underlying49 rfl h) ?_; refine Wo rfl (opv_lss rfl rfl) ?_; refine Wo_nil ?_
            refine W_cond_dec rfl (fun h4 => ?_) (fun h4 => ?_); contradiction; refine W_exit ?_; refine exitX_same ?_; refine W_region rfl ?_; refine Wo rfl (opv_move (v := .int _ _) rfl) ?_; refine Wo rfl (opv_add rfl rfl (by omega)) ?_
            refine Wo rfl (opv_assign (v := .int _ _) rfl) ?_; refine Wo_nil ?_
          refine ⟨((t + 1, u', L')), by repeat (first | exact trivial | refine And.intro rfl ?_), by repeat (first | with_reducible exact Same.refl | refine Same.upd rfl ?_ | refine Same.upds rfl ?_ | refine Same.mix rfl ?_), ?_, ?_⟩
          · refine ⟨by exact E7, by exact hO2, hW', by omega, fun x hx j' hj' => ?_⟩
            rw [take_snoc _ _ htl'] at hx
            rcases List.mem_append.1 hx with hx | hx
            · have hx2 : x ∈ L.take t := by rw [he, List.take_append_of_le_length (by omega)] at hx; exact hx
              have := hcl x hx2 j' hj'
              rw [he, List.map_append]
              exact List.mem_append_left _ this
            · rw [List.mem_singleton.1 hx, hXt] at hj'
              exact hcl' j' hj' (arr_lt hp hXl hj')
          · simp only; omega
      · obtain rfl : t = L.length := by omega
        rw [List.take_length] at hcl
        have hKds := hW.kds hp hcl
        have hLlt : ∀ x ∈ L, x < p.length := fun x hx => hW.lt hp hx
        have hC : Cand p 0 (qp p (L.map (knd p))) := ⟨_, hKds, rfl⟩
        have hcl2 : (qp p (L.map (knd p))).length = L.length := by rw [qp_len, List.length_map]
        have hll := lst_len hp hp1 hC
        rw [hcl2] at hll
        by_cases h5 : L.length ≤ 5
        · have h5' : (lst p 0).length ≤ 5 := by omega
          have hPc := hC.pic hp hp1 (by omega)
          have k4 : ∀ (w : World) (v u t : Value), ESl Ints w v p → Ints w u (ints (kndL p)) → Ints w t (ints L) → Does Tryd.prog 101 [v, u, t] w (RetO w XR (qp p (L.map (knd p)))) := fun w v u t h1 h2 h3 => by
            rw [← ptV_qp hp hLlt]
            refine l4Part_ok w v u t p _ _ h1 h2 h3 hp hkl (fun x hx => ?_) (by rw [ints_len]; omega)
            obtain ⟨y, hy, rfl⟩ := List.mem_map.1 hx
            have := hLlt y hy
            omega
          have k5 : ∀ (w : World) (v : Value), ESl Ints w v (qp p (L.map (knd p))) → Does Tryd.prog 60 [v, .int .i64 0] w (RetO w XR (lst p 0)) := fun w v h => by
            have := LeastOf_ok w v _ h 0
            rw [if_pos ⟨hPc, by decide, by have := hPc.1; omega⟩] at this
            rw [(lst_same hp (hC.gr hp hp1) hp1 hPc.1).2 (hC.bis hp hp1)]
            exact this
          rw [if_pos h5', decide_eq_true h5']
          focus
            have szE6 := E6.size; have szE5 := E5.size; have szE4 := E4.size; have szE3 := E3.size; have szE2 := E2.size; have szE1 := E1.size; refine W_seq ?_; refine W_seq ?_; refine W_region rfl ?_
            refine Wo rfl (opv_move (v := .int _ _) rfl) ?_; refine Wo rfl (opv_move (v := u) rfl) ?_; refine Wo rfl (opv_len Tryd.underlying80 rfl (Owned.read hO2)) ?_; refine Wo rfl (opv_lss rfl rfl) ?_; refine Wo_nil ?_
            refine W_cond_dec rfl (fun h3 => ?_) (fun h3 => ?_); (exfalso; omega); refine W_exit ?_; refine exitX_same ?_; refine W_seq ?_; refine W_seq ?_; refine W_region rfl ?_; refine Wo rfl (opv_move (v := u) rfl) ?_
            refine Wo rfl (opv_len Tryd.underlying80 rfl (Owned.read hO2)) ?_; refine Wo rfl (opv_gtr rfl rfl) ?_; refine Wo_nil ?_; refine W_cond_dec rfl (fun h4 => ?_) (fun h4 => ?_); (exfalso; omega); refine W_skip ?_; refine W_seq ?_
            refine W_region rfl ?_; refine Wo rfl (opv_move (v := v) rfl) ?_; refine Wo rfl (opv_move (v := uk) rfl) ?_; refine Wo rfl (opv_move (v := u) rfl) ?_
            refine Wo_call rfl (opc3 (a := v) (b := uk) (c := u) Tryd.call101 rfl rfl rfl) (k4 _ _ _ _ ((Mono.mono ((E2.trans E4).trans E6) h)) ((Mono.mono E6 rK)) ((Owned.read hO2))) ?_; rintro u2 w7 ⟨E7, hO1⟩; have hs4 := E7.size
            refine Wo_call rfl (opc2 (a := u2) (b := .int _ _) Tryd.call60 rfl rfl) (k5 _ _ ((Owned.read hO1))) ?_; rintro u3 w8 ⟨E8, hO3⟩; have hs5 := E8.size; refine Wo rfl (opv_assign (v := u3) rfl) ?_
            refine Wo rfl (opv_assign (v := .bool _) rfl) ?_; refine Wo_nil ?_; refine W_ret ?_; refine at_ret (v := .tuple #[u3, .bool _]) rfl ?_; exact ⟨_, rfl, ((((E2.trans E4).trans E6).trans E7).trans E8), hO3.toB.o.mono (by omega)⟩
        · have h5' : ¬ (lst p 0).length ≤ 5 := by omega
          rw [if_neg h5', decide_eq_false h5']
          focus
            have szE6 := E6.size; have szE5 := E5.size; have szE4 := E4.size; have szE3 := E3.size; have szE2 := E2.size; have szE1 := E1.size; refine W_seq ?_; refine W_seq ?_; refine W_region rfl ?_
            refine Wo rfl (opv_move (v := .int _ _) rfl) ?_; refine Wo rfl (opv_move (v := u) rfl) ?_; refine Wo rfl (opv_len Tryd.underlying80 rfl (Owned.read hO2)) ?_; refine Wo rfl (opv_lss rfl rfl) ?_; refine Wo_nil ?_
            refine W_cond_dec rfl (fun h3 => ?_) (fun h3 => ?_); (exfalso; omega); refine W_exit ?_; refine exitX_same ?_; refine W_seq ?_; refine W_seq ?_; refine W_region rfl ?_; refine Wo rfl (opv_move (v := u) rfl) ?_
            refine Wo rfl (opv_len Tryd.underlying80 rfl (Owned.read hO2)) ?_; refine Wo rfl (opv_gtr rfl rfl) ?_; refine Wo_nil ?_; refine W_cond_dec rfl (fun h4 => ?_) (fun h4 => ?_); refine W_seq ?_; refine W_region rfl ?_
            refine Wo_lit0 (XSl 3 XInt) rfl el49 Tryd.sizeOf80 ?_; rintro b3 w7 hb3 b3lt E7 hO1; have hs4 := E7.size; refine Wo rfl (opv_assign (v := .slice _ _ _) rfl) ?_; refine Wo rfl (opv_assign (v := .bool _) rfl) ?_; refine Wo_nil ?_
            refine W_ret ?_; refine at_ret (v := .tuple #[.slice _ _ _, .bool _]) rfl ?_; exact ⟨_, rfl, (((E2.trans E4).trans E6).trans E7), hO1.toB.o.mono (by omega)⟩; (exfalso; omega)

end Go.Proofs.YtgphoihilheoeaaDoor
set_option linter.unusedVariables false
set_option linter.unusedSimpArgs false
namespace Go.Hs
open Classical
section
variable {p q g : List (List Int)} {a b n k x : Nat} {ms ms' : List Nat}
/-- the list that an option stands for -/
def og (o : Option (List (List Int))) : List (List Int) := o.getD []
theorem putV_og : og (putV g ms) = if (lst (put g ms) 0).length ≤ 5 then lst (put g ms) 0 else [] := by
  unfold putV og; split <;> rfl
theorem putV_is : (putV g ms).isSome = decide ((lst (put g ms) 0).length ≤ 5) := by
  unfold putV; split
  · rename_i h; simp [h]
  · rename_i h; simp [h]
theorem putV_congr (h : ∀ j, j ∈ ms ↔ j ∈ ms') : putV g ms = putV g ms' := by unfold putV; rw [put_congr h]
theorem togV_eq (hp : Gr p) (hq : Gr q) (ha : a < p.length) (hb : b < q.length) : togV p a q b = putV (bes p q) (arr p a ++ (arr q b).map (p.length + ·)) := by
  unfold togV
  refine putV_congr fun j => ?_
  rw [List.mem_append, List.mem_append, arr_bes1 hp ha, arr_bes2 hq hb, List.mem_map]
  exact ⟨fun h => h.imp id fun ⟨k, h1, h2⟩ => ⟨k, h1, h2.symm⟩, fun h => h.imp id fun ⟨k, h1, h2⟩ => ⟨k, h1, h2.symm⟩⟩
theorem wosV_eq : wosV p a q b = putV (bes p []) ((arr p a).filter (fun v => !decide (Bis p v q b)) ++ ([] : List Nat).map (p.length + ·)) := by
  unfold wosV; rw [bes_nil, List.map_nil, List.append_nil]
theorem arr_le (hp : Gr p) (ha : a < p.length) : (arr p a).length ≤ p.length := by
  have h := arrR_len (p.getD a [])
  rw [getD_lt ha, hp.row ha, ← getD_lt (d := []) ha] at h
  exact h
end
end Go.Hs
namespace Go.Proofs.YtgphoihilheoeaaDoor
open Go.Hs
set_option maxRecDepth 10000
set_option maxHeartbeats 4000000
set_option linter.unusedVariables false
set_option linter.unusedSimpArgs false

theorem l6Least_put (w : World) (v : Value) (g : List (List Int)) (ms : List Nat) (h : ESl Ints w v (put g ms)) (hg : Gr g) (hn : g.length ≤ 10) :
    Does Tryd.prog 134 [v] w (RetOB w XR (og (putV g ms)) (putV g ms).isSome) := by
  rw [putV_og, putV_is]
  exact l6Least_ok w v _ h (put_gr hg hn)

theorem PairOf_ok (w : World) (v u : Value) (p q : List (List Int)) (h : ESl Ints w v p) (h' : ESl Ints w u q) (a b : Nat) (ha : Nod p a) (hb : Nod q b) : Does Tryd.prog 116 [v, .int .i64 (a : Int), u, .int .i64 (b : Int)] w (RetOB w XR (og (pairV p a q b)) (pairV p a q b).isSome) := by
  have la : a < p.length := by have := ha.2; omega
  have lb : b < q.length := by have := hb.2; omega
  have hle := h.le
  have hle' := h'.le
  have hG := ha.1.bes5 hb.1
  have n1 : ∀ (w : World) (v : Value), ESl Ints w v p → Does Tryd.prog 59 [v, .int .i64 (a : Int)] w (Ret w (.bool true)) := fun w v h => by
    have := NodeOk_ok w v p h (a : Int); rwa [decide_eq_true ha] at this
  have n2 : ∀ (w : World) (v : Value), ESl Ints w v q → Does Tryd.prog 59 [v, .int .i64 (b : Int)] w (Ret w (.bool true)) := fun w v h => by
    have := NodeOk_ok w v q h (b : Int); rwa [decide_eq_true hb] at this
  have k1 : ∀ (w : World) (v u vl vr : Value), ESl Ints w v p → ESl Ints w u q → Ints w vl [(a : Int)] → Ints w vr [(b : Int)] → Does Tryd.prog 135 [v, u, vl, vr] w (RetO w XR (put (bes p q) [a, p.length + b])) := fun w v u vl vr h1 h2 h3 h4 =>
    l6Put_ok w v u vl vr p q [a] [b] h1 h2 h3 h4 ha.1 (.inl hb.1) (fun x hx => by rw [List.mem_singleton.1 hx]; exact la) (fun x hx => by rw [List.mem_singleton.1 hx]; exact lb) (by simp) (by simp)
  have k2 : ∀ (w : World) (v : Value), ESl Ints w v (put (bes p q) [a, p.length + b]) → Does Tryd.prog 134 [v] w (RetOB w XR (og (pairV p a q b)) (pairV p a q b).isSome) := fun w v h => l6Least_put w v _ _ h hG.1 hG.2
  refine fn_of_W2 Tryd.func116 rfl Tryd.results116 Tryd.ntmps116 rfl ?_
  have litown : True := trivial
  focus
    refine W_seq ?_; refine W_region rfl ?_; refine Wo rfl (opv_assign (v := .slice _ _ _) rfl) ?_; refine Wo rfl (opv_assign (v := .bool _) rfl) ?_; refine Wo_nil ?_; refine W_seq ?_; refine W_seq ?_; refine W_region rfl ?_
    refine Wo rfl (opv_move (v := v) rfl) ?_; refine Wo rfl (opv_move (v := .int _ _) rfl) ?_; refine Wo_call rfl (opc2 (a := v) (b := .int _ _) Tryd.call59 rfl rfl) (n1 _ _ (h)) ?_; rintro _ w1 ⟨rfl, E1⟩; have hs1 := E1.size
    refine Wo rfl (opv_not rfl) ?_; refine Wo_split rfl (opv_move (v := .bool _) rfl) (fun h1 => ?_) (fun h1 => ?_); contradiction; refine Wo rfl (opv_move (v := u) rfl) ?_; refine Wo rfl (opv_move (v := .int _ _) rfl) ?_
    refine Wo_call rfl (opc2 (a := u) (b := .int _ _) Tryd.call59 rfl rfl) (n2 _ _ ((Mono.mono E1 h'))) ?_; rintro _ w2 ⟨rfl, E2⟩; have hs2 := E2.size; refine Wo rfl (opv_not rfl) ?_; refine Wo rfl (opv_pick_f (v := .bool _) rfl rfl) ?_
    refine Wo_nil ?_; refine W_cond rfl (fun h2 => ?_) (fun h2 => ?_); contradiction; refine W_skip ?_; refine W_seq ?_; refine W_region rfl ?_; refine Wo rfl (opv_move (v := v) rfl) ?_; refine Wo rfl (opv_move (v := u) rfl) ?_
    refine Wo rfl (opv_move (v := .int _ _) rfl) ?_; refine Wo_buildSliceH (ps := [(0, .int _ _)]) (cs := [_]) rfl Tryd.underlying80 Tryd.sizeOf3 Tryd.zeroValue3 rfl rfl rfl rfl ?_; rintro b1 w3 hb1 E3 hB1 hHb1; have hlb1 := hB1.lt
    have hLb1 := own_lit1 hHb1 hb1; clear hHb1; have hs3 := E3.size; refine Wo rfl (opv_move (v := .int _ _) rfl) ?_
    refine Wo_buildSliceH (ps := [(0, .int _ _)]) (cs := [_]) rfl Tryd.underlying80 Tryd.sizeOf3 Tryd.zeroValue3 rfl rfl rfl rfl ?_; rintro b2 w4 hb2 E4 hB2 hHb2; have hlb2 := hB2.lt; have hLb2 := own_lit1 hHb2 hb2; clear hHb2
    have hs4 := E4.size
    refine Wo_call rfl (opc4 (a := v) (b := u) (c := .slice _ _ _) (d := .slice _ _ _) Tryd.call135 rfl rfl rfl rfl) (k1 _ _ _ _ _ ((Mono.mono (((E1.trans E2).trans E3).trans E4) h)) ((Mono.mono (((E1.trans E2).trans E3).trans E4) h')) ((Mono.mono E4 (Owned.read hLb1))) ((Owned.read hLb2))) ?_
    rintro u1 w5 ⟨E5, hO1⟩; have ichO1 := OwnedB.isC (Owned.toB hO1); have hs5 := E5.size; refine Wo_call rfl (opc1 (a := u1) Tryd.call134 rfl) (k2 _ _ ((Owned.read hO1))) ?_; rintro _ w6 ⟨u2, rfl, E6, hO2⟩
    have ichO2 := OwnedB.isC (Owned.toB hO2); have hs6 := E6.size; refine Wo rfl (opv_extract (v := u2) rfl rfl) ?_; refine Wo rfl (opv_extract (v := .bool _) rfl rfl) ?_; refine Wo rfl (opv_assign (v := u2) rfl) ?_
    refine Wo rfl (opv_assign (v := .bool _) rfl) ?_; refine Wo_nil ?_; refine W_ret ?_; refine at_ret (v := .tuple #[u2, .bool _]) rfl ?_
    exact ⟨_, rfl, (((((E1.trans E2).trans E3).trans E4).trans E5).trans E6), hO2.toB.o.mono (by omega)⟩

theorem TogetherOf_ok (w : World) (v u : Value) (p q : List (List Int)) (h : ESl Ints w v p) (h' : ESl Ints w u q) (a b : Nat) (ha : Nod p a) (hb : Nod q b) : Does Tryd.prog 117 [v, .int .i64 (a : Int), u, .int .i64 (b : Int)] w (RetOB w XR (og (togV p a q b)) (togV p a q b).isSome) := by
  have la : a < p.length := by have := ha.2; omega
  have lb : b < q.length := by have := hb.2; omega
  have hle := h.le
  have hle' := h'.le
  have hG := ha.1.bes5 hb.1
  have n1 : ∀ (w : World) (v : Value), ESl Ints w v p → Does Tryd.prog 59 [v, .int .i64 (a : Int)] w (Ret w (.bool true)) := fun w v h => by
    have := NodeOk_ok w v p h (a : Int); rwa [decide_eq_true ha] at this
  have n2 : ∀ (w : World) (v : Value), ESl Ints w v q → Does Tryd.prog 59 [v, .int .i64 (b : Int)] w (Ret w (.bool true)) := fun w v h => by
    have := NodeOk_ok w v q h (b : Int); rwa [decide_eq_true hb] at this
  have c1 : ∀ (w : World) (v : Value), ESl Ints w v p → Does Tryd.prog 75 [v, .int .i64 (a : Int)] w (RetO w XI (ints (arr p a))) := fun w v h => l6Arrows_ok w v p h ha.1.gr a la
  have c2 : ∀ (w : World) (v : Value), ESl Ints w v q → Does Tryd.prog 75 [v, .int .i64 (b : Int)] w (RetO w XI (ints (arr q b))) := fun w v h => l6Arrows_ok w v q h hb.1.gr b lb
  have k1 : ∀ (w : World) (v u vl vr : Value), ESl Ints w v p → ESl Ints w u q → Ints w vl (ints (arr p a)) → Ints w vr (ints (arr q b)) → Does Tryd.prog 135 [v, u, vl, vr] w (RetO w XR (put (bes p q) (arr p a ++ (arr q b).map (p.length + ·)))) := fun w v u vl vr h1 h2 h3 h4 =>
    l6Put_ok w v u vl vr p q _ _ h1 h2 h3 h4 ha.1 (.inl hb.1) (fun x hx => arr_lt ha.1.gr la hx) (fun x hx => arr_lt hb.1.gr lb hx) (by have := arr_le ha.1.gr la; have := ha.1.2.1; omega) (by have := arr_le hb.1.gr lb; have := hb.1.2.1; omega)
  have k2 : ∀ (w : World) (v : Value), ESl Ints w v (put (bes p q) (arr p a ++ (arr q b).map (p.length + ·))) → Does Tryd.prog 134 [v] w (RetOB w XR (og (togV p a q b)) (togV p a q b).isSome) := fun w v h => by
    rw [togV_eq ha.1.gr hb.1.gr la lb]
    exact l6Least_put w v _ _ h hG.1 hG.2
  refine fn_of_W2 Tryd.func117 rfl Tryd.results117 Tryd.ntmps117 rfl ?_
  focus
    refine W_seq ?_; refine W_region rfl ?_; refine Wo rfl (opv_assign (v := .slice _ _ _) rfl) ?_; refine Wo rfl (opv_assign (v := .bool _) rfl) ?_; refine Wo_nil ?_; refine W_seq ?_; refine W_seq ?_; refine W_region rfl ?_
    refine Wo rfl (opv_move (v := v) rfl) ?_; refine Wo rfl (opv_move (v := .int _ _) rfl) ?_; refine Wo_call rfl (opc2 (a := v) (b := .int _ _) Tryd.call59 rfl rfl) (n1 _ _ (h)) ?_; rintro _ w1 ⟨rfl, E1⟩; have hs1 := E1.size
    refine Wo rfl (opv_not rfl) ?_; refine Wo_split rfl (opv_move (v := .bool _) rfl) (fun h1 => ?_) (fun h1 => ?_); contradiction; refine Wo rfl (opv_move (v := u) rfl) ?_; refine Wo rfl (opv_move (v := .int _ _) rfl) ?_
    refine Wo_call rfl (opc2 (a := u) (b := .int _ _) Tryd.call59 rfl rfl) (n2 _ _ ((Mono.mono E1 h'))) ?_; rintro _ w2 ⟨rfl, E2⟩; have hs2 := E2.size; refine Wo rfl (opv_not rfl) ?_; refine Wo rfl (opv_pick_f (v := .bool _) rfl rfl) ?_
    refine Wo_nil ?_; refine W_cond rfl (fun h2 => ?_) (fun h2 => ?_); contradiction; refine W_skip ?_; refine W_seq ?_; refine W_region rfl ?_; refine Wo rfl (opv_move (v := v) rfl) ?_; refine Wo rfl (opv_move (v := u) rfl) ?_
    refine Wo rfl (opv_move (v := v) rfl) ?_; refine Wo rfl (opv_move (v := .int _ _) rfl) ?_; refine Wo_call rfl (opc2 (a := v) (b := .int _ _) Tryd.call75 rfl rfl) (c1 _ _ ((Mono.mono (E1.trans E2) h))) ?_; rintro u1 w3 ⟨E3, hO1⟩
    have hs3 := E3.size; refine Wo rfl (opv_move (v := u) rfl) ?_; refine Wo rfl (opv_move (v := .int _ _) rfl) ?_
    refine Wo_call rfl (opc2 (a := u) (b := .int _ _) Tryd.call75 rfl rfl) (c2 _ _ ((Mono.mono ((E1.trans E2).trans E3) h'))) ?_; rintro u2 w4 ⟨E4, hO2⟩; have hs4 := E4.size
    refine Wo_call rfl (opc4 (a := v) (b := u) (c := u1) (d := u2) Tryd.call135 rfl rfl rfl rfl) (k1 _ _ _ _ _ ((Mono.mono (((E1.trans E2).trans E3).trans E4) h)) ((Mono.mono (((E1.trans E2).trans E3).trans E4) h')) ((Mono.mono E4 (Owned.read hO1))) ((Owned.read hO2))) ?_
    rintro u3 w5 ⟨E5, hO3⟩; have hs5 := E5.size; refine Wo_call rfl (opc1 (a := u3) Tryd.call134 rfl) (k2 _ _ ((Owned.read hO3))) ?_; rintro _ w6 ⟨u4, rfl, E6, hO4⟩; have hs6 := E6.size; refine Wo rfl (opv_extract (v := u4) rfl rfl) ?_
    refine Wo rfl (opv_extract (v := .bool _) rfl rfl) ?_; refine Wo rfl (opv_assign (v := u4) rfl) ?_; refine Wo rfl (opv_assign (v := .bool _) rfl) ?_; refine Wo_nil ?_; refine W_ret ?_
    refine at_ret (v := .tuple #[u4, .bool _]) rfl ?_; exact ⟨_, rfl, (((((E1.trans E2).trans E3).trans E4).trans E5).trans E6), hO4.toB.o.mono (by omega)⟩

open Classical in
theorem WithoutSet_ok (w : World) (v u : Value) (p q : List (List Int)) (h : ESl Ints w v p) (h' : ESl Ints w u q) (a b : Nat) (ha : Nod p a) (hb : Nod q b) : Does Tryd.prog 118 [v, .int .i64 (a : Int), u, .int .i64 (b : Int)] w (RetOB w XR (og (wosV p a q b)) (wosV p a q b).isSome) := by
  have la : a < p.length := by have := ha.2; omega
  have lb : b < q.length := by have := hb.2; omega
  have hle := h.le
  have hle' := h'.le
  have n1 : ∀ (w : World) (v : Value), ESl Ints w v p → Does Tryd.prog 59 [v, .int .i64 (a : Int)] w (Ret w (.bool true)) := fun w v h => by
    have := NodeOk_ok w v p h (a : Int); rwa [decide_eq_true ha] at this
  have n2 : ∀ (w : World) (v : Value), ESl Ints w v q → Does Tryd.prog 59 [v, .int .i64 (b : Int)] w (Ret w (.bool true)) := fun w v h => by
    have := NodeOk_ok w v q h (b : Int); rwa [decide_eq_true hb] at this
  have c1 : ∀ (w : World) (v : Value), ESl Ints w v p → Does Tryd.prog 75 [v, .int .i64 (a : Int)] w (RetO w XI (ints (arr p a))) := fun w v h => l6Arrows_ok w v p h ha.1.gr a la
  have hal := arr_le ha.1.gr la
  have hail := ints_len (arr p a)
  have hp5 := ha.1.2.1
  refine fn_of_W2 Tryd.func118 rfl Tryd.results118 Tryd.ntmps118 rfl ?_
  focus
    refine W_seq ?_; refine W_region rfl ?_; refine Wo rfl (opv_assign (v := .slice _ _ _) rfl) ?_; refine Wo rfl (opv_assign (v := .bool _) rfl) ?_; refine Wo_nil ?_; refine W_seq ?_; refine W_seq ?_; refine W_region rfl ?_
    refine Wo rfl (opv_move (v := v) rfl) ?_; refine Wo rfl (opv_move (v := .int _ _) rfl) ?_; refine Wo_call rfl (opc2 (a := v) (b := .int _ _) Tryd.call59 rfl rfl) (n1 _ _ (h)) ?_; rintro _ w1 ⟨rfl, E1⟩; have hs1 := E1.size
    refine Wo rfl (opv_not rfl) ?_; refine Wo_split rfl (opv_move (v := .bool _) rfl) (fun h1 => ?_) (fun h1 => ?_); contradiction; refine Wo rfl (opv_move (v := u) rfl) ?_; refine Wo rfl (opv_move (v := .int _ _) rfl) ?_
    refine Wo_call rfl (opc2 (a := u) (b := .int _ _) Tryd.call59 rfl rfl) (n2 _ _ ((Mono.mono E1 h'))) ?_; rintro _ w2 ⟨rfl, E2⟩; have hs2 := E2.size; refine Wo rfl (opv_not rfl) ?_; refine Wo rfl (opv_pick_f (v := .bool _) rfl rfl) ?_
    refine Wo_nil ?_; refine W_cond rfl (fun h2 => ?_) (fun h2 => ?_); contradiction; refine W_skip ?_; refine W_seq ?_; refine W_region rfl ?_; refine Wo_lit0 XInt rfl el80 Tryd.sizeOf3 ?_; rintro b1 w3 hb1 b1lt E3 hO1
    have hs3 := E3.size; refine Wo rfl (opv_assign (v := .slice _ _ _) rfl) ?_; refine Wo_nil ?_; refine W_seq ?_; refine W_region rfl ?_; refine Wo rfl (opv_move (v := v) rfl) ?_; refine Wo rfl (opv_move (v := .int _ _) rfl) ?_
    refine Wo_call rfl (opc2 (a := v) (b := .int _ _) Tryd.call75 rfl rfl) (c1 _ _ ((Mono.mono ((E1.trans E2).trans E3) h))) ?_; rintro u1 w4 ⟨E4, hO2⟩; have hs4 := E4.size; refine Wo rfl (opv_assign (v := u1) rfl) ?_; refine Wo_nil ?_
    refine W_seq ?_; refine W_seq ?_; refine W_region rfl ?_; refine Wo rfl (opv_assign (v := .int _ _) rfl) ?_; refine Wo_nil ?_; refine W_block ?_
  have hO3 : Owned w.heap.size XI w4 (.slice (some ⟨b1, 0, none⟩) 0 0) (ints []) := (hO1.ext E4).mono (by omega)
  have hBe : Besides (Value.ownBlock (.slice (some ⟨b1, 0, none⟩) 0 0)) Ints w4 u1 (ints (arr p a)) := Besides.start hO1 hO2.above
  clear hO1 hO2
  have E0 : Ext w w4 := by exact (((E1.trans E2).trans E3).trans E4)
  refine W_loop [10, 12, 28, 29, 30, 31, 32, 33, 34, 35, 36, 37, 38, 39, 40, 41, 42, 43, 44, 45, 46, 47, 48, 49] (fun ((k, u, L) : Nat × Value × List Nat) => [(12, .int .i64 (k : Nat)), (10, u)]) (fun (k, u, L) w' => Ext w w' ∧ k ≤ (arr p a).length ∧ Owned w.heap.size XI w' u (ints L) ∧ Besides u.ownBlock Ints w' u1 (ints (arr p a)) ∧ L = ((arr p a).take k).filter fun v => !decide (Bis p v q b)) (fun x => (arr p a).length - x.1) (0, .slice (some ⟨b1, 0, none⟩) 0 0, []) (by repeat (first | exact trivial | refine And.intro rfl ?_)) ?_ ?_
  · exact ⟨by exact E0, Nat.zero_le _, hO3, hBe, by simp⟩
  clear hO3 hBe
  rintro ⟨k, uk, L⟩ ρj w5 ⟨E5, hk, hO3, hBe, hL⟩
  have hLle : L.length ≤ (arr p a).length := by rw [hL]; exact Nat.le_trans (List.length_filter_le _ _) (by rw [List.length_take]; omega)
  have hLil := ints_len L
  by_cases hkl : k < (arr p a).length
  · have hm := arr_lt ha.1.gr la (List.getElem_mem hkl)
    have hgk : (ints (arr p a))[k]'(by omega) = ((arr p a)[k] : Int) := ints_get hkl
    have hts := take_snoc _ _ hkl
    have hnk : Nod p ((arr p a)[k] : Nat) := ⟨ha.1, by omega, by omega⟩
    by_cases hB : Bis p (arr p a)[k] q b
    · have k3 : ∀ (w : World) (v u : Value), ESl Ints w v p → ESl Ints w u q → Does Tryd.prog 136 [v, .int .i64 ((ints (arr p a))[k]'(by omega)), u, .int .i64 (b : Int)] w (Ret w (.bool true)) := fun w v u h1 h2 => by
        have := spec_SameSet_ok w v u p q h1 h2 (((arr p a)[k] : Nat) : Int) (b : Int) hnk hb
        rw [hgk]; simp only [Int.toNat_natCast] at this
        rwa [decide_eq_true hB] at this
      focus
        have szE5 := E5.size; have szE0 := E0.size; have szE4 := E4.size; have szE3 := E3.size; have szE2 := E2.size; have szE1 := E1.size; refine W_seq ?_; refine W_seq ?_; refine W_region rfl ?_
        refine Wo rfl (opv_move (v := .int _ _) rfl) ?_; refine Wo rfl (opv_move (v := u1) rfl) ?_; refine Wo rfl (opv_len Tryd.underlying80 rfl (Besides.here hBe)) ?_; refine Wo rfl (opv_lss rfl rfl) ?_; refine Wo_nil ?_
        refine W_cond_dec rfl (fun h3 => ?_) (fun h3 => ?_); refine W_skip ?_; refine W_seq ?_; refine W_block ?_; refine W_seq ?_; refine W_region rfl ?_; refine Wo rfl (opv_move (v := v) rfl) ?_; refine Wo rfl (opv_move (v := u1) rfl) ?_
        refine Wo rfl (opv_move (v := .int _ _) rfl) ?_; refine Wo_get Tryd.underlying80 Tryd.sizeOf3 Tryd.isAgg3 rfl (fun _ => rfl) rfl (Besides.here hBe) (Ext.refl _) rfl (by first | omega | (simp <;> omega)) ?_; rintro _ _ rfl
        refine Wo rfl (opv_move (v := u) rfl) ?_; refine Wo rfl (opv_move (v := .int _ _) rfl) ?_
        refine Wo_call rfl (opc4 (a := v) (b := .int _ _) (c := u) (d := .int _ _) Tryd.call136 rfl rfl rfl rfl) (k3 _ _ _ ((Mono.mono E5 h)) ((Mono.mono E5 h'))) ?_; rintro _ w6 ⟨rfl, E6⟩; have hs5 := E6.size
        refine Wo rfl (opv_not rfl) ?_; refine Wo_nil ?_; refine W_cond rfl (fun h4 => ?_) (fun h4 => ?_); contradiction; refine W_skip ?_; refine W_region rfl ?_; refine Wo rfl (opv_move (v := .int _ _) rfl) ?_
        refine Wo rfl (opv_add rfl rfl (by omega)) ?_; refine Wo rfl (opv_assign (v := .int _ _) rfl) ?_; refine Wo_nil ?_; rotate_left; (exfalso; omega)
      refine ⟨((k + 1, uk, L)), by repeat (first | exact trivial | refine And.intro rfl ?_), by repeat (first | with_reducible exact Same.refl | refine Same.upd rfl ?_ | refine Same.upds rfl ?_ | refine Same.mix rfl ?_), ?_, ?_⟩
      · refine ⟨by exact (E5.trans E6), by omega, by exact (Mono.mono E6 hO3), by exact (hBe.ext E6), ?_⟩
        rw [hL, hts, List.filter_append]; simp [hB]
      · simp only; omega
    · have k3 : ∀ (w : World) (v u : Value), ESl Ints w v p → ESl Ints w u q → Does Tryd.prog 136 [v, .int .i64 ((ints (arr p a))[k]'(by omega)), u, .int .i64 (b : Int)] w (Ret w (.bool false)) := fun w v u h1 h2 => by
        have := spec_SameSet_ok w v u p q h1 h2 (((arr p a)[k] : Nat) : Int) (b : Int) hnk hb
        rw [hgk]; simp only [Int.toNat_natCast] at this
        rwa [decide_eq_false hB] at this
      focus
        have szE5 := E5.size; have szE0 := E0.size; have szE4 := E4.size; have szE3 := E3.size; have szE2 := E2.size; have szE1 := E1.size; refine W_seq ?_; refine W_seq ?_; refine W_region rfl ?_
        refine Wo rfl (opv_move (v := .int _ _) rfl) ?_; refine Wo rfl (opv_move (v := u1) rfl) ?_; refine Wo rfl (opv_len Tryd.underlying80 rfl (Besides.here hBe)) ?_; refine Wo rfl (opv_lss rfl rfl) ?_; refine Wo_nil ?_
        refine W_cond_dec rfl (fun h3 => ?_) (fun h3 => ?_); refine W_skip ?_; refine W_seq ?_; refine W_block ?_; refine W_seq ?_; refine W_region rfl ?_; refine Wo rfl (opv_move (v := v) rfl) ?_; refine Wo rfl (opv_move (v := u1) rfl) ?_
        refine Wo rfl (opv_move (v := .int _ _) rfl) ?_; refine Wo_get Tryd.underlying80 Tryd.sizeOf3 Tryd.isAgg3 rfl (fun _ => rfl) rfl (Besides.here hBe) (Ext.refl _) rfl (by first | omega | (simp <;> omega)) ?_; rintro _ _ rfl
        refine Wo rfl (opv_move (v := u) rfl) ?_; refine Wo rfl (opv_move (v := .int _ _) rfl) ?_
        refine Wo_call rfl (opc4 (a := v) (b := .int _ _) (c := u) (d := .int _ _) Tryd.call136 rfl rfl rfl rfl) (k3 _ _ _ ((Mono.mono E5 h)) ((Mono.mono E5 h'))) ?_; rintro _ w6 ⟨rfl, E6⟩; have hs5 := E6.size
        refine Wo rfl (opv_not rfl) ?_; refine Wo_nil ?_; refine W_cond rfl (fun h4 => ?_) (fun h4 => ?_); refine W_region rfl ?_; refine Wo rfl (opv_move (v := uk) rfl) ?_; refine Wo rfl (opv_move (v := u1) rfl) ?_
        refine Wo rfl (opv_move (v := .int _ _) rfl) ?_; refine Wo_get Tryd.underlying80 Tryd.sizeOf3 Tryd.isAgg3 rfl (fun _ => rfl) rfl (Besides.here hBe) E6 rfl (by first | omega | (simp <;> omega)) ?_; rintro _ _ rfl
        refine Wo_buildSliceH (ps := [(0, .int _ _)]) (cs := [_]) rfl Tryd.underlying80 Tryd.sizeOf3 Tryd.zeroValue3 rfl rfl rfl rfl ?_; rintro b2 w7 hb2 E7 hB1 hHb2; have hlb2 := hB1.lt; have hs6 := E7.size
        refine Wo_app1 rfl el80 rfl rfl hB1 (hO3.toB.ext (E6.trans E7)) Owned.int (Nat.le_refl _) (by first | omega | (simp <;> omega)) (by omega) (by omega) ((E5.trans E6).trans E7) (by omega) ?_; have hT1 := (hO3.toB.ext (E6.trans E7))
        rintro v1 w8 hO3 E8 M1; have hBe := (hBe.ext (E6.trans E7)).moves M1; have hB1 := hB1.moves M1 hT1 (by omega); have hs7 := E8.size; refine Wo rfl (opv_assign (v := v1) rfl) ?_; refine Wo_nil ?_; refine W_region rfl ?_
        refine Wo rfl (opv_move (v := .int _ _) rfl) ?_; refine Wo rfl (opv_add rfl rfl (by omega)) ?_; refine Wo rfl (opv_assign (v := .int _ _) rfl) ?_; refine Wo_nil ?_; rotate_left; contradiction; (exfalso; omega)
      refine ⟨((k + 1, v1, L ++ [(arr p a)[k]])), by repeat (first | exact trivial | refine And.intro rfl ?_), by repeat (first | with_reducible exact Same.refl | refine Same.upd rfl ?_ | refine Same.upds rfl ?_ | refine Same.mix rfl ?_), ?_, ?_⟩
      · refine ⟨by exact E8, by omega, ?_, by exact hBe, ?_⟩
        · rw [ints_append, show ints [(arr p a)[k]] = [(ints (arr p a))[k]'(by omega)] by rw [hgk]; rfl]
          assumption
        · rw [hL, hts, List.filter_append]; simp [hB]
      · simp only; omega
  · obtain rfl : k = (arr p a).length := by omega
    rw [List.take_length] at hL
    have hLm : ∀ x ∈ L, x < p.length := fun x hx => arr_lt ha.1.gr la (List.mem_filter.1 (hL ▸ hx)).1
    have rL := hO3.read
    have rA := hBe.here
    clear hO3 hBe
    have hpp := ha.1.gr
    have k1 : ∀ (w : World) (v u vl vr : Value), ESl Ints w v p → ESl Ints w u [] → Ints w vl (ints L) → Ints w vr [] → Does Tryd.prog 135 [v, u, vl, vr] w (RetO w XR (put (bes p []) (L ++ ([] : List Nat).map (p.length + ·)))) := fun w v u vl vr h1 h2 h3 h4 =>
      l6Put_ok w v u vl vr p [] _ [] h1 h2 h3 h4 ha.1 (.inr rfl) hLm (fun x hx => by cases hx) (by omega) (by simp)
    have k2 : ∀ (w : World) (v : Value), ESl Ints w v (put (bes p []) (L ++ ([] : List Nat).map (p.length + ·))) → Does Tryd.prog 134 [v] w (RetOB w XR (og (wosV p a q b)) (wosV p a q b).isSome) := fun w v h => by
      rw [wosV_eq, ← hL]
      exact l6Least_put w v _ _ h (by rw [bes_nil]; exact hpp) (by rw [bes_nil]; omega)
    focus
      have szE5 := E5.size; have szE0 := E0.size; have szE4 := E4.size; have szE3 := E3.size; have szE2 := E2.size; have szE1 := E1.size; refine W_seq ?_; refine W_seq ?_; refine W_region rfl ?_
      refine Wo rfl (opv_move (v := .int _ _) rfl) ?_; refine Wo rfl (opv_move (v := u1) rfl) ?_; refine Wo rfl (opv_len Tryd.underlying80 rfl rA) ?_; refine Wo rfl (opv_lss rfl rfl) ?_; refine Wo_nil ?_
      refine W_cond_dec rfl (fun h3 => ?_) (fun h3 => ?_); (exfalso; omega); refine W_exit ?_; refine exitX_same ?_; refine W_seq ?_; refine W_region rfl ?_; refine Wo rfl (opv_move (v := v) rfl) ?_
      refine Wo_lit0 (XSl 3 XInt) rfl el49 Tryd.sizeOf80 ?_; rintro b2 w6 hb2 b2lt E6 hO1; have hs5 := E6.size; refine Wo rfl (opv_move (v := uk) rfl) ?_; refine Wo_lit0 XInt rfl el80 Tryd.sizeOf3 ?_; rintro b3 w7 hb3 b3lt E7 hO2
      have hs6 := E7.size
      refine Wo_call rfl (opc4 (a := v) (b := .slice _ _ _) (c := uk) (d := .slice _ _ _) Tryd.call135 rfl rfl rfl rfl) (k1 _ _ _ _ _ ((Mono.mono ((E5.trans E6).trans E7) h)) ((Mono.mono E7 (Owned.read hO1))) ((Mono.mono (E6.trans E7) rL)) ((Owned.read hO2))) ?_
      rintro u2 w8 ⟨E8, hO3⟩; have hs7 := E8.size; refine Wo_call rfl (opc1 (a := u2) Tryd.call134 rfl) (k2 _ _ ((Owned.read hO3))) ?_; rintro _ w9 ⟨u3, rfl, E9, hO4⟩; have hs8 := E9.size; refine Wo rfl (opv_extract (v := u3) rfl rfl) ?_
      refine Wo rfl (opv_extract (v := .bool _) rfl rfl) ?_; refine Wo rfl (opv_assign (v := u3) rfl) ?_; refine Wo rfl (opv_assign (v := .bool _) rfl) ?_; refine Wo_nil ?_; refine W_ret ?_
      refine at_ret (v := .tuple #[u3, .bool _]) rfl ?_; exact ⟨_, rfl, ((((E5.trans E6).trans E7).trans E8).trans E9), hO4.toB.o.mono (by omega)⟩

end Go.Proofs.YtgphoihilheoeaaDoor
namespace Go.Proofs.YtgphoihilheoeaaDoor
open Go.Hs
set_option maxRecDepth 10000
set_option maxHeartbeats 4000000
set_option linter.unusedVariables false
set_option linter.unusedSimpArgs false

end Go.Proofs.YtgphoihilheoeaaDoor
set_option linter.unusedVariables false
namespace Go.Hs
section
variable {w w' : World} {u u' v : Value} {e : TypeId} {lo : Nat} {xs ys : List Int}
/-- blocks apart -/
def Apt (u v : Value) : Prop := v.ownBlock = none ∨ u.ownBlock ≠ v.ownBlock
theorem Apt.symm (h : Apt u v) : Apt v u := by
  unfold Apt at *
  rcases hu : u.ownBlock with _ | a
  · exact .inl rfl
  · right
    rcases h with h | h
    · rw [h]; simp
    · rw [← hu]; exact fun e => h e.symm
end
end Go.Hs
namespace Go.Proofs.YtgphoihilheoeaaDoor
open Go.Hs
set_option maxRecDepth 10000
set_option maxHeartbeats 4000000
set_option linter.unusedVariables false
set_option linter.unusedSimpArgs false

end Go.Proofs.YtgphoihilheoeaaDoor
set_option linter.unusedVariables false
set_option linter.unusedSimpArgs false
namespace Go.Hs
/-- the row that a text of numbers tells -/
def rowB (n : Nat) (l : List UInt8) : List Int := (List.range n).map fun i => if l.any fun c => decide (c.toNat = 48 + i) then 1 else 0
def rdM (s : List UInt8) : List (List Int) := (cutB 47 s).map (rowB (cutB 47 s).length)
/-- each byte is a number below n -/
def inR (n : Nat) (l : List UInt8) : Prop := ∀ c ∈ l, 48 ≤ c.toNat ∧ c.toNat < 48 + n
section
variable {n a : Nat} {l : List UInt8} {r : List Int} {s : List UInt8} {p : List (List Int)}
theorem rowB_len : (rowB n l).length = n := by simp [rowB]
theorem rowB_nil : rowB n [] = List.replicate n 0 := by
  simp only [rowB, List.any_nil, Bool.false_eq_true, if_false]
  apply List.ext_getElem <;> simp
theorem rowB_get (h : a < n) : (rowB n l)[a]'(by rw [rowB_len]; exact h) = if l.any (fun c => decide (c.toNat = 48 + a)) then 1 else 0 := by simp [rowB]
theorem rowB_set {c : UInt8} (hc : c.toNat = 48 + a) (ha : a < n) : (rowB n l).set a 1 = rowB n (l ++ [c]) := by
  apply List.ext_getElem
  · simp [rowB_len]
  · intro i h1 h2
    rw [rowB_len] at h2
    rw [List.getElem_set]
    by_cases e : a = i
    · subst e
      rw [if_pos rfl, rowB_get h2, if_pos]
      simp [hc]
    · rw [if_neg e, rowB_get h2, rowB_get h2]
      have : (decide (c.toNat = 48 + i)) = false := decide_eq_false (by omega)
      simp [List.any_append, this]
theorem rowB_bits : ∀ x ∈ rowB n l, x = 0 ∨ x = 1 := by
  intro x hx
  obtain ⟨i, _, rfl⟩ := List.mem_map.1 hx
  split <;> simp
theorem rowB_txR (hl : r.length = n) (hn : n ≤ 100) (h1 : ∀ x ∈ r, x = 0 ∨ x = 1) : rowB n (txR r) = r := by
  apply List.ext_getElem
  · rw [rowB_len, hl]
  · intro i hi h2
    rw [rowB_len] at hi
    rw [rowB_get hi]
    have hx := h1 _ (List.getElem_mem h2)
    by_cases h : r[i] = 1
    · rw [if_pos, h]
      refine List.any_eq_true.2 ⟨dig i, List.mem_map.2 ⟨i, mem_arrR.2 ⟨h2, ?_⟩, rfl⟩, ?_⟩
      · rw [getD_lt h2]; exact h
      · rw [decide_eq_true_eq, dig_toNat (by omega)]
    · rw [if_neg]
      · rcases hx with hx | hx
        · exact hx.symm
        · exact absurd hx h
      · intro hany
        obtain ⟨c, hc, hc2⟩ := List.any_eq_true.1 hany
        obtain ⟨j, hj, rfl⟩ := List.mem_map.1 hc
        obtain ⟨hj1, hj2⟩ := mem_arrR.1 hj
        rw [decide_eq_true_eq, dig_toNat (by omega)] at hc2
        obtain rfl : j = i := by omega
        rw [getD_lt h2] at hj2
        exact h hj2
theorem inR_txR (hl : r.length = n) (hn : n ≤ 100) : inR n (txR r) := by
  intro c hc
  obtain ⟨j, hj, rfl⟩ := List.mem_map.1 hc
  have := (mem_arrR.1 hj).1
  rw [dig_toNat (by omega)]; omega
theorem rdM_len : (rdM s).length = (cutB 47 s).length := by simp [rdM]
theorem rdM_txt (hp : Pic p) : rdM (txt p) = p := by
  have h5 := hp.2.1
  unfold rdM
  rw [cut_txt hp.gr, List.map_map, List.length_map]
  conv => rhs; rw [← List.map_id p]
  refine List.map_congr_left fun r hr => ?_
  exact rowB_txR (hp.2.2 r hr).1 (by omega) (hp.2.2 r hr).2
theorem rdM_pic (h : (cutB 47 s).length ≤ 5) : Pic (rdM s) := by
  refine ⟨?_, by rw [rdM_len]; exact h, ?_⟩
  · rw [rdM_len]; have := List.length_pos_iff.2 (cutB_ne (s := 47) s); omega
  · intro r hr
    obtain ⟨x, _, rfl⟩ := List.mem_map.1 hr
    exact ⟨by rw [rowB_len, rdM_len], rowB_bits⟩
theorem rd_yes (hp : Pic (rdM s)) (h : txt (rdM s) = s) : rdP s = some (rdM s) := by
  have := rdP_txt hp
  rwa [h] at this
theorem rd_is (h : rdP s = some p) : p = rdM s ∧ Pic p ∧ txt p = s ∧ (∀ x ∈ cutB 47 s, inR (cutB 47 s).length x) ∧ (cutB 47 s).length = p.length := by
  obtain ⟨h1, h2⟩ := rdP_some h
  subst h2
  have h5 := h1.2.1
  refine ⟨(rdM_txt h1).symm, h1, rfl, ?_, ?_⟩
  · rw [cut_txt h1.gr, List.length_map]
    intro x hx
    obtain ⟨r, hr, rfl⟩ := List.mem_map.1 hx
    exact inR_txR (h1.2.2 r hr).1 (by omega)
  · rw [cut_txt h1.gr, List.length_map]
theorem opt_none {α : Type} {o : Option α} (h : ∀ x, o ≠ some x) : o = none := by
  cases o with
  | none => rfl
  | some x => exact absurd rfl (h x)
theorem rd_no1 {x : List UInt8} {c : UInt8} (hx : x ∈ cutB 47 s) (hc : c ∈ x) (h : ¬ (48 ≤ c.toNat ∧ c.toNat < 48 + (cutB 47 s).length)) : rdP s = none := opt_none fun p hp => h ((rd_is hp).2.2.2.1 x hx c hc)
theorem rd_no2 (h : ¬ Pic (rdM s)) : rdP s = none := opt_none fun p hp => h ((rd_is hp).1 ▸ (rd_is hp).2.1)
theorem rd_no3 (h : txt (rdM s) ≠ s) : rdP s = none := opt_none fun p hp => h ((rd_is hp).1 ▸ (rd_is hp).2.2.1)
theorem rd_no4 (h : 5 < (cutB 47 s).length) : rdP s = none := opt_none fun p hp => by have := (rd_is hp).2.2.2.2; have := (rd_is hp).2.1.2.1; omega
end
end Go.Hs
namespace Go.Proofs.YtgphoihilheoeaaDoor
open Go.Hs
set_option maxRecDepth 10000
set_option maxHeartbeats 4000000
set_option linter.unusedVariables false
set_option linter.unusedSimpArgs false

theorem pictureText_ok (w : World) (v : Value) (p : List (List Int)) (h : ESl Ints w v p) (hp : Pic p) : Does Tryd.prog 88 [v] w (Ret w (str (txt p))) := by
  have hle := h.le
  have hp1 := hp.1
  have hp5 := hp.2.1
  have hal : ∀ k, (arr p k).length ≤ 5 := fun k => by
    unfold arr
    refine Nat.le_trans (arrR_len _) ?_
    by_cases hk : k < p.length
    · rw [getD_lt hk, hp.row hk]; omega
    · have : p.getD k [] = [] := by simp [List.getD_eq_getElem?_getD, List.getElem?_eq_none (show p.length ≤ k by omega)]
      rw [this]; simp
  have k1 : ∀ (k : Nat), k < p.length → ∀ (w : World) (v : Value), ESl Ints w v p → Does Tryd.prog 106 [v, .int .i64 (k : Int)] w (RetO w XI (ints (arr p k))) := fun k hk w v h =>
    arrowsOf_ok w v p h (k : Int) (by omega) (by simp only [Int.toNat_natCast]; rw [getD_lt hk, hp.row hk]; omega)
  refine fn_of_W1 Tryd.func88 rfl Tryd.results88 Tryd.ntmps88 rfl ?_
  focus
    refine W_seq ?_; refine W_region rfl ?_; refine Wo rfl (opv_assign (v := .string _) rfl) ?_; refine Wo_nil ?_; refine W_seq ?_; refine W_region rfl ?_; refine Wo_lit0 XStr rfl el65 Tryd.sizeOf9 ?_; rintro b1 w1 hb1 b1lt E1 hO1
    have hs1 := E1.size; refine Wo rfl (opv_assign (v := .slice _ _ _) rfl) ?_; refine Wo_nil ?_; refine W_seq ?_; refine W_seq ?_; refine W_region rfl ?_; refine Wo rfl (opv_move (v := v) rfl) ?_
    refine Wo rfl (opv_len Tryd.underlying49 rfl h) ?_; refine Wo rfl (opv_move (v := .int _ _) rfl) ?_; refine Wo_nil ?_; refine W_block ?_
  refine W_loop [3, 4, 5, 7, 11, 12, 13, 14, 15, 16, 17, 18, 19, 20, 21, 22, 23, 24, 25, 26, 27, 28, 29, 30, 31] (fun ((k : Nat), u) => [(11, .int .i64 (k : Nat)), (3, u)]) (fun (k, u) w' => Ext w w' ∧ k ≤ p.length ∧ Owned w.heap.size XS w' u ((p.take k).map txR)) (fun x => p.length - x.1) (0, .slice (some ⟨b1, 0, none⟩) 0 0) (by repeat (first | exact trivial | refine And.intro rfl ?_)) ?_ ?_
  · exact ⟨by assumption, Nat.zero_le _, by simpa using hO1⟩
  clear hO1
  rintro ⟨k, u⟩ ρj w2 ⟨E2, hk, hO2⟩
  have htk : ((p.take k).map txR).length = k := by simp; omega
  by_cases hlt : k < p.length
  · have k2 := k1 k hlt
    have hil : (ints (arr p k)).length = (arr p k).length := by simp [ints]
    have hak := hal k
    have hdl : ∀ (m : Nat) (hm : m < (ints (arr p k)).length), (ints (arr p k))[m] = ((arr p k)[m]'(by omega) : Int) := fun m hm => by simp [ints]
    have hd5 : ∀ (m : Nat) (hm : m < (arr p k).length), (arr p k)[m] < 10 := fun m hm => by
      have := (mem_arrR.1 (List.getElem_mem hm)).1
      rw [getD_lt hlt, hp.row hlt] at this; omega
    focus
      have szE2 := E2.size; have szE1 := E1.size; refine W_seq ?_; refine W_region rfl ?_; refine Wo rfl (opv_lss rfl rfl) ?_; refine Wo_nil ?_; refine W_seq ?_; refine W_cond_dec rfl (fun h1 => ?_) (fun h1 => ?_); refine W_skip ?_
      refine W_seq ?_; refine W_block ?_; refine W_seq ?_; refine W_region rfl ?_; refine Wo rfl (opv_move (v := .int _ _) rfl) ?_; refine Wo rfl (opv_assign (v := .int _ _) rfl) ?_; refine Wo_nil ?_; refine W_seq ?_
      refine W_region rfl ?_; refine Wo rfl (opv_assign (v := .string _) rfl) ?_; refine Wo_nil ?_; refine W_seq ?_; refine W_seq ?_; refine W_region rfl ?_; refine Wo rfl (opv_move (v := v) rfl) ?_
      refine Wo rfl (opv_move (v := .int _ _) rfl) ?_; refine Wo_call rfl (opc2 (a := v) (b := .int _ _) Tryd.call106 rfl rfl) (k2 _ _ ((Mono.mono E2 h))) ?_; rintro u1 w3 ⟨E3, hO1⟩; have hs2 := E3.size
      refine Wo rfl (opv_len Tryd.underlying80 rfl (Owned.read hO1)) ?_; refine Wo rfl (opv_move (v := .int _ _) rfl) ?_; refine Wo_nil ?_; refine W_block ?_; rotate_left; (exfalso; omega)
    refine W_loop [5, 7, 18, 19, 20, 21, 22, 23, 24, 25, 26] (fun ((m, t) : Nat × List UInt8) => [(18, .int .i64 (m : Nat)), (5, str t)]) (fun (m, t) w' => Ext w3 w' ∧ m ≤ (arr p k).length ∧ t = ((arr p k).take m).map dig) (fun x => (arr p k).length - x.1) (0, []) (by repeat (first | exact trivial | refine And.intro rfl ?_)) ?_ ?_
    · exact ⟨Ext.refl _, Nat.zero_le _, by simp⟩
    rintro ⟨m, t⟩ ρk w4 ⟨E4, hm, ht⟩
    have htl : t.length ≤ 5 := by rw [ht]; simp; omega
    by_cases hml : m < (arr p k).length
    · have k3 : ∀ w, Does Tryd.prog 72 [.int .i64 ((ints (arr p k))[m]'(by omega))] w (Ret w (str [dig (arr p k)[m]])) := fun w => by
        rw [hdl m (by omega)]; exact Itoa_ok w _ (hd5 m hml)
      focus
        have szE4 := E4.size; have szE3 := E3.size; have szE2 := E2.size; have szE1 := E1.size; refine W_seq ?_; refine W_region rfl ?_; refine Wo rfl (opv_lss rfl rfl) ?_; refine Wo_nil ?_; refine W_seq ?_
        refine W_cond_dec rfl (fun h2 => ?_) (fun h2 => ?_); refine W_skip ?_; refine W_seq ?_; refine W_block ?_; refine W_seq ?_; refine W_region rfl ?_
        refine Wo_get Tryd.underlying80 Tryd.sizeOf3 Tryd.isAgg3 rfl (fun _ => rfl) rfl (Owned.read hO1) E4 rfl (by first | omega | (simp <;> omega)) ?_; rintro _ _ rfl; refine Wo rfl (opv_assign (v := .int _ _) rfl) ?_; refine Wo_nil ?_
        refine W_region rfl ?_; refine Wo rfl (opv_move (v := .string _) rfl) ?_; refine Wo rfl (opv_move (v := .int _ _) rfl) ?_; refine Wo_call rfl (opc1 (a := .int _ _) Tryd.call72 rfl) (k3 _) ?_; rintro _ w5 ⟨rfl, E5⟩
        have hs3 := E5.size; refine Wo rfl (opv_add_str rfl rfl (by simp <;> omega)) ?_; refine Wo rfl (opv_assign (v := .string _) rfl) ?_; refine Wo_nil ?_; refine W_region rfl ?_; refine Wo rfl (opv_add rfl rfl (by omega)) ?_
        refine Wo rfl (opv_move (v := .int _ _) rfl) ?_; refine Wo_nil ?_; rotate_left; (exfalso; omega)
      refine ⟨((m + 1, t ++ [dig (arr p k)[m]])), by repeat (first | exact trivial | refine And.intro rfl ?_), by repeat (first | with_reducible exact Same.refl | refine Same.upd rfl ?_ | refine Same.upds rfl ?_ | refine Same.mix rfl ?_), ?_, ?_⟩
      · refine ⟨by exact E4.trans (by assumption), by omega, ?_⟩
        rw [List.take_succ_eq_append_getElem hml, ht, List.map_append]; rfl
      · simp only; omega
    · obtain rfl : m = (arr p k).length := by omega
      have ht2 : t = txR p[k] := by
        rw [ht, List.take_length, txR, arr, getD_lt hlt]
      clear ht
      subst ht2
      focus
        have szE4 := E4.size; have szE3 := E3.size; have szE2 := E2.size; have szE1 := E1.size; refine W_seq ?_; refine W_region rfl ?_; refine Wo rfl (opv_lss rfl rfl) ?_; refine Wo_nil ?_; refine W_seq ?_
        refine W_cond_dec rfl (fun h2 => ?_) (fun h2 => ?_); (exfalso; omega); refine W_exit ?_; refine exitX_same ?_; refine W_region rfl ?_; refine Wo rfl (opv_move (v := u) rfl) ?_; refine Wo rfl (opv_move (v := .string _) rfl) ?_
        refine Wo_buildSlice (ps := [(0, .string _)]) (cs := [_]) rfl Tryd.underlying65 Tryd.sizeOf9 Tryd.zeroValue9 rfl rfl rfl rfl ?_; rintro b2 w5 hb2 E5 hB1; have hlb2 := hB1.lt; have hs3 := E5.size
        refine Wo_app1 rfl el65 rfl rfl hB1 (hO2.toB.ext ((E3.trans E4).trans E5)) (Owned.str (by first | omega | (simp <;> omega))) (Nat.le_refl _) (by first | omega | (simp <;> omega)) (by omega) (by omega) (((E2.trans E3).trans E4).trans E5) (by omega) ?_
        have hT1 := (hO2.toB.ext ((E3.trans E4).trans E5)); rintro v1 w6 hO2 E6 M1; have hO1 := (hO1.toB.ext (E4.trans E5)).moves M1 hT1 (by omega); have hB1 := hB1.moves M1 hT1 (by omega); have hs4 := E6.size
        refine Wo rfl (opv_assign (v := v1) rfl) ?_; refine Wo_nil ?_; refine W_region rfl ?_; refine Wo rfl (opv_add rfl rfl (by omega)) ?_; refine Wo rfl (opv_move (v := .int _ _) rfl) ?_; refine Wo_nil ?_
      refine ⟨((k + 1, v1)), by repeat (first | exact trivial | refine And.intro rfl ?_), by repeat (first | with_reducible exact Same.refl | refine Same.upd rfl ?_ | refine Same.upds rfl ?_ | refine Same.mix rfl ?_), ?_, ?_⟩
      · refine ⟨by assumption, by omega, ?_⟩
        rw [List.take_succ_eq_append_getElem hlt, List.map_append]; assumption
      · simp only; omega
  · obtain rfl : k = p.length := by omega
    rw [List.take_length] at hO2
    have k4 : ∀ (w1 : World) (v : Value) (lo : Nat), Owned lo XS w1 v (p.map txR) → Does Tryd.prog 108 [v, str [47]] w1 (Ret w1 (str (txt p))) := fun w1 v lo h =>
      Join_ok w1 v _ h (by have := txt_len hp.gr; unfold txt at this; omega) (by simp; omega)
    have k5 := fun w1 v => k4 w1 v w.heap.size
    focus
      have szE2 := E2.size; have szE1 := E1.size; refine W_seq ?_; refine W_region rfl ?_; refine Wo rfl (opv_lss rfl rfl) ?_; refine Wo_nil ?_; refine W_seq ?_; refine W_cond_dec rfl (fun h1 => ?_) (fun h1 => ?_); (exfalso; omega)
      refine W_exit ?_; refine exitX_same ?_; refine W_seq ?_; refine W_region rfl ?_; refine Wo rfl (opv_move (v := u) rfl) ?_; refine Wo_call rfl (opc2 (a := u) (b := .string _) Tryd.call108 rfl rfl) (k5 _ _ (hO2)) ?_
      rintro _ w3 ⟨rfl, E3⟩; have hs2 := E3.size; refine Wo rfl (opv_assign (v := .string _) rfl) ?_; refine Wo_nil ?_; refine W_ret ?_; exact ⟨rfl, (E2.trans E3)⟩

def rdS (ps : List (List UInt8)) (k : Nat) (l : List UInt8) : List (List Int) := (List.range ps.length).map fun i => rowB ps.length (if i < k then ps.getD i [] else if i = k then l else [])
theorem rdS_len {ps : List (List UInt8)} {k : Nat} {l : List UInt8} : (rdS ps k l).length = ps.length := by simp [rdS]
theorem rdS_row {ps : List (List UInt8)} {k : Nat} {l : List UInt8} {i : Nat} (h : i < (rdS ps k l).length) : (rdS ps k l)[i].length = ps.length := by simp [rdS, rowB_len]
theorem rdS_zero {ps : List (List UInt8)} : rdS ps 0 [] = List.replicate ps.length (List.replicate ps.length 0) := by
  have : ∀ i, (if i < 0 then ps.getD i [] else if i = 0 then ([] : List UInt8) else []) = [] := fun i => by simp
  simp only [rdS, this, rowB_nil]
  apply List.ext_getElem <;> simp
theorem rdS_set {ps : List (List UInt8)} {k a : Nat} {l : List UInt8} {c : UInt8} (hk : k < ps.length) (hc : c.toNat = 48 + a) (ha : a < ps.length) :
    (rdS ps k l).set k (((rdS ps k l)[k]'(by rw [rdS_len]; exact hk)).set a 1) = rdS ps k (l ++ [c]) := by
  apply List.ext_getElem
  · simp [rdS_len]
  · intro i h1 h2
    rw [rdS_len] at h2
    rw [List.getElem_set]
    by_cases e : k = i
    · subst e
      rw [if_pos rfl]
      simp only [rdS, List.getElem_map, List.getElem_range, Nat.lt_irrefl, if_false, if_true]
      exact rowB_set hc ha
    · rw [if_neg e]
      simp only [rdS, List.getElem_map, List.getElem_range, if_neg (fun h => e (Eq.symm h))]
theorem rdS_next {ps : List (List UInt8)} {k : Nat} (hk : k < ps.length) : rdS ps k ps[k] = rdS ps (k + 1) [] := by
  unfold rdS
  refine List.map_congr_left fun i hi => ?_
  have : (if i < k then ps.getD i [] else if i = k then ps[k] else []) = (if i < k + 1 then ps.getD i [] else if i = k + 1 then [] else []) := by
    by_cases h1 : i < k
    · rw [if_pos h1, if_pos (by omega)]
    · rw [if_neg h1]
      by_cases h2 : i = k
      · subst h2; rw [if_pos rfl, if_pos (by omega), getD_lt hk]
      · rw [if_neg h2, if_neg (by omega)]; split <;> rfl
  rw [this]
theorem rdS_all {s : List UInt8} : rdS (cutB 47 s) (cutB 47 s).length [] = rdM s := by
  apply List.ext_getElem
  · rw [rdS_len, rdM_len]
  · intro i h1 h2
    rw [rdM_len] at h2
    simp only [rdS, rdM, List.getElem_map, List.getElem_range, if_pos h2, getD_lt h2]
theorem readPicture_ok (w : World) (s : List UInt8) (hM : EMx gMx w (.bool true) ()) (hs : s.length ≤ 1048576) : Does Tryd.prog 73 [str s] w (RetOB w XR ((rdP s).getD []) (rdP s).isSome) := by
  obtain ⟨ps, hps⟩ : ∃ ps, ps = cutB 47 s := ⟨_, rfl⟩
  have k1 : Does Tryd.prog 92 [str s, str [47]] w (RetO w XS ps) := hps ▸ Split_ok w s hM hs
  have hpl : ps.length ≤ 1048577 := by rw [hps, cutB_len]; have := List.count_le_length (a := (47 : UInt8)) (l := s); omega
  have hp1 : 1 ≤ ps.length := by rw [hps, cutB_len]; omega
  have hpe : ∀ (k : Nat) (hk : k < ps.length), ps[k].length ≤ 1048576 := fun k hk => by
    have : ps[k] ∈ cutB 47 s := hps ▸ List.getElem_mem hk
    have := cutB_mem_len s.length s (Nat.le_refl _) _ this; omega
  refine fn_of_W2 Tryd.func73 rfl Tryd.results73 Tryd.ntmps73 rfl ?_
  by_cases h5 : 5 < ps.length
  · rw [rd_no4 (by rw [← hps]; exact h5)]
    focus
      refine W_seq ?_; refine W_region rfl ?_; refine Wo rfl (opv_assign (v := .slice _ _ _) rfl) ?_; refine Wo rfl (opv_assign (v := .bool _) rfl) ?_; refine Wo_nil ?_; refine W_seq ?_; refine W_region rfl ?_
      refine Wo rfl (opv_move (v := .string _) rfl) ?_; refine Wo_call rfl (opc2 (a := .string _) (b := .string _) Tryd.call92 rfl rfl) (k1) ?_; rintro u1 w1 ⟨E1, hO1⟩; have hs1 := E1.size; refine Wo rfl (opv_assign (v := u1) rfl) ?_
      refine Wo_nil ?_; refine W_seq ?_; refine W_seq ?_; refine W_region rfl ?_; refine Wo rfl (opv_move (v := u1) rfl) ?_; refine Wo rfl (opv_len Tryd.underlying65 rfl (Owned.read hO1)) ?_; refine Wo rfl (opv_gtr rfl rfl) ?_
      refine Wo_nil ?_; refine W_cond_dec rfl (fun h1 => ?_) (fun h1 => ?_); refine W_seq ?_; refine W_region rfl ?_; refine Wo rfl (opv_assign (v := .slice _ _ _) rfl) ?_; refine Wo rfl (opv_assign (v := .bool _) rfl) ?_
      refine Wo_nil ?_; refine W_ret ?_; refine at_ret (v := .tuple #[.slice _ _ _, .bool _]) rfl ?_; exact ⟨_, rfl, E1, Owned.nil⟩; (exfalso; omega)
  · have k2 : ∀ w, Does Tryd.prog 93 [.int .i64 (ps.length : Int)] w (RetO w XR (rdS ps 0 [])) := fun w => by
      rw [rdS_zero]; exact emptyPicture_ok w _ (by omega)
    focus
      refine W_seq ?_; refine W_region rfl ?_; refine Wo rfl (opv_assign (v := .slice _ _ _) rfl) ?_; refine Wo rfl (opv_assign (v := .bool _) rfl) ?_; refine Wo_nil ?_; refine W_seq ?_; refine W_region rfl ?_
      refine Wo rfl (opv_move (v := .string _) rfl) ?_; refine Wo_call rfl (opc2 (a := .string _) (b := .string _) Tryd.call92 rfl rfl) (k1) ?_; rintro u1 w1 ⟨E1, hO1⟩; have hs1 := E1.size; refine Wo rfl (opv_assign (v := u1) rfl) ?_
      refine Wo_nil ?_; refine W_seq ?_; refine W_seq ?_; refine W_region rfl ?_; refine Wo rfl (opv_move (v := u1) rfl) ?_; refine Wo rfl (opv_len Tryd.underlying65 rfl (Owned.read hO1)) ?_; refine Wo rfl (opv_gtr rfl rfl) ?_
      refine Wo_nil ?_; refine W_cond_dec rfl (fun h1 => ?_) (fun h1 => ?_); (exfalso; omega); refine W_skip ?_; refine W_seq ?_; refine W_region rfl ?_; refine Wo rfl (opv_move (v := u1) rfl) ?_
      refine Wo rfl (opv_len Tryd.underlying65 rfl (Owned.read hO1)) ?_; refine Wo_call rfl (opc1 (a := .int _ _) Tryd.call93 rfl) (k2 _) ?_; rintro u2 w2 ⟨E2, hO2⟩; have hs2 := E2.size; refine Wo rfl (opv_assign (v := u2) rfl) ?_
      refine Wo_nil ?_; refine W_seq ?_; refine W_seq ?_; refine W_region rfl ?_; refine Wo rfl (opv_move (v := u1) rfl) ?_; refine Wo rfl (opv_len Tryd.underlying65 rfl (Owned.read hO1)) ?_
      refine Wo rfl (opv_move (v := .int _ _) rfl) ?_; refine Wo_nil ?_; refine W_block ?_
    have hz0 : (rdS ps 0 []).length = ps.length := rdS_len
    obtain ⟨ub, uc, rfl, _⟩ := hO2.lit (by omega)
    rw [hz0] at hO2 ⊢
    refine W_loop [2, 3, 6, 7, 8, 9, 20, 21, 22, 23, 24, 25, 26, 27, 28, 29, 30, 31, 32, 33, 34, 35, 36, 37, 38, 39, 40, 41, 42, 43, 44, 45, 46, 47, 48, 49, 50] (fun (k : Nat) => [(20, .int .i64 (k : Nat))]) (fun k w' => Ext w1 w' ∧ k ≤ ps.length ∧ Owned w1.heap.size XR w' (.slice (some ⟨ub, 0, none⟩) ps.length uc) (rdS ps k [])) (fun k => ps.length - k) 0 (by repeat (first | exact trivial | refine And.intro rfl ?_)) ?_ ?_
    · exact ⟨by assumption, Nat.zero_le _, hO2⟩
    clear hO2
    rintro k ρj w3 ⟨E3, hk, hO3⟩
    by_cases hkl : k < ps.length
    · have hpk := hpe k hkl
      focus
        have szE3 := E3.size; have szE2 := E2.size; have szE1 := E1.size; refine W_seq ?_; refine W_region rfl ?_; refine Wo rfl (opv_lss rfl rfl) ?_; refine Wo_nil ?_; refine W_seq ?_; refine W_cond_dec rfl (fun h2 => ?_) (fun h2 => ?_)
        refine W_skip ?_; refine W_seq ?_; refine W_block ?_; refine W_seq ?_; refine W_region rfl ?_; refine Wo rfl (opv_move (v := .int _ _) rfl) ?_
        refine Wo_get Tryd.underlying65 Tryd.sizeOf9 Tryd.isAgg9 rfl (fun _ => rfl) rfl (Owned.read hO1) E3 rfl (by first | omega | (simp <;> omega)) ?_; rintro _ _ ⟨rfl, -⟩; refine Wo rfl (opv_assign (v := .int _ _) rfl) ?_
        refine Wo rfl (opv_assign (v := .string _) rfl) ?_; refine Wo_nil ?_; refine W_seq ?_; refine W_region rfl ?_; refine Wo rfl (opv_move (v := .string _) rfl) ?_; refine Wo rfl (opv_len_str Tryd.underlying9 rfl) ?_
        refine Wo rfl (opv_move (v := .int _ _) rfl) ?_; refine Wo_nil ?_; refine W_block ?_; rotate_left; (exfalso; omega)
      refine W_loop [2, 3, 8, 9, 27, 28, 29, 30, 31, 32, 33, 34, 35, 36, 37, 38, 39, 40, 41, 42, 43, 44, 45, 46, 47, 48, 49] (fun (j : Nat) => [(27, .int .i64 (j : Nat))]) (fun j w' => Ext w1 w' ∧ j ≤ ps[k].length ∧ Owned w1.heap.size XR w' (.slice (some ⟨ub, 0, none⟩) ps.length uc) (rdS ps k (ps[k].take j))) (fun j => ps[k].length - j) 0 (by repeat (first | exact trivial | refine And.intro rfl ?_)) ?_ ?_
      · exact ⟨E3, Nat.zero_le _, hO3⟩
      clear hO3
      rintro j ρk w5 ⟨E5, hj, hO5⟩
      by_cases hjl : j < ps[k].length
      · have hc8 : (ps[k].getD j 0).toNat < 256 := UInt8.toNat_lt _
        have hcd : ps[k].getD j 0 = ps[k][j] := getD_lt hjl
        have hts : ps[k].take (j + 1) = ps[k].take j ++ [ps[k].getD j 0] := by rw [hcd]; exact List.take_succ_eq_append_getElem hjl
        have hmem : ps[k] ∈ cutB 47 s := hps ▸ List.getElem_mem hkl
        have hnl : (ps.length : Int) = (cutB 47 s).length := by rw [hps]
        have hml : (rdS ps k (ps[k].take j)).length = ps.length := rdS_len
        have hmr : (rdS ps k (ps[k].take j))[k].length = ps.length := rdS_row (by omega)
        by_cases hr : 48 ≤ (ps[k].getD j 0).toNat ∧ (ps[k].getD j 0).toNat < 48 + ps.length
        · obtain ⟨br, cr, hR, _, _⟩ := hO5.rowAt (i := k) (by omega) (by omega)
          have hb2 := hO5.lt_own (k := ub) rfl
          focus
            have szE5 := E5.size; have szE3 := E3.size; have szE2 := E2.size; have szE1 := E1.size; refine W_seq ?_; refine W_region rfl ?_; refine Wo rfl (opv_lss rfl rfl) ?_; refine Wo_nil ?_; refine W_seq ?_
            refine W_cond_dec rfl (fun h3 => ?_) (fun h3 => ?_); refine W_skip ?_; refine W_seq ?_; refine W_block ?_; refine W_seq ?_; refine W_region rfl ?_; refine Wo rfl (opv_move (v := .int _ _) rfl) ?_
            refine Wo rfl (opv_assign (v := .int _ _) rfl) ?_; refine Wo_nil ?_; refine W_seq ?_; refine W_region rfl ?_; refine Wo rfl (opv_move (v := .string _) rfl) ?_; refine Wo rfl (opv_move (v := .int _ _) rfl) ?_
            refine Wo rfl (opv_index_str Tryd.underlying9 rfl rfl (by omega)) ?_; refine Wo rfl (opv_conv_int Tryd.underlying5 Tryd.underlying3 rfl (by omega)) ?_; refine Wo rfl (opv_sub rfl rfl (by omega)) ?_
            refine Wo rfl (opv_assign (v := .int _ _) rfl) ?_; refine Wo_nil ?_; refine W_seq ?_; refine W_seq ?_; refine W_region rfl ?_; refine Wo rfl (opv_move (v := .int _ _) rfl) ?_; refine Wo rfl (opv_lss rfl rfl) ?_
            refine Wo_split_dec rfl (opv_move (v := .bool _) rfl) (fun h4 => ?_) (fun h4 => ?_); (exfalso; omega); refine Wo rfl (opv_move (v := .int _ _) rfl) ?_; refine Wo rfl (opv_move (v := u1) rfl) ?_
            refine Wo rfl (opv_len Tryd.underlying65 rfl (Owned.read hO1)) ?_; refine Wo rfl (opv_geq rfl rfl) ?_; refine Wo rfl (opv_pick_f (v := .bool _) rfl rfl) ?_; refine Wo_nil ?_; refine W_cond_dec rfl (fun h6 => ?_) (fun h6 => ?_)
            (exfalso; omega); refine W_skip ?_; refine W_region rfl ?_; refine Wo rfl (opv_move (v := .slice _ _ _) rfl) ?_; refine Wo rfl (opv_move (v := .int _ _) rfl) ?_
            refine Wo_rowAt Tryd.underlying49 Tryd.sizeOf80 Tryd.isAgg80 rfl (fun _ => rfl) rfl ⟨_, _, rfl⟩ rfl hR (by first | omega | (simp <;> omega)) ?_; rintro _; refine Wo rfl (opv_move (v := .int _ _) rfl) ?_
            refine Wo rfl (opv_indexAddr_z Tryd.underlying80 Tryd.sizeOf3 rfl rfl (by omega)) ?_; refine Wo_gset rfl Tryd.sizeOf3 rfl rfl hO5.toB hR (by first | omega | (simp <;> omega)) (by first | omega | (simp <;> omega)) ?_
            rintro w4 hO5 hR On1 K1 hz1; have E4 := On1.ext1 (E1.trans E5) (by omega); have E6 := On1.ext1 E5 (by omega); have szE6 := E6.size; have hO1 := (hO1.toB.ext E5).wrote K1 (by omega); have hs3 := On1.size; refine Wo_nil ?_
            refine W_region rfl ?_; refine Wo rfl (opv_add rfl rfl (by omega)) ?_; refine Wo rfl (opv_move (v := .int _ _) rfl) ?_; refine Wo_nil ?_; rotate_left; (exfalso; omega)
          all_goals refine ⟨j + 1, ⟨rfl, trivial⟩, by repeat (first | with_reducible exact Same.refl | refine Same.upd rfl ?_ | refine Same.upds rfl ?_ | refine Same.mix rfl ?_), ⟨by assumption, by omega, (congrArg (Owned _ _ _ _) ?_).mp hO5⟩, by omega⟩
          all_goals (rw [hts]; exact rdS_set (by omega) (by omega) (by omega))
        · rw [rd_no1 hmem (List.getElem_mem hjl) (fun h => hr (by rw [hcd]; omega))]
          focus
            have szE5 := E5.size; have szE3 := E3.size; have szE2 := E2.size; have szE1 := E1.size; refine W_seq ?_; refine W_region rfl ?_; refine Wo rfl (opv_lss rfl rfl) ?_; refine Wo_nil ?_; refine W_seq ?_
            refine W_cond_dec rfl (fun h3 => ?_) (fun h3 => ?_); refine W_skip ?_; refine W_seq ?_; refine W_block ?_; refine W_seq ?_; refine W_region rfl ?_; refine Wo rfl (opv_move (v := .int _ _) rfl) ?_
            refine Wo rfl (opv_assign (v := .int _ _) rfl) ?_; refine Wo_nil ?_; refine W_seq ?_; refine W_region rfl ?_; refine Wo rfl (opv_move (v := .string _) rfl) ?_; refine Wo rfl (opv_move (v := .int _ _) rfl) ?_
            refine Wo rfl (opv_index_str Tryd.underlying9 rfl rfl (by omega)) ?_; refine Wo rfl (opv_conv_int Tryd.underlying5 Tryd.underlying3 rfl (by omega)) ?_; refine Wo rfl (opv_sub rfl rfl (by omega)) ?_
            refine Wo rfl (opv_assign (v := .int _ _) rfl) ?_; refine Wo_nil ?_; refine W_seq ?_; refine W_seq ?_; refine W_region rfl ?_; refine Wo rfl (opv_move (v := .int _ _) rfl) ?_; refine Wo rfl (opv_lss rfl rfl) ?_
            refine Wo_split_dec rfl (opv_move (v := .bool _) rfl) (fun h4 => ?_) (fun h4 => ?_); refine Wo_skip rfl ?_; refine Wo_skip rfl ?_; refine Wo_skip rfl ?_; refine Wo_skip rfl ?_; refine Wo rfl (opv_pick_t (v := .bool _) rfl rfl) ?_
            refine Wo_nil ?_; refine W_cond_true rfl ?_; refine W_seq ?_; refine W_region rfl ?_; refine Wo rfl (opv_assign (v := .slice _ _ _) rfl) ?_; refine Wo rfl (opv_assign (v := .bool _) rfl) ?_; refine Wo_nil ?_; refine W_ret ?_
            refine at_ret (v := .tuple #[.slice _ _ _, .bool _]) rfl ?_; exact ⟨_, rfl, (E1.trans E5), Owned.nil⟩; refine Wo rfl (opv_move (v := .int _ _) rfl) ?_; refine Wo rfl (opv_move (v := u1) rfl) ?_
            refine Wo rfl (opv_len Tryd.underlying65 rfl (Owned.read hO1)) ?_; refine Wo rfl (opv_geq rfl rfl) ?_; refine Wo rfl (opv_pick_f (v := .bool _) rfl rfl) ?_; refine Wo_nil ?_; refine W_cond_dec rfl (fun h6 => ?_) (fun h6 => ?_)
            refine W_seq ?_; refine W_region rfl ?_; refine Wo rfl (opv_assign (v := .slice _ _ _) rfl) ?_; refine Wo rfl (opv_assign (v := .bool _) rfl) ?_; refine Wo_nil ?_; refine W_ret ?_
            refine at_ret (v := .tuple #[.slice _ _ _, .bool _]) rfl ?_; exact ⟨_, rfl, (E1.trans E5), Owned.nil⟩; (exfalso; omega); (exfalso; omega)
          all_goals omega
      · obtain rfl : j = ps[k].length := by omega
        rw [List.take_length, rdS_next hkl] at hO5
        focus
          have szE5 := E5.size; have szE3 := E3.size; have szE2 := E2.size; have szE1 := E1.size; refine W_seq ?_; refine W_region rfl ?_; refine Wo rfl (opv_lss rfl rfl) ?_; refine Wo_nil ?_; refine W_seq ?_
          refine W_cond_dec rfl (fun h3 => ?_) (fun h3 => ?_); (exfalso; omega); refine W_exit ?_; refine exitX_same ?_; refine W_region rfl ?_; refine Wo rfl (opv_add rfl rfl (by omega)) ?_; refine Wo rfl (opv_move (v := .int _ _) rfl) ?_
          refine Wo_nil ?_
        refine ⟨(k + 1), by repeat (first | exact trivial | refine And.intro rfl ?_), by repeat (first | with_reducible exact Same.refl | refine Same.upd rfl ?_ | refine Same.upds rfl ?_ | refine Same.mix rfl ?_), ?_, ?_⟩
        · exact ⟨by assumption, by omega, hO5⟩
        · omega
    · obtain rfl : k = ps.length := by omega
      have eM : rdS ps ps.length [] = rdM s := by rw [hps]; exact rdS_all
      rw [eM] at hO3
      have hP : Pic (rdM s) := rdM_pic (by rw [← hps]; omega)
      have hml : (rdM s).length = ps.length := by rw [hps]; exact rdM_len
      clear k1 k2
      have k3 : ∀ w v, ESl Ints w v (rdM s) → Does Tryd.prog 88 [v] w (Ret w (str (txt (rdM s)))) := fun w v h => pictureText_ok w v _ h hP
      by_cases hT : txt (rdM s) = s
      · rw [rd_yes hP hT]
        rw [hT] at k3
        focus
          have szE3 := E3.size; have szE2 := E2.size; have szE1 := E1.size; refine W_seq ?_; refine W_region rfl ?_; refine Wo rfl (opv_lss rfl rfl) ?_; refine Wo_nil ?_; refine W_seq ?_; refine W_cond_dec rfl (fun h2 => ?_) (fun h2 => ?_)
          (exfalso; omega); refine W_exit ?_; refine exitX_same ?_; refine W_seq ?_; refine W_seq ?_; refine W_region rfl ?_; refine Wo rfl (opv_move (v := .slice _ _ _) rfl) ?_
          refine Wo_call rfl (opc1 (a := .slice _ _ _) Tryd.call88 rfl) (k3 _ _ ((Owned.read hO3))) ?_; rintro _ w4 ⟨rfl, E4⟩; have hs3 := E4.size; refine Wo rfl (opv_move (v := .string _) rfl) ?_; refine Wo rfl (opv_neq_str rfl rfl) ?_
          refine Wo_nil ?_; refine W_cond_ndec rfl (fun h3 => ?_) (fun h3 => ?_); contradiction; refine W_skip ?_; refine W_seq ?_; refine W_region rfl ?_; refine Wo rfl (opv_move (v := .slice _ _ _) rfl) ?_
          refine Wo rfl (opv_assign (v := .slice _ _ _) rfl) ?_; refine Wo rfl (opv_assign (v := .bool _) rfl) ?_; refine Wo_nil ?_; refine W_ret ?_; refine at_ret (v := .tuple #[.slice _ _ _, .bool _]) rfl ?_
          exact ⟨_, rfl, ((E1.trans E3).trans E4), (hO3.toB.ext E4).o.mono (by omega)⟩
      · rw [rd_no3 hT]
        focus
          have szE3 := E3.size; have szE2 := E2.size; have szE1 := E1.size; refine W_seq ?_; refine W_region rfl ?_; refine Wo rfl (opv_lss rfl rfl) ?_; refine Wo_nil ?_; refine W_seq ?_; refine W_cond_dec rfl (fun h2 => ?_) (fun h2 => ?_)
          (exfalso; omega); refine W_exit ?_; refine exitX_same ?_; refine W_seq ?_; refine W_seq ?_; refine W_region rfl ?_; refine Wo rfl (opv_move (v := .slice _ _ _) rfl) ?_
          refine Wo_call rfl (opc1 (a := .slice _ _ _) Tryd.call88 rfl) (k3 _ _ ((Owned.read hO3))) ?_; rintro _ w4 ⟨rfl, E4⟩; have hs3 := E4.size; refine Wo rfl (opv_move (v := .string _) rfl) ?_; refine Wo rfl (opv_neq_str rfl rfl) ?_
          refine Wo_nil ?_; refine W_cond_ndec rfl (fun h3 => ?_) (fun h3 => ?_); refine W_seq ?_; refine W_region rfl ?_; refine Wo rfl (opv_assign (v := .slice _ _ _) rfl) ?_; refine Wo rfl (opv_assign (v := .bool _) rfl) ?_
          refine Wo_nil ?_; refine W_ret ?_; refine at_ret (v := .tuple #[.slice _ _ _, .bool _]) rfl ?_; exact ⟨_, rfl, ((E1.trans E3).trans E4), Owned.nil⟩; contradiction

end Go.Proofs.YtgphoihilheoeaaDoor
set_option linter.unusedVariables false
namespace Go.Hs
section
variable {P : Program} {w : World}
end
/-- Only these blocks have turned. -/
def Fr (fp : List Nat) (w w' : World) : Prop := w.heap.size ≤ w'.heap.size ∧ ∀ k, k ∉ fp → k < w.heap.size → w'.heap[k]? = w.heap[k]?
/-- It reads as x, whatever these blocks hold. -/
def Sp {α : Type} (fp : List Nat) (E : World → Value → α → Prop) (w : World) (v : Value) (x : α) : Prop := ∀ w1, Fr fp w w1 → E w1 v x
section
variable {α : Type} {E : World → Value → α → Prop} {fp fq : List Nat} {w w' w'' : World} {v : Value} {x : α}
theorem Fr.refl : Fr fp w w := ⟨Nat.le_refl _, fun _ _ _ => rfl⟩
theorem Fr.trans (h : Fr fp w w') (k : Fr fq w' w'') : Fr (fp ++ fq) w w'' := ⟨Nat.le_trans h.1 k.1, fun i h1 h2 => by
  rw [List.mem_append, not_or] at h1
  exact (k.2 i h1.2 (Nat.lt_of_lt_of_le h2 h.1)).trans (h.2 i h1.1 h2)⟩
theorem Fr.mono (h : Fr fp w w') (hs : ∀ k ∈ fp, k < w.heap.size → k ∈ fq) : Fr fq w w' := ⟨h.1, fun k h1 h2 => h.2 k (fun hk => h1 (hs k hk h2)) h2⟩
theorem Fr.wrote {b : Nat} (K : ∀ k, k ≠ b → w'.heap[k]? = w.heap[k]?) (hz : w'.heap.size = w.heap.size) : Fr [b] w w' := ⟨by omega, fun k h1 _ => K k (fun e => h1 (by simp [e]))⟩
theorem Fr.moves {u u' : Value} (m : Moves w u w' u') : Fr u.ownBlock.toList w w' := ⟨m.1.size, fun k h1 h2 => m.1.block k h2 (fun e => h1 (by rw [← e]; simp))⟩
theorem Sp.here (h : Sp fp E w v x) : E w v x := h w Fr.refl
theorem Above.sp {lo : Nat} (h : Above lo E w v x) (hf : ∀ k ∈ fp, k < lo) : Sp fp E w v x := fun w1 k => h w1 (fun i h1 h2 => k.2 i (fun hm => by have := hf i hm; omega) h2) k.1
/-- Own data off these blocks. -/
def OwS {β : Type} (lo : Nat) (fp : List Nat) (X : World → List Nat → Value → β → Prop) (w : World) (v : Value) (x : β) : Prop := ∃ f, f.Nodup ∧ (∀ k ∈ f, lo ≤ k ∧ k ∉ fp) ∧ X w f v x
theorem OwS.read {β : Type} {lo : Nat} {X : World → List Nat → Value → β → Prop} {y : β} {F : World → Value → β → Prop} [Loc X] [Shows X F] (h : OwS lo fp X w v y) : F w v y := by
  obtain ⟨f, _, _, h⟩ := h
  exact Shows.shows h
theorem OwS.o {β : Type} {lo : Nat} {X : World → List Nat → Value → β → Prop} {y : β} (h : OwS lo fp X w v y) : Owned lo X w v y := by
  obtain ⟨f, h1, h2, h3⟩ := h
  exact ⟨f, h1, fun k hk => (h2 k hk).1, h3⟩
theorem OwnedB.back {β : Type} {lo hi : Nat} {X : World → List Nat → Value → β → Prop} {y : β} [Loc X] (h : OwnedB lo hi X w' v y) (e : Ext w w') (hh : hi ≤ w.heap.size) : OwnedB lo hi X w v y := by
  obtain ⟨f, h1, h2, h3⟩ := h
  exact ⟨f, h1, h2, Loc.loc (fun k hk => (e.block k (by have := h2 k hk; omega)).symm) h3⟩
end
end Go.Hs
namespace Go.Proofs.YtgphoihilheoeaaDoor
open Go.Hs
set_option maxRecDepth 10000
set_option maxHeartbeats 4000000
set_option linter.unusedVariables false
set_option linter.unusedSimpArgs false

/-- the closure -/
abbrev plcV (b8 b6 b7 b9 : Nat) : Value := .func (.func 86) #[] #[.pointer (some ⟨b8, 0, none⟩), .pointer (some ⟨b6, 0, none⟩), .pointer (some ⟨b7, 0, none⟩), .pointer (some ⟨b9, 0, none⟩)]
structure Plc (lo : Nat) (wb w : World) (b8 b6 b7 b9 : Nat) (jv bv ov : Value) (best : List (List Int)) (o : List Nat) : Prop where
  ext : Ext wb w
  cj : Blk w b6 [jv]
  cf : Blk w b9 [plcV b8 b6 b7 b9]
  cb : Blk w b7 [bv]
  co : Blk w b8 [ov]
  ow : Owned wb.heap.size XI w ov (ints o)
  ne : ∀ k, ov.ownBlock = some k → k ≠ b6 ∧ k ≠ b7 ∧ k ≠ b8 ∧ k ≠ b9
  sp : OwS lo (b7 :: b8 :: ov.ownBlock.toList) XR w bv best
  pic : Pic best
end Go.Proofs.YtgphoihilheoeaaDoor
namespace Go.Proofs.YtgphoihilheoeaaDoor
open Go.Hs
set_option maxRecDepth 10000
set_option maxHeartbeats 4000000
set_option linter.unusedVariables false
set_option linter.unusedSimpArgs false

end Go.Proofs.YtgphoihilheoeaaDoor
namespace Go.Proofs.YtgphoihilheoeaaDoor
open Go.Hs
set_option maxRecDepth 10000
set_option maxHeartbeats 4000000
set_option linter.unusedVariables false
set_option linter.unusedSimpArgs false

end Go.Proofs.YtgphoihilheoeaaDoor
set_option linter.unusedVariables false
namespace Go.Hs
section
variable {β : Type} {P : Program} {n d : Nat} {N : Env → World → Prop} {ρ : Env} {w : World} {all : Array Oper} {rest : List Oper} {t e ty : TypeId} {pos : String} {after : Array Edge} {g : Option (Nat × Bool)} {x : Operand} {k : IntKind}
end
end Go.Hs
namespace Go.Proofs.YtgphoihilheoeaaDoor
open Go.Hs
set_option maxRecDepth 10000
set_option maxHeartbeats 4000000
set_option linter.unusedVariables false
set_option linter.unusedSimpArgs false

end Go.Proofs.YtgphoihilheoeaaDoor
namespace Go.Proofs.YtgphoihilheoeaaDoor
open Go.Hs
set_option maxRecDepth 10000
set_option maxHeartbeats 4000000
set_option linter.unusedVariables false
set_option linter.unusedSimpArgs false

theorem flat53 : Flat Tryd.prog 53 [.slice none 0 0, .slice none 0 0] := ⟨_, Tryd.underlying53, fun _ => by kernel_rfl, fun _ => by kernel_rfl⟩
theorem spec_DeskNew_ok (w : World) (v : Value) (p : List (List Int)) (h : ESl Ints w v p) (z : Int) : Does Tryd.prog 33 [v, .int .i64 z] w (RetDkB w 49 80 3 (if Nod p z then lst p z.toNat else []) [] (decide (Nod p z))) := by
  refine fn_of_Wct Tryd.func33 rfl Tryd.results33 Tryd.ntmps33 rfl Tryd.isAgg53 Tryd.sizeOf53 ?_
  by_cases hz : Nod p z
  · have k1 : ∀ (w : World) (v : Value), ESl Ints w v p → Does Tryd.prog 59 [v, .int .i64 z] w (Ret w (.bool true)) := fun w v h => by
      have := NodeOk_ok w v p h z
      rw [decide_eq_true hz] at this; exact this
    have k2 : ∀ (w : World) (v : Value), ESl Ints w v p → Does Tryd.prog 60 [v, .int .i64 z] w (RetO w XR (lst p z.toNat)) := fun w v h => by
      have := LeastOf_ok w v p h z
      rw [if_pos hz] at this; exact this
    rw [if_pos hz, decide_eq_true hz]
    have litown : True := trivial
    focus
      refine W_seq ?_; refine W_region rfl ?_; refine Wo_alloc2 rfl flat53 ?_; rintro b1 w1 hb1 E1 hB1; have hlb1 := hB1.lt; have hs1 := E1.size; refine Wo rfl (opv_assign (v := .bool _) rfl) ?_; refine Wo_nil ?_; refine W_seq ?_
      refine W_seq ?_; refine W_region rfl ?_; refine Wo rfl (opv_move (v := v) rfl) ?_; refine Wo rfl (opv_move (v := .int _ _) rfl) ?_
      refine Wo_call rfl (opc2 (a := v) (b := .int _ _) Tryd.call59 rfl rfl) (k1 _ _ ((Mono.mono E1 h))) ?_; rintro _ w2 ⟨rfl, E2⟩; have hs2 := E2.size; refine Wo rfl (opv_not rfl) ?_; refine Wo_nil ?_
      refine W_cond rfl (fun h1 => ?_) (fun h1 => ?_); contradiction; refine W_skip ?_; refine W_seq ?_; refine W_region rfl ?_; refine Wo rfl (opv_move (v := v) rfl) ?_; refine Wo rfl (opv_move (v := .int _ _) rfl) ?_
      refine Wo_call rfl (opc2 (a := v) (b := .int _ _) Tryd.call60 rfl rfl) (k2 _ _ ((Mono.mono (E1.trans E2) h))) ?_; rintro u1 w3 ⟨E3, hO1⟩; have ichO1 := OwnedB.isC (Owned.toB hO1); have hs3 := E3.size
      refine Wo rfl (opv_buildF0 flat53 rfl (OwnedB.isC hO1.toB)) ?_; refine Wo_st2 rfl Tryd.sizeOf53 rfl rfl (by first | rfl | assumption) (by first | rfl | assumption) (hB1.ext (E2.trans E3)) (by omega) ((E1.trans E2).trans E3) ?_
      rintro w4 E4 hB1 K1 hz1; simp only [List.set] at hB1; have hO1 := hO1.toB.wrote K1 (by omega); refine Wo rfl (opv_assign (v := .bool _) rfl) ?_; refine Wo_nil ?_; refine W_ret ?_
    exact ⟨b1, u1, _, rfl, hB1, u1, _, w3.heap.size, rfl, E4, hO1.wide (by omega) (Nat.le_refl _), Owned.nil, by omega, by omega⟩
  · have k1 : ∀ (w : World) (v : Value), ESl Ints w v p → Does Tryd.prog 59 [v, .int .i64 z] w (Ret w (.bool false)) := fun w v h => by
      have := NodeOk_ok w v p h z
      rw [decide_eq_false hz] at this; exact this
    rw [if_neg hz, decide_eq_false hz]
    focus
      refine W_seq ?_; refine W_region rfl ?_; refine Wo_alloc2 rfl flat53 ?_; rintro b1 w1 hb1 E1 hB1; have hlb1 := hB1.lt; have hs1 := E1.size; refine Wo rfl (opv_assign (v := .bool _) rfl) ?_; refine Wo_nil ?_; refine W_seq ?_
      refine W_seq ?_; refine W_region rfl ?_; refine Wo rfl (opv_move (v := v) rfl) ?_; refine Wo rfl (opv_move (v := .int _ _) rfl) ?_
      refine Wo_call rfl (opc2 (a := v) (b := .int _ _) Tryd.call59 rfl rfl) (k1 _ _ ((Mono.mono E1 h))) ?_; rintro _ w2 ⟨rfl, E2⟩; have hs2 := E2.size; refine Wo rfl (opv_not rfl) ?_; refine Wo_nil ?_
      refine W_cond rfl (fun h1 => ?_) (fun h1 => ?_); refine W_seq ?_; refine W_region rfl ?_; refine Wo rfl (opv_build (ps := []) (cs := [_, _]) flat53 rfl rfl) ?_
      refine Wo_st2 rfl Tryd.sizeOf53 rfl rfl (by first | rfl | assumption) (by first | rfl | assumption) (hB1.ext E2) (by omega) (E1.trans E2) ?_; rintro w3 E3 hB1 K1 hz1; refine Wo rfl (opv_assign (v := .bool _) rfl) ?_
      refine Wo_nil ?_; refine W_ret ?_; rotate_left; contradiction
    exact ⟨b1, _, _, rfl, hB1, _, _, w.heap.size, rfl, E3, OwnedB.nil, Owned.nil, Nat.le_refl _, E3.size⟩

end Go.Proofs.YtgphoihilheoeaaDoor
