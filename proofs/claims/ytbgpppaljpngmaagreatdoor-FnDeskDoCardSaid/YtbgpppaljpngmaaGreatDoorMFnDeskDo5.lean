/- Lemmas for FnDeskDo. -/
import Derived.Test.YtbgpppaljpngmaaGreatDoorMFnDeskDo4
import Derived.Laws.StructEq
import Derived.Tactics
import Derived.Tactics2
import Derived.Test.YtbgpppaljpngmaaGreatDoorProg
namespace Go.Proofs.YtbgpppaljpngmaaGreatDoor
open Go.Hs
set_option maxRecDepth 10000
set_option maxHeartbeats 4000000
set_option linter.unusedVariables false
set_option linter.unusedSimpArgs false
theorem l6Least_ok (w : World) (v : Value) (p : List (List Int)) (h : ESl Ints w v p) (hp : Gr p) :
    Does Tryz.prog 175 [v] w (RetOB w XR (if (lst p 0).length ≤ 5 then lst p 0 else []) (decide ((lst p 0).length ≤ 5))) := by
  have hp5 := hp.2.1
  have hp1 := hp.1
  have hkl := Qn (p := p)
  have k1 : ∀ w, Does Tryz.prog 202 [.int .i64 (p.length : Int)] w (RetO w XR (matV p (bsm p 0))) := fun w => by
    have := l3Start_ok w p.length hp5
    rwa [matV_zero] at this
  have k2 : ∀ (n : Nat) (w : World) (v v' : Value), ESl Ints w v p → ESl Ints w v' (matV p (bsm p n)) → Does Tryz.prog 203 [v, v'] w (RetO w XR (matV p (bsm p (n + 1)))) := fun n w v v' h h' => l3Round_ok w v v' p h hp _ h'
  refine Uc Tryz.func175 rfl Tryz.results175 Tryz.ntmps175 rfl ?_
  focus
    refine Gu<|Vp rfl<|Zh rfl<|Gn<|Gu<|Zb v rfl<|Zj Kp rfl h<|Gv rfl (Vq (a := .int _ _) Tryz.call202 rfl) (k1 _) ?_; rintro u1 w1 ⟨E1, hO1⟩; refine Vm u1 rfl<|Gn<|Gs<|Gu<|Zv rfl<|Gn<|Gy ?_
  refine Vc [4, 5, 17, 18, 19, 20, 21, 22, 23, 24, 25] (fun ((n, u) : Nat × Value) => [(5, .int .i64 (n : Nat)), (4, u)]) (fun (n, u) w' => Ext w w' ∧ n ≤ p.length ∧ Owned w.heap.size XR w' u (matV p (bsm p n))) (fun x => p.length - x.1) (0, u1) Kg ?_ ?_
  · exact ⟨by exact E1, Nat.zero_le _, hO1⟩
  clear hO1
  rintro ⟨n, um⟩ ρj w2 ⟨E2, hn, hO1⟩
  have k2n := k2 n
  by_cases hnl : n < p.length
  · focus
      have szE2 := E2.size; refine Gs<|Gu<|Gz rfl<|Zb v rfl<|Zj Kp rfl h<|Zn rfl<|Gn<|Gq rfl (fun h1 => ?_) (fun h1 => ?_); refine Za<|Gs<|Gy<|Zm<|Zb v rfl<|Zb um rfl<|Gv rfl (Zw (a := v) (b := um) Tryz.call203 rfl rfl) (k2n _ _ _ ((Mono.mono E2 h)) ((Owned.read hO1))) ?_; rintro u2 w3 ⟨E3, hO2⟩; refine Vm u2 rfl<|Gn<|Zm<|Gz rfl<|Zy rfl<|Zv rfl<|Gn ?_; rotate_left; (exfalso; omega)
    refine ⟨((n + 1, u2)), Kg, Kh, ?_, ?_⟩
    · exact ⟨by exact exq, Ka, hO2.mono Ka⟩
    · simp only; omega
  · obtain rfl : n = p.length := by omega
    clear k1 k2 k2n
    have hml := Xj (p := p) (bsm p p.length)
    have rM := hO1.read
    clear hO1
    focus
      have szE2 := E2.size; refine Gs<|Gu<|Gz rfl<|Zb v rfl<|Zj Kp rfl h<|Zn rfl<|Gn<|Gq rfl (fun h1 => ?_) (fun h1 => ?_); (exfalso; omega); refine Va ?_; refine Zd ?_; refine Gs<|Zm<|Vu XInt rfl Xn Kl ?_; rintro b1 w3 hb1 b1lt E3 hO1; refine Vp rfl<|Gn<|Gs<|Gs<|Zm<|Zv rfl<|Gn<|Gy ?_
    refine Vc [6, 7, 8, 27, 28, 29, 30, 31, 32, 33, 34, 35, 36, 37, 38, 39, 40, 41, 42, 43, 44, 45, 46, 47, 48, 49, 50] (fun ((k, u) : Nat × Value) => [(7, .int .i64 (k : Nat)), (6, u)]) (fun (k, u) w' => Ext w2 w' ∧ k ≤ p.length ∧ Owned w2.heap.size XI w' u ((ints (kndL p)).take k)) (fun x => p.length - x.1) (0, .slice (some ⟨b1, 0, none⟩) 0 0) Kg ?_ ?_
    · exact ⟨by exact E3, Nat.zero_le _, by simpa using hO1⟩
    clear hO1
    rintro ⟨k, uk⟩ ρk w4 ⟨E4, hk, hO1⟩
    have htl : ((ints (kndL p)).take k).length = k := by simp; omega
    by_cases hlt : k < p.length
    · obtain ⟨g1, g2, g3⟩ := Qt hlt
      focus
        have szE4 := E4.size; refine Gs<|Gu<|Gz rfl<|Zb v rfl<|Zj Kp rfl h<|Zn rfl<|Gn<|Gq rfl (fun h2 => ?_) (fun h2 => ?_); refine Za<|Gs<|Gy<|Gu<|Zv rfl<|Gn<|Gy ?_; rotate_left; (exfalso; omega)
      refine Vc [6, 8, 33, 34, 35, 36, 37, 38, 39, 40, 41, 42, 43, 44, 45, 46, 47, 48, 49, 50] (fun (j : Nat) => [(8, .int .i64 (j : Nat)), (6, uk)]) (fun j w' => w' = w4 ∧ j ≤ knd p k) (fun j => p.length - j) 0 Kg ?_ ?_
      · exact ⟨rfl, Nat.zero_le _⟩
      rintro j ρl w5 ⟨rfl, hj⟩
      have hmr := Uf (p := p) (S := bsm p p.length) hlt
      have hma := Qg (p := p) (S := bsm p p.length) (a := k) (b := j) hlt Ka
      rcases Nat.lt_or_ge j (knd p k) with hjl | hjl
      · have h0 : ((matV p (bsm p p.length))[k]'Ka)[j]'Ka = 0 := by rw [hma, show bsm p p.length k j = false from g3 j hjl]; rfl
        focus
          refine Gs<|Gu<|Gz rfl<|Zb v rfl<|Zj Kp rfl h<|Zn rfl<|Gn<|Gq rfl (fun h3 => ?_) (fun h3 => ?_); refine Za<|Gs<|Gy<|Gu<|Zb um rfl<|Gz rfl<|Vd Kp Kt Kx rfl (fun _ => rfl) rfl rM E4 rfl Kf ?_; rintro _ u2 hu1; refine Gz rfl<|Vd Km Kl Kn rfl (fun _ => rfl) rfl hu1 E4 rfl Kf ?_; rintro _ _ rfl; refine Zu rfl<|Gn<|Gq rfl (fun h4 => ?_) (fun h4 => ?_); (exfalso; omega); refine Za<|Zm<|Gz rfl<|Zy rfl<|Zv rfl<|Gn ?_; rotate_left; (exfalso; omega)
        refine ⟨(j + 1), Kg, Kh, ?_, ?_⟩
        · exact ⟨rfl, Ka⟩
        · omega
      · obtain rfl : j = knd p k := by omega
        have h1 : ((matV p (bsm p p.length))[k]'Ka)[knd p k]'Ka = 1 := by rw [hma, show bsm p p.length k (knd p k) = true from g2]; rfl
        focus
          have szE4 := E4.size; have szE2 := E2.size; refine Gs<|Gu<|Gz rfl<|Zb v rfl<|Zj Kp rfl h<|Zn rfl<|Gn<|Gq rfl (fun h3 => ?_) (fun h3 => ?_); refine Za<|Gs<|Gy<|Gu<|Zb um rfl<|Gz rfl<|Vd Kp Kt Kx rfl (fun _ => rfl) rfl rM E4 rfl Kf ?_; rintro _ u2 hu1; refine Gz rfl<|Vd Km Kl Kn rfl (fun _ => rfl) rfl hu1 E4 rfl Kf ?_; rintro _ _ rfl; refine Zu rfl<|Gn<|Gq rfl (fun h4 => ?_) (fun h4 => ?_); refine Gu<|Zb uk rfl<|Gz rfl<|Zp (ps := [(0, .int _ _)]) (cs := [_]) rfl Km Kl Je rfl rfl rfl rfl ?_; rintro b2 w4 hb2 E5 hB1 hHb2; have hs3 := E5.size
          refine Ya rfl Xn rfl rfl hB1 (hO1.toB.ext E5) Owned.int (Nat.le_refl _) Kf Ka Ka ((E2.trans E4).trans E5) Ka ?_; have hT1 := (hO1.toB.ext E5); rintro v1 w6 hO1 E6 M1; have E7 := M1.ext hT1 (E4.trans E5) Ka; refine Vm v1 rfl<|Gn<|Va ?_; refine exitX_other rfl ?_; refine Zd ?_; refine Zm<|Gz rfl<|Zy rfl<|Zv rfl<|Gn ?_; rotate_left; contradiction; (exfalso; omega)
        refine ⟨((k + 1, v1)), Kg, Kh, ?_, ?_⟩
        · refine ⟨by exact E7, Ka, ?_⟩
          rw [Ve _ _ Ka, Ud]
          exact hO1
        · simp only; omega
    · obtain rfl : k = p.length := by omega
      rw [List.take_of_length_le Ka] at hO1
      have rK := hO1.read
      clear hO1
      focus
        have szE4 := E4.size; refine Gs<|Gu<|Gz rfl<|Zb v rfl<|Zj Kp rfl h<|Zn rfl<|Gn<|Gq rfl (fun h2 => ?_) (fun h2 => ?_); contradiction; refine Va ?_; refine Zd ?_; refine Gu<|Zp (ps := [(0, .int _ _)]) (cs := [_]) rfl Km Kl Je rfl rfl rfl rfl ?_; rintro b2 w5 hb2 E5 hB1 hHb2; refine Vp rfl<|Gn<|Gs<|Gu<|Zv rfl<|Gn<|Gy ?_
      have hO2 : Owned w4.heap.size XI w5 (.slice (some ⟨b2, 0, none⟩) 1 1) (ints [0]) := Owned.block hHb2 hb2 rfl Kc ⟨⟨rfl, rfl⟩, trivial⟩
      clear hHb2 hB1
      refine Vc [9, 10, 11, 12, 13, 52, 53, 54, 55, 56, 57, 58, 59, 60, 61, 62, 63, 64, 65, 66, 67, 68, 69, 70, 71, 72, 73, 74, 75, 76, 77, 78, 79, 80, 81, 82, 83, 84, 85, 86, 87, 88, 89, 90, 91, 92, 93, 94, 95, 96, 97, 98, 99, 100] (fun ((t, u, L) : Nat × Value × List Nat) => [(10, .int .i64 (t : Nat)), (9, u)]) (fun (t, u, L) w' => Ext w4 w' ∧ Owned w4.heap.size XI w' u (ints L) ∧ Wlk p L ∧ t ≤ L.length ∧ ∀ x ∈ L.take t, ∀ j ∈ arr p x, knd p j ∈ L.map (knd p)) (fun x => p.length - x.1) (0, .slice (some ⟨b2, 0, none⟩) 1 1, [0]) Kg ?_ ?_
      · exact ⟨by exact E5, hO2, Wlk.zero, Nat.zero_le _, Ki⟩
      clear hO2
      rintro ⟨t, u, L⟩ ρl w6 ⟨E6, hO2, hW, ht, hcl⟩
      have hLl := hW.len hp
      have hLil := Vw L
      by_cases htl : t < L.length
      · obtain ⟨X, hX⟩ : ∃ X, X = L[t] := ⟨_, rfl⟩
        have hXl : X < p.length := hX ▸ hW.lt hp (List.getElem_mem htl)
        have hrow := hp.row hXl
        focus
          refine Gs<|Gu<|Gz rfl<|Zb u rfl<|Zj Km rfl (Owned.read hO2)<|Zn rfl<|Gn<|Gq rfl (fun h3 => ?_) (fun h3 => ?_); refine Za<|Gs<|Gy<|Gu<|Zv rfl<|Gn<|Gy ?_; rotate_left; (exfalso; omega)
        refine Vc [9, 11, 12, 13, 58, 59, 60, 61, 62, 63, 64, 65, 66, 67, 68, 69, 70, 71, 72, 73, 74, 75, 76, 77, 78, 79, 80, 81, 82, 83, 84, 85, 86, 87, 88, 89, 90, 91, 92, 93, 94, 95, 96, 97, 98, 99, 100] (fun ((j, u, L') : Nat × Value × List Nat) => [(11, .int .i64 (j : Nat)), (9, u)]) (fun (j, u, L') w' => Ext w4 w' ∧ j ≤ p.length ∧ Owned w4.heap.size XI w' u (ints L') ∧ Wlk p L' ∧ (∃ e, L' = L ++ e) ∧ ∀ j' ∈ arr p X, j' < j → knd p j' ∈ L'.map (knd p)) (fun x => p.length - x.1) (0, u, L) Kg ?_ ?_
        · exact ⟨by exact E6, Nat.zero_le _, hO2, hW, ⟨[], Ki⟩, fun j' _ h => Ka⟩
        clear hO2
        rintro ⟨j, u', L'⟩ ρm w7 ⟨E7, hj, hO2, hW', ⟨e, he⟩, hcl'⟩
        have hLl' := hW'.len hp
        have hLil' := Vw L'
        have htl' : t < L'.length := by rw [he]; simp; omega
        have hXt : L'[t] = X := by simp only [he]; rw [List.getElem_append_left htl, hX]
        have hXm : X ∈ L' := hXt ▸ List.getElem_mem htl'
        have hgt : (ints L')[t]'Ka = (X : Int) := by rw [Yy htl', hXt]
        by_cases hjl : j < p.length
        · have hgX : (p[((ints L')[t]'Ka).toNat]'(by rw [hgt]; omega)) = p[X] := by simp only [hgt, Int.toNat_natCast]
          have hgXl : (p[((ints L')[t]'Ka).toNat]'(by rw [hgt]; omega)).length = p.length := by rw [hgX]; exact hrow
          have hgXj : (p[((ints L')[t]'Ka).toNat]'(by rw [hgt]; omega))[j]'Ka = p[X][j] := by simp only [hgt, Int.toNat_natCast]
          have harX : j ∈ arr p X ↔ p[X][j] = 1 := by
            rw [Qj hp hXl]; unfold bit; rw [Vb hXl, Vb (show j < p[X].length by omega)]
            exact ⟨fun h => h.2, fun h => ⟨hjl, h⟩⟩
          focus
            have szE7 := E7.size; refine Gs<|Gu<|Gz rfl<|Zb v rfl<|Zj Kp rfl h<|Zn rfl<|Gn<|Gq rfl (fun h4 => ?_) (fun h4 => ?_); refine Za<|Gs<|Gy<|Gu<|Zb v rfl<|Zb u' rfl<|Gz rfl<|Vd Km Kl Kn rfl (fun _ => rfl) rfl (Owned.read hO2) (Ext.refl _) rfl Kf ?_; rintro _ _ rfl; refine Up Kp Kt Kx rfl (fun _ => rfl) rfl h exq rfl Kf ?_; rintro _ u2 hu1; refine Gz rfl<|Vd Km Kl Kn rfl (fun _ => rfl) rfl hu1 exq rfl Kf ?_; rintro _ _ rfl; refine Zu rfl<|Zh rfl<|Gn<|Gs<|Gu<|Zv rfl<|Gn<|Gy ?_; rotate_left; (exfalso; omega)
          refine Vc [12, 13, 75, 76, 77, 78, 79, 80, 81, 82, 83, 84, 85, 86, 87, 88, 89, 90, 91, 92, 93, 94, 95] (fun ((m, f) : Nat × Bool) => [(13, .int .i64 (m : Nat)), (12, .bool f)]) (fun (m, f) w' => Ext w7 w' ∧ m ≤ L'.length ∧ (f = true ↔ j ∈ arr p X ∧ knd p j ∉ (L'.take m).map (knd p))) (fun x => L'.length - x.1) (0, decide ((p[((ints L')[t]'Ka).toNat]'(by rw [hgt]; omega))[j]'Ka = 1)) Kg ?_ ?_
          · refine ⟨Ext.refl _, Nat.zero_le _, ?_⟩
            rw [decide_eq_true_iff, hgXj, harX]; simp
          rintro ⟨m, f⟩ ρn w9 ⟨E9, hm, hf⟩
          by_cases hml2 : m < L'.length
          · have hLm := hW'.lt hp (List.getElem_mem hml2)
            have hgm : (ints L')[m]'Ka = (L'[m] : Int) := Yy hml2
            have hkm : (ints (kndL p))[((ints L')[m]'Ka).toNat]'(by rw [hgm, hkl]; omega) = (knd p L'[m] : Int) := by
              simp only [hgm, Int.toNat_natCast]; exact Ud _
            have hkj : (ints (kndL p))[j]'Ka = (knd p j : Int) := Ud _
            have hts := Ve _ _ hml2
            have bm : ((ints L')[m]'Ka).toNat < (ints (kndL p)).length := by rw [hkl, hgm]; omega
            cases f
            · focus
                refine Gs<|Gu<|Gz rfl<|Zb u' rfl<|Zj Km rfl (Owned.read hO2)<|Zn rfl<|Gn<|Gq rfl (fun h5 => ?_) (fun h5 => ?_); refine Za<|Gs<|Gy<|Yl Ym Kb rfl ?_; refine Uq rfl<|Uq rfl<|Gx rfl<|Gx rfl<|Gx rfl<|Gx rfl<|Gx rfl<|Gx rfl<|Gx rfl<|Gx rfl<|Gx rfl<|Gx rfl<|Gx rfl<|Gx rfl<|Ub rfl<|WqaB rfl<|Yk (fun w8 E8 => ?_); refine Zm<|Gz rfl<|Zy rfl<|Zv rfl<|Gn ?_; rotate_left; (exfalso; omega)
              refine ⟨((m + 1, false)), Kg, Kh, ?_, ?_⟩
              · refine ⟨by exact exq, Ka, ⟨fun h => (by cases h), fun h => ?_⟩⟩
                rw [hts, List.map_append, List.mem_append, not_or] at h
                exact absurd (hf.2 ⟨h.1, h.2.1⟩) Ki
              · simp only; omega
            · focus
                refine Gs<|Gu<|Gz rfl<|Zb u' rfl<|Zj Km rfl (Owned.read hO2)<|Zn rfl<|Gn<|Gq rfl (fun h5 => ?_) (fun h5 => ?_); refine Za<|Gs<|Gy<|Yl Ym Kb rfl ?_; refine Uq rfl<|Uq rfl<|Xx uk rfl<|Xx u' rfl<|Qm rfl<|Yt Km Kl Kn rfl (fun _ => rfl) rfl (Owned.read hO2) E9 rfl Kf ?_; rintro _ _ rfl; refine Qd Km Kl Kn rfl (fun _ => rfl) rfl rK exq rfl Kf ?_; rintro _ _ rfl; refine Xx uk rfl<|Qm rfl<|Yt Km Kl Kn rfl (fun _ => rfl) rfl rK exq rfl Kf ?_; rintro _ _ rfl; refine Wqneq rfl<|Rn rfl<|WqaB rfl<|Yk (fun w8 E8 => ?_)
                refine Zm<|Gz rfl<|Zy rfl<|Zv rfl<|Gn ?_; rotate_left; (exfalso; omega)
              refine ⟨((m + 1, !decide ((ints (kndL p))[((ints L')[m]'Ka).toNat]'bm = (ints (kndL p))[j]'Ka))), Kg, Kh, ?_, ?_⟩
              · refine ⟨by exact exq, Ka, ?_⟩
                rw [hkm, hkj, hts, List.map_append, List.mem_append, not_or]
                have hf' := hf.1 rfl
                simp only [List.map_cons, List.map_nil, List.mem_singleton, Bool.not_eq_true', decide_eq_false_iff_not]
                constructor
                · intro h; exact ⟨hf'.1, hf'.2, fun e => h (by rw [e])⟩
                · intro h e; exact h.2.2 Ka
              · simp only; omega
          · obtain rfl : m = L'.length := by omega
            rw [List.take_length] at hf
            cases f
            · focus
                refine Gs<|Gu<|Gz rfl<|Zb u' rfl<|Zj Km rfl (Owned.read hO2)<|Zn rfl<|Gn<|Gq rfl (fun h5 => ?_) (fun h5 => ?_); (exfalso; omega); refine Va ?_; refine Zd ?_; refine Gu<|Vr rfl<|Gn<|Ze rfl ?_; refine Za<|Zm<|Gz rfl<|Zy rfl<|Zv rfl<|Gn ?_
              refine ⟨((j + 1, u', L')), Kg, Kh, ?_, ?_⟩
              · refine ⟨by exact exq, Ka, by exact (Mono.mono E9 hO2), hW', ⟨e, he⟩, fun j' h1 h2 => ?_⟩
                rcases Nat.lt_or_ge j' j with h3 | h3
                · exact hcl' j' h1 h3
                · obtain rfl : j' = j := by omega
                  exact Classical.byContradiction fun h => absurd (hf.2 ⟨h1, h⟩) Ki
              · simp only; omega
            · obtain ⟨hf1, hf2⟩ := hf.1 rfl
              focus
                have szE9 := E9.size; have szE7 := E7.size; refine Gs<|Gu<|Gz rfl<|Zb u' rfl<|Zj Km rfl (Owned.read hO2)<|Zn rfl<|Gn<|Gq rfl (fun h5 => ?_) (fun h5 => ?_); (exfalso; omega); refine Va ?_; refine Zd ?_; refine Gu<|Vr rfl<|Gn<|Yb rfl ?_; refine Zm<|Zb u' rfl<|Gz rfl<|Zp (ps := [(0, .int _ _)]) (cs := [_]) rfl Km Kl Je rfl rfl rfl rfl ?_; rintro b3 w8 hb3 E8 hB1 hHb3; have hs4 := E8.size; refine Ya rfl Xn rfl rfl hB1 (hO2.toB.ext (E9.trans E8)) Owned.int (Nat.le_refl _) Kf Ka Ka ((((E2.trans E4).trans E7).trans E9).trans E8) Ka ?_; have hT1 := (hO2.toB.ext (E9.trans E8)); rintro v1 w10 hO2 E10 M1; have E12 := M1.ext hT1 ((E7.trans E9).trans E8) Ka
                have hB1 := hB1.moves M1 hT1 Ka; refine Vm v1 rfl<|Gn<|Zm<|Gz rfl<|Zy rfl<|Zv rfl<|Gn ?_
              refine ⟨((j + 1, v1, L' ++ [j])), Kg, Kh, ?_, ?_⟩
              · refine ⟨by exact E12, Ka, ?_, hW'.step hXm hf1 hf2, ⟨e ++ [j], by rw [he, List.append_assoc]⟩, fun j' h1 h2 => ?_⟩
                · rw [ints_append]; assumption
                · rw [List.map_append, List.mem_append]
                  rcases Nat.lt_or_ge j' j with h3 | h3
                  · exact .inl (hcl' j' h1 h3)
                  · obtain rfl : j' = j := by omega
                    exact .inr Ki
              · simp only; omega
        · obtain rfl : j = p.length := by omega
          focus
            refine Gs<|Gu<|Gz rfl<|Zb v rfl<|Zj Kp rfl h<|Zn rfl<|Gn<|Gq rfl (fun h4 => ?_) (fun h4 => ?_); contradiction; refine Va ?_; refine Zd ?_; refine Zm<|Gz rfl<|Zy rfl<|Zv rfl<|Gn ?_
          refine ⟨((t + 1, u', L')), Kg, Kh, ?_, ?_⟩
          · refine ⟨by exact E7, by exact hO2, hW', Ka, fun x hx j' hj' => ?_⟩
            rw [Ve _ _ htl'] at hx
            rcases List.mem_append.1 hx with hx | hx
            · have hx2 : x ∈ L.take t := by rw [he, List.take_append_of_le_length Ka] at hx; exact hx
              have := hcl x hx2 j' hj'
              rw [he, List.map_append]
              exact List.mem_append_left _ this
            · rw [List.mem_singleton.1 hx, hXt] at hj'
              exact hcl' j' hj' (Yh hp hXl hj')
          · simp only; omega
      · obtain rfl : t = L.length := by omega
        rw [List.take_length] at hcl
        have hKds := hW.kds hp hcl
        have hLlt : ∀ x ∈ L, x < p.length := fun x hx => hW.lt hp hx
        have hC : Cand p 0 (qp p (L.map (knd p))) := ⟨_, hKds, rfl⟩
        have hcl2 : (qp p (L.map (knd p))).length = L.length := by rw [qp_len, List.length_map]
        have hll := lst_len hp hp1 hC
        rw [hcl2] at hll
        by_cases h5 : L.length ≤ 5
        · have h5' : (lst p 0).length ≤ 5 := by omega
          have hPc := hC.pic hp hp1 Ka
          have k4 : ∀ (w : World) (v u t : Value), ESl Ints w v p → Ints w u (ints (kndL p)) → Ints w t (ints L) → Does Tryz.prog 195 [v, u, t] w (RetO w XR (qp p (L.map (knd p)))) := fun w v u t h1 h2 h3 => by
            rw [← ptV_qp hp hLlt]
            refine l4Part_ok w v u t p _ _ h1 h2 h3 hp hkl (fun x hx => ?_) (by rw [Vw]; omega)
            obtain ⟨y, hy, rfl⟩ := List.mem_map.1 hx
            have := hLlt y hy
            omega
          have k5 : ∀ (w : World) (v : Value), ESl Ints w v (qp p (L.map (knd p))) → Does Tryz.prog 126 [v, .int .i64 0] w (RetO w XR (lst p 0)) := fun w v h => by
            have := Us w v _ h 0
            rw [if_pos ⟨hPc, Kc, by have := hPc.1; omega⟩] at this
            rw [(lst_same hp (hC.gr hp hp1) hp1 hPc.1).2 (hC.bis hp hp1)]
            exact this
          rw [if_pos h5', decide_eq_true h5']
          focus
            have szE6 := E6.size; refine Gs<|Gu<|Gz rfl<|Zb u rfl<|Zj Km rfl (Owned.read hO2)<|Zn rfl<|Gn<|Gq rfl (fun h3 => ?_) (fun h3 => ?_); (exfalso; omega); refine Va ?_; refine Zd ?_; refine Gs<|Gu<|Zb u rfl<|Zj Km rfl (Owned.read hO2)<|Yx rfl<|Gn<|Gq rfl (fun h4 => ?_) (fun h4 => ?_); (exfalso; omega); refine Za<|Gs<|Zm<|Zb v rfl<|Zb uk rfl<|Zb u rfl<|Gv rfl (opc3 (a := v) (b := uk) (c := u) Tryz.call195 rfl rfl rfl) (k4 _ _ _ _ ((Mono.mono exq h)) ((Mono.mono E6 rK)) ((Owned.read hO2))) ?_; rintro u2 w7 ⟨E7, hO1⟩; have hs4 := E7.size; refine Gv rfl (Zw (a := u2) (b := .int _ _) Js rfl rfl) (k5 _ _ ((Owned.read hO1))) ?_; rintro u3 w8 ⟨E8, hO3⟩; refine Vm u3 rfl ?_
            refine Zh rfl<|Gn<|Zk ?_; refine Zo (v := .tuple #[u3, .bool _]) rfl ?_; exact ⟨_, rfl, exq, hO3.toB.o.mono Ka⟩
        · have h5' : ¬ (lst p 0).length ≤ 5 := by omega
          rw [if_neg h5', decide_eq_false h5']
          focus
            have szE6 := E6.size; refine Gs<|Gu<|Gz rfl<|Zb u rfl<|Zj Km rfl (Owned.read hO2)<|Zn rfl<|Gn<|Gq rfl (fun h3 => ?_) (fun h3 => ?_); (exfalso; omega); refine Va ?_; refine Zd ?_; refine Gs<|Gu<|Zb u rfl<|Zj Km rfl (Owned.read hO2)<|Yx rfl<|Gn<|Gq rfl (fun h4 => ?_) (fun h4 => ?_); refine Gu<|Vu (XSl 3 XInt) rfl Xq Kt ?_; rintro b3 w7 hb3 b3lt E7 hO1; refine Vp rfl<|Zh rfl<|Gn<|Zk ?_; refine Zo (v := .tuple #[.slice _ _ _, .bool _]) rfl ?_; exact ⟨_, rfl, exq, hO1.toB.o.mono Ka⟩; (exfalso; omega)
end Go.Proofs.YtbgpppaljpngmaaGreatDoor
namespace Go.Proofs.YtbgpppaljpngmaaGreatDoor
open Go.Hs
set_option maxRecDepth 10000
set_option maxHeartbeats 4000000
set_option linter.unusedVariables false
set_option linter.unusedSimpArgs false
theorem l6Least_put (w : World) (v : Value) (g : List (List Int)) (ms : List Nat) (h : ESl Ints w v (put g ms)) (hg : Gr g) (hn : g.length ≤ 10) :
    Does Tryz.prog 175 [v] w (RetOB w XR (og (putV g ms)) (putV g ms).isSome) := by
  rw [putV_og, putV_is]
  exact l6Least_ok w v _ h (put_gr hg hn)
theorem PairOf_ok (w : World) (v u : Value) (p q : List (List Int)) (h : ESl Ints w v p) (h' : ESl Ints w u q) (a b : Nat) (ha : Nod p a) (hb : Nod q b) : Does Tryz.prog 141 [v, .int .i64 (a : Int), u, .int .i64 (b : Int)] w (RetOB w XR (og (pairV p a q b)) (pairV p a q b).isSome) := by
  have la : a < p.length := by have := ha.2; omega
  have lb : b < q.length := by have := hb.2; omega
  have hle := h.le
  have hle' := h'.le
  have hG := ha.1.bes5 hb.1
  have n1 : ∀ (w : World) (v : Value), ESl Ints w v p → Does Tryz.prog 118 [v, .int .i64 (a : Int)] w (Ret w (.bool true)) := fun w v h => by
    have := Qa w v p h (a : Int); rwa [decide_eq_true ha] at this
  have n2 : ∀ (w : World) (v : Value), ESl Ints w v q → Does Tryz.prog 118 [v, .int .i64 (b : Int)] w (Ret w (.bool true)) := fun w v h => by
    have := Qa w v q h (b : Int); rwa [decide_eq_true hb] at this
  have k1 : ∀ (w : World) (v u vl vr : Value), ESl Ints w v p → ESl Ints w u q → Ints w vl [(a : Int)] → Ints w vr [(b : Int)] → Does Tryz.prog 176 [v, u, vl, vr] w (RetO w XR (put (bes p q) [a, p.length + b])) := fun w v u vl vr h1 h2 h3 h4 =>
    l6Put_ok w v u vl vr p q [a] [b] h1 h2 h3 h4 ha.1 (.inl hb.1) (fun x hx => by rw [List.mem_singleton.1 hx]; exact la) (fun x hx => by rw [List.mem_singleton.1 hx]; exact lb) Ki Ki
  have k2 : ∀ (w : World) (v : Value), ESl Ints w v (put (bes p q) [a, p.length + b]) → Does Tryz.prog 175 [v] w (RetOB w XR (og (pairV p a q b)) (pairV p a q b).isSome) := fun w v h => l6Least_put w v _ _ h hG.1 hG.2
  refine Uc Tryz.func141 rfl Tryz.results141 Tryz.ntmps141 rfl ?_
  have litown : True := trivial
  focus
    refine Gu<|Vp rfl<|Zh rfl<|Gn<|Gs<|Gu<|Zb v rfl<|Gz rfl<|Gv rfl (Zw (a := v) (b := .int _ _) Ge rfl rfl) (n1 _ _ (h)) ?_; rintro _ w1 ⟨rfl, E1⟩; have hs1 := E1.size; refine Vo rfl<|Yc rfl (Zs (v := .bool _) rfl) (fun h1 => ?_) (fun h1 => ?_); contradiction; refine Zb u rfl<|Gz rfl<|Gv rfl (Zw (a := u) (b := .int _ _) Ge rfl rfl) (n2 _ _ ((Mono.mono E1 h'))) ?_; rintro _ w2 ⟨rfl, E2⟩; have hs2 := E2.size; refine Vo rfl<|Vg rfl<|Gn<|Vt rfl (fun h2 => ?_) (fun h2 => ?_); contradiction; refine Za<|Gu<|Zb v rfl<|Zb u rfl<|Gz rfl ?_
    refine Zp (ps := [(0, .int _ _)]) (cs := [_]) rfl Km Kl Je rfl rfl rfl rfl ?_; rintro b1 w3 hb1 E3 hB1 hHb1; have hlb1 := hB1.lt; have hLb1 := own_lit1 hHb1 hb1; clear hHb1; have hs3 := E3.size; refine Gz rfl<|Zp (ps := [(0, .int _ _)]) (cs := [_]) rfl Km Kl Je rfl rfl rfl rfl ?_; rintro b2 w4 hb2 E4 hB2 hHb2; have hlb2 := hB2.lt; have hLb2 := own_lit1 hHb2 hb2; clear hHb2; have hs4 := E4.size; refine Gv rfl (Rh (a := v) (b := u) (c := .slice _ _ _) (d := .slice _ _ _) Tryz.call176 rfl rfl rfl rfl) (k1 _ _ _ _ _ ((Mono.mono exq h)) ((Mono.mono exq h')) ((Mono.mono E4 (Owned.read hLb1))) ((Owned.read hLb2))) ?_
    rintro u1 w5 ⟨E5, hO1⟩; have ichO1 := OwnedB.isC (Owned.toB hO1); have hs5 := E5.size; refine Gv rfl (Vq (a := u1) Tryz.call175 rfl) (k2 _ _ ((Owned.read hO1))) ?_; rintro _ w6 ⟨u2, rfl, E6, hO2⟩; have ichO2 := OwnedB.isC (Owned.toB hO2); have hs6 := E6.size; refine Xk u2 rfl<|Yp rfl<|Vm u2 rfl<|Zh rfl<|Gn<|Zk ?_; refine Zo (v := .tuple #[u2, .bool _]) rfl ?_; exact ⟨_, rfl, exq, hO2.toB.o.mono Ka⟩
theorem TogetherOf_ok (w : World) (v u : Value) (p q : List (List Int)) (h : ESl Ints w v p) (h' : ESl Ints w u q) (a b : Nat) (ha : Nod p a) (hb : Nod q b) : Does Tryz.prog 142 [v, .int .i64 (a : Int), u, .int .i64 (b : Int)] w (RetOB w XR (og (togV p a q b)) (togV p a q b).isSome) := by
  have la : a < p.length := by have := ha.2; omega
  have lb : b < q.length := by have := hb.2; omega
  have hle := h.le
  have hle' := h'.le
  have hG := ha.1.bes5 hb.1
  have n1 : ∀ (w : World) (v : Value), ESl Ints w v p → Does Tryz.prog 118 [v, .int .i64 (a : Int)] w (Ret w (.bool true)) := fun w v h => by
    have := Qa w v p h (a : Int); rwa [decide_eq_true ha] at this
  have n2 : ∀ (w : World) (v : Value), ESl Ints w v q → Does Tryz.prog 118 [v, .int .i64 (b : Int)] w (Ret w (.bool true)) := fun w v h => by
    have := Qa w v q h (b : Int); rwa [decide_eq_true hb] at this
  have c1 : ∀ (w : World) (v : Value), ESl Ints w v p → Does Tryz.prog 119 [v, .int .i64 (a : Int)] w (RetO w XI (ints (arr p a))) := fun w v h => Rr w v p h ha.1.gr a la
  have c2 : ∀ (w : World) (v : Value), ESl Ints w v q → Does Tryz.prog 119 [v, .int .i64 (b : Int)] w (RetO w XI (ints (arr q b))) := fun w v h => Rr w v q h hb.1.gr b lb
  have k1 : ∀ (w : World) (v u vl vr : Value), ESl Ints w v p → ESl Ints w u q → Ints w vl (ints (arr p a)) → Ints w vr (ints (arr q b)) → Does Tryz.prog 176 [v, u, vl, vr] w (RetO w XR (put (bes p q) (arr p a ++ (arr q b).map (p.length + ·)))) := fun w v u vl vr h1 h2 h3 h4 =>
    l6Put_ok w v u vl vr p q _ _ h1 h2 h3 h4 ha.1 (.inl hb.1) (fun x hx => Yh ha.1.gr la hx) (fun x hx => Yh hb.1.gr lb hx) (by have := arr_le ha.1.gr la; have := ha.1.2.1; omega) (by have := arr_le hb.1.gr lb; have := hb.1.2.1; omega)
  have k2 : ∀ (w : World) (v : Value), ESl Ints w v (put (bes p q) (arr p a ++ (arr q b).map (p.length + ·))) → Does Tryz.prog 175 [v] w (RetOB w XR (og (togV p a q b)) (togV p a q b).isSome) := fun w v h => by
    rw [togV_eq ha.1.gr hb.1.gr la lb]
    exact l6Least_put w v _ _ h hG.1 hG.2
  refine Uc Tryz.func142 rfl Tryz.results142 Tryz.ntmps142 rfl ?_
  focus
    refine Gu<|Vp rfl<|Zh rfl<|Gn<|Gs<|Gu<|Zb v rfl<|Gz rfl<|Gv rfl (Zw (a := v) (b := .int _ _) Ge rfl rfl) (n1 _ _ (h)) ?_; rintro _ w1 ⟨rfl, E1⟩; have hs1 := E1.size; refine Vo rfl<|Yc rfl (Zs (v := .bool _) rfl) (fun h1 => ?_) (fun h1 => ?_); contradiction; refine Zb u rfl<|Gz rfl<|Gv rfl (Zw (a := u) (b := .int _ _) Ge rfl rfl) (n2 _ _ ((Mono.mono E1 h'))) ?_; rintro _ w2 ⟨rfl, E2⟩; have hs2 := E2.size; refine Vo rfl<|Vg rfl<|Gn<|Vt rfl (fun h2 => ?_) (fun h2 => ?_); contradiction; refine Za<|Gu<|Zb v rfl<|Zb u rfl<|Zb v rfl<|Gz rfl<|Gv rfl (Zw (a := v) (b := .int _ _) Gl rfl rfl) (c1 _ _ ((Mono.mono exq h))) ?_; rintro u1 w3 ⟨E3, hO1⟩; have hs3 := E3.size; refine Zb u rfl ?_
    refine Gz rfl<|Gv rfl (Zw (a := u) (b := .int _ _) Gl rfl rfl) (c2 _ _ ((Mono.mono exq h'))) ?_; rintro u2 w4 ⟨E4, hO2⟩; have hs4 := E4.size; refine Gv rfl (Rh (a := v) (b := u) (c := u1) (d := u2) Tryz.call176 rfl rfl rfl rfl) (k1 _ _ _ _ _ ((Mono.mono exq h)) ((Mono.mono exq h')) ((Mono.mono E4 (Owned.read hO1))) ((Owned.read hO2))) ?_; rintro u3 w5 ⟨E5, hO3⟩; have hs5 := E5.size; refine Gv rfl (Vq (a := u3) Tryz.call175 rfl) (k2 _ _ ((Owned.read hO3))) ?_; rintro _ w6 ⟨u4, rfl, E6, hO4⟩; have hs6 := E6.size; refine Xk u4 rfl<|Yp rfl<|Vm u4 rfl<|Zh rfl<|Gn<|Zk ?_; refine Zo (v := .tuple #[u4, .bool _]) rfl ?_; exact ⟨_, rfl, exq, hO4.toB.o.mono Ka⟩
open Classical in
theorem WithoutSet_ok (w : World) (v u : Value) (p q : List (List Int)) (h : ESl Ints w v p) (h' : ESl Ints w u q) (a b : Nat) (ha : Nod p a) (hb : Nod q b) : Does Tryz.prog 143 [v, .int .i64 (a : Int), u, .int .i64 (b : Int)] w (RetOB w XR (og (wosV p a q b)) (wosV p a q b).isSome) := by
  have la : a < p.length := by have := ha.2; omega
  have lb : b < q.length := by have := hb.2; omega
  have hle := h.le
  have hle' := h'.le
  have n1 : ∀ (w : World) (v : Value), ESl Ints w v p → Does Tryz.prog 118 [v, .int .i64 (a : Int)] w (Ret w (.bool true)) := fun w v h => by
    have := Qa w v p h (a : Int); rwa [decide_eq_true ha] at this
  have n2 : ∀ (w : World) (v : Value), ESl Ints w v q → Does Tryz.prog 118 [v, .int .i64 (b : Int)] w (Ret w (.bool true)) := fun w v h => by
    have := Qa w v q h (b : Int); rwa [decide_eq_true hb] at this
  have c1 : ∀ (w : World) (v : Value), ESl Ints w v p → Does Tryz.prog 119 [v, .int .i64 (a : Int)] w (RetO w XI (ints (arr p a))) := fun w v h => Rr w v p h ha.1.gr a la
  have hal := arr_le ha.1.gr la
  have hail := Vw (arr p a)
  have hp5 := ha.1.2.1
  refine Uc Tryz.func143 rfl Tryz.results143 Tryz.ntmps143 rfl ?_
  focus
    refine Gu<|Vp rfl<|Zh rfl<|Gn<|Gs<|Gu<|Zb v rfl<|Gz rfl<|Gv rfl (Zw (a := v) (b := .int _ _) Ge rfl rfl) (n1 _ _ (h)) ?_; rintro _ w1 ⟨rfl, E1⟩; have hs1 := E1.size; refine Vo rfl<|Yc rfl (Zs (v := .bool _) rfl) (fun h1 => ?_) (fun h1 => ?_); contradiction; refine Zb u rfl<|Gz rfl<|Gv rfl (Zw (a := u) (b := .int _ _) Ge rfl rfl) (n2 _ _ ((Mono.mono E1 h'))) ?_; rintro _ w2 ⟨rfl, E2⟩; have hs2 := E2.size; refine Vo rfl<|Vg rfl<|Gn<|Vt rfl (fun h2 => ?_) (fun h2 => ?_); contradiction; refine Za<|Gu<|Vu XInt rfl Xn Kl ?_; rintro b1 w3 hb1 b1lt E3 hO1; have hs3 := E3.size; refine Vp rfl<|Gn<|Gu ?_
    refine Zb v rfl<|Gz rfl<|Gv rfl (Zw (a := v) (b := .int _ _) Gl rfl rfl) (c1 _ _ ((Mono.mono exq h))) ?_; rintro u1 w4 ⟨E4, hO2⟩; have hs4 := E4.size; refine Vm u1 rfl<|Gn<|Gs<|Gu<|Zv rfl<|Gn<|Gy ?_
  have hO3 : Owned w.heap.size XI w4 (.slice (some ⟨b1, 0, none⟩) 0 0) (ints []) := (hO1.ext E4).mono Ka
  have hBe : Besides (Value.ownBlock (.slice (some ⟨b1, 0, none⟩) 0 0)) Ints w4 u1 (ints (arr p a)) := Besides.start hO1 hO2.above
  clear hO1 hO2
  have E0 : Ext w w4 := by exact (((E1.trans E2).trans E3).trans E4)
  refine Vc [10, 12, 28, 29, 30, 31, 32, 33, 34, 35, 36, 37, 38, 39, 40, 41, 42, 43, 44, 45, 46, 47, 48, 49] (fun ((k, u, L) : Nat × Value × List Nat) => [(12, .int .i64 (k : Nat)), (10, u)]) (fun (k, u, L) w' => Ext w w' ∧ k ≤ (arr p a).length ∧ Owned w.heap.size XI w' u (ints L) ∧ Besides u.ownBlock Ints w' u1 (ints (arr p a)) ∧ L = ((arr p a).take k).filter fun v => !decide (Bis p v q b)) (fun x => (arr p a).length - x.1) (0, .slice (some ⟨b1, 0, none⟩) 0 0, []) Kg ?_ ?_
  · exact ⟨by exact E0, Nat.zero_le _, hO3, hBe, Ki⟩
  clear hO3 hBe
  rintro ⟨k, uk, L⟩ ρj w5 ⟨E5, hk, hO3, hBe, hL⟩
  have hLle : L.length ≤ (arr p a).length := by rw [hL]; exact Nat.le_trans (List.length_filter_le _ _) (by rw [List.length_take]; omega)
  have hLil := Vw L
  by_cases hkl : k < (arr p a).length
  · have hm := Yh ha.1.gr la (List.getElem_mem hkl)
    have hgk : (ints (arr p a))[k]'Ka = ((arr p a)[k] : Int) := Yy hkl
    have hts := Ve _ _ hkl
    have hnk : Nod p ((arr p a)[k] : Nat) := ⟨ha.1, Ka, Ka⟩
    by_cases hB : Bis p (arr p a)[k] q b
    · have k3 : ∀ (w : World) (v u : Value), ESl Ints w v p → ESl Ints w u q → Does Tryz.prog 121 [v, .int .i64 ((ints (arr p a))[k]'Ka), u, .int .i64 (b : Int)] w (Ret w (.bool true)) := fun w v u h1 h2 => by
        have := spec_SameSet_ok w v u p q h1 h2 (((arr p a)[k] : Nat) : Int) (b : Int) hnk hb
        rw [hgk]; simp only [Int.toNat_natCast] at this
        rwa [decide_eq_true hB] at this
      focus
        have szE5 := E5.size; have szE0 := E0.size; have szE4 := E4.size; have szE3 := E3.size; have szE2 := E2.size; have szE1 := E1.size; refine Gs<|Gu<|Gz rfl<|Zb u1 rfl<|Zj Km rfl (Besides.here hBe)<|Zn rfl<|Gn<|Gq rfl (fun h3 => ?_) (fun h3 => ?_); refine Za<|Gs<|Gy<|Gu<|Zb v rfl<|Zb u1 rfl<|Gz rfl<|Vd Km Kl Kn rfl (fun _ => rfl) rfl (Besides.here hBe) (Ext.refl _) rfl Kf ?_; rintro _ _ rfl; refine Zb u rfl<|Gz rfl<|Gv rfl (Rh (a := v) (b := .int _ _) (c := u) (d := .int _ _) Tryz.call121 rfl rfl rfl rfl) (k3 _ _ _ ((Mono.mono E5 h)) ((Mono.mono E5 h'))) ?_; rintro _ w6 ⟨rfl, E6⟩; have hs5 := E6.size
        refine Vo rfl<|Gn<|Vt rfl (fun h4 => ?_) (fun h4 => ?_); contradiction; refine Za<|Zm<|Gz rfl<|Zy rfl<|Zv rfl<|Gn ?_; rotate_left; (exfalso; omega)
      refine ⟨((k + 1, uk, L)), Kg, Kh, ?_, ?_⟩
      · refine ⟨by exact (E5.trans E6), Ka, by exact (Mono.mono E6 hO3), by exact (hBe.ext E6), ?_⟩
        rw [hL, hts, List.filter_append]; simp [hB]
      · simp only; omega
    · have k3 : ∀ (w : World) (v u : Value), ESl Ints w v p → ESl Ints w u q → Does Tryz.prog 121 [v, .int .i64 ((ints (arr p a))[k]'Ka), u, .int .i64 (b : Int)] w (Ret w (.bool false)) := fun w v u h1 h2 => by
        have := spec_SameSet_ok w v u p q h1 h2 (((arr p a)[k] : Nat) : Int) (b : Int) hnk hb
        rw [hgk]; simp only [Int.toNat_natCast] at this
        rwa [decide_eq_false hB] at this
      focus
        have szE5 := E5.size; have szE0 := E0.size; have szE4 := E4.size; have szE3 := E3.size; have szE2 := E2.size; have szE1 := E1.size; refine Gs<|Gu<|Gz rfl<|Zb u1 rfl<|Zj Km rfl (Besides.here hBe)<|Zn rfl<|Gn<|Gq rfl (fun h3 => ?_) (fun h3 => ?_); refine Za<|Gs<|Gy<|Gu<|Zb v rfl<|Zb u1 rfl<|Gz rfl<|Vd Km Kl Kn rfl (fun _ => rfl) rfl (Besides.here hBe) (Ext.refl _) rfl Kf ?_; rintro _ _ rfl; refine Zb u rfl<|Gz rfl<|Gv rfl (Rh (a := v) (b := .int _ _) (c := u) (d := .int _ _) Tryz.call121 rfl rfl rfl rfl) (k3 _ _ _ ((Mono.mono E5 h)) ((Mono.mono E5 h'))) ?_; rintro _ w6 ⟨rfl, E6⟩; have hs5 := E6.size
        refine Vo rfl<|Gn<|Vt rfl (fun h4 => ?_) (fun h4 => ?_); refine Zm<|Zb uk rfl<|Zb u1 rfl<|Gz rfl<|Vd Km Kl Kn rfl (fun _ => rfl) rfl (Besides.here hBe) E6 rfl Kf ?_; rintro _ _ rfl; refine Zp (ps := [(0, .int _ _)]) (cs := [_]) rfl Km Kl Je rfl rfl rfl rfl ?_; rintro b2 w7 hb2 E7 hB1 hHb2; have hlb2 := hB1.lt; have hs6 := E7.size; refine Ya rfl Xn rfl rfl hB1 (hO3.toB.ext (E6.trans E7)) Owned.int (Nat.le_refl _) Kf Ka Ka ((E5.trans E6).trans E7) Ka ?_; have hT1 := (hO3.toB.ext (E6.trans E7)); rintro v1 w8 hO3 E8 M1; have hBe := (hBe.ext exq).moves M1; have hB1 := hB1.moves M1 hT1 Ka; have hs7 := E8.size; refine Vm v1 rfl<|Gn<|Zm ?_
        refine Gz rfl<|Zy rfl<|Zv rfl<|Gn ?_; rotate_left; contradiction; (exfalso; omega)
      refine ⟨((k + 1, v1, L ++ [(arr p a)[k]])), Kg, Kh, ?_, ?_⟩
      · refine ⟨by exact E8, Ka, ?_, by exact hBe, ?_⟩
        · rw [ints_append, show ints [(arr p a)[k]] = [(ints (arr p a))[k]'Ka] by rw [hgk]; rfl]
          assumption
        · rw [hL, hts, List.filter_append]; simp [hB]
      · simp only; omega
  · obtain rfl : k = (arr p a).length := by omega
    rw [List.take_length] at hL
    have hLm : ∀ x ∈ L, x < p.length := fun x hx => Yh ha.1.gr la (List.mem_filter.1 (hL ▸ hx)).1
    have rL := hO3.read
    have rA := hBe.here
    clear hO3 hBe
    have hpp := ha.1.gr
    have k1 : ∀ (w : World) (v u vl vr : Value), ESl Ints w v p → ESl Ints w u [] → Ints w vl (ints L) → Ints w vr [] → Does Tryz.prog 176 [v, u, vl, vr] w (RetO w XR (put (bes p []) (L ++ ([] : List Nat).map (p.length + ·)))) := fun w v u vl vr h1 h2 h3 h4 =>
      l6Put_ok w v u vl vr p [] _ [] h1 h2 h3 h4 ha.1 (.inr rfl) hLm (fun x hx => by cases hx) Ka Ki
    have k2 : ∀ (w : World) (v : Value), ESl Ints w v (put (bes p []) (L ++ ([] : List Nat).map (p.length + ·))) → Does Tryz.prog 175 [v] w (RetOB w XR (og (wosV p a q b)) (wosV p a q b).isSome) := fun w v h => by
      rw [wosV_eq, ← hL]
      exact l6Least_put w v _ _ h (by rw [bes_nil]; exact hpp) (by rw [bes_nil]; omega)
    focus
      have szE5 := E5.size; have szE0 := E0.size; have szE4 := E4.size; have szE3 := E3.size; have szE2 := E2.size; have szE1 := E1.size; refine Gs<|Gu<|Gz rfl<|Zb u1 rfl<|Zj Km rfl rA<|Zn rfl<|Gn<|Gq rfl (fun h3 => ?_) (fun h3 => ?_); (exfalso; omega); refine Va ?_; refine Zd ?_; refine Gu<|Zb v rfl<|Vu (XSl 3 XInt) rfl Xq Kt ?_; rintro b2 w6 hb2 b2lt E6 hO1; have hs5 := E6.size; refine Zb uk rfl<|Vu XInt rfl Xn Kl ?_; rintro b3 w7 hb3 b3lt E7 hO2; have hs6 := E7.size; refine Gv rfl (Rh (a := v) (b := .slice _ _ _) (c := uk) (d := .slice _ _ _) Tryz.call176 rfl rfl rfl rfl) (k1 _ _ _ _ _ ((Mono.mono exq h)) ((Mono.mono E7 (Owned.read hO1))) ((Mono.mono exq rL)) ((Owned.read hO2))) ?_
      rintro u2 w8 ⟨E8, hO3⟩; have hs7 := E8.size; refine Gv rfl (Vq (a := u2) Tryz.call175 rfl) (k2 _ _ ((Owned.read hO3))) ?_; rintro _ w9 ⟨u3, rfl, E9, hO4⟩; have hs8 := E9.size; refine Xk u3 rfl<|Yp rfl<|Vm u3 rfl<|Zh rfl<|Gn<|Zk ?_; refine Zo (v := .tuple #[u3, .bool _]) rfl ?_; exact ⟨_, rfl, exq, hO4.toB.o.mono Ka⟩
end Go.Proofs.YtbgpppaljpngmaaGreatDoor
namespace Go.Proofs.YtbgpppaljpngmaaGreatDoor
open Go.Hs
set_option maxRecDepth 10000
set_option maxHeartbeats 4000000
set_option linter.unusedVariables false
set_option linter.unusedSimpArgs false
theorem l11Rows_ok (w : World) (v : Value) (p : List (List Int)) (h : ESl Ints w v p) (hp : p.length ≤ 100) (hr : ∀ r ∈ p, r.length ≤ 100) : Does Tryz.prog 113 [v] w (RetO w XR p) := by
  refine Zt Tryz.func113 rfl Tryz.results113 Tryz.ntmps113 rfl ?_
  focus
    refine Gu<|Vp rfl<|Gn<|Gu<|Vu (XSl 3 XInt) rfl Xq Kt ?_; rintro b1 w1 hb1 b1lt E1 hO1; refine Vp rfl<|Gn<|Gs<|Gu<|Zv rfl<|Gn<|Gy ?_
  refine Vc [3, 4, 6, 7, 8, 9, 10, 11, 12, 13, 14, 15, 16, 17, 18, 19, 20] (fun ((k, u) : Nat × Value) => [(4, .int .i64 (k : Nat)), (3, u)]) (fun (k, u) w' => Ext w w' ∧ k ≤ p.length ∧ Owned w.heap.size XR w' u (p.take k)) (fun x => p.length - x.1) (0, .slice (some ⟨b1, 0, none⟩) 0 0) Kg ?_ ?_
  · exact ⟨by exact E1, Nat.zero_le _, by simpa using hO1⟩
  clear hO1
  rintro ⟨k, u⟩ ρj w2 ⟨E2, hk, hO1⟩
  have hlt' : (p.take k).length = k := by simp; omega
  by_cases hlt : k < p.length
  · have hrl := hr _ (List.getElem_mem hlt)
    have heldS : w = w := rfl
    focus
      have szE2 := E2.size; refine Gs<|Gu<|Gz rfl<|Zb v rfl<|Zj Kp rfl h<|Zn rfl<|Gn<|Gq rfl (fun h1 => ?_) (fun h1 => ?_); refine Za<|Gs<|Gy<|Zm<|Zb u rfl<|Vu XInt rfl Xn Kl ?_; rintro b2 w3 hb2 b2lt E3 hO2; have hs2 := E3.size; refine Zb v rfl<|Gz rfl<|Vd Kp Kt Kx rfl (fun _ => rfl) rfl h exq rfl Kf ?_; rintro _ u1 hu1; refine Wo_appS rfl Xn rfl rfl (Mono.mono (E2.trans E3) hu1) hO2.toB Kf Ka Ka (E2.trans E3) Ka ?_; have hT1 := hO2.toB; rintro v1 w4 hO2 E4 M1; have hO1 := (hO1.toB.ext E3).moves M1 hT1 Ka; have szM1 := M1.1.size
      refine Yg rfl Kp Kt Jj rfl (OwnedB.isC hO2.toB) rfl ?_; rintro b3 w5 hb3 E6 hB1 hHb3; have hs4 := E6.size; refine Ya rfl Xq rfl rfl hB1 (hO1.ext E6) (hO2.toB.ext E6).o Ka Kf Ka Ka (E4.trans E6) Ka ?_; rintro v2 w6 hO1 E7 M2; refine Vm v2 rfl<|Gn<|Zm<|Gz rfl<|Zy rfl<|Zv rfl<|Gn ?_; rotate_left; (exfalso; omega)
    refine ⟨((k + 1, v2)), Kg, Kh, ?_, ?_⟩
    · refine ⟨by exact E7, Ka, ?_⟩
      rw [Ve _ _ hlt]
      exact hO1
    · simp only; omega
  · obtain rfl : k = p.length := by omega
    rw [List.take_length] at hO1
    focus
      refine Gs<|Gu<|Gz rfl<|Zb v rfl<|Zj Kp rfl h<|Zn rfl<|Gn<|Gq rfl (fun h1 => ?_) (fun h1 => ?_); (exfalso; omega); refine Va ?_; refine Zd ?_; refine Gs<|Zm<|Zb u rfl<|Vm u rfl<|Gn<|Zk ?_; exact ⟨E2, hO1.toB.o.mono Ka⟩
theorem l11Copy_ok (w : World) (u1 u2 : Value) (now : List (List Int)) (past : List (List (List Int))) (h1 : ESl Ints w u1 now) (h2 : ESl (ESl Ints) w u2 past) (hn : now.length ≤ 100 ∧ ∀ r ∈ now, r.length ≤ 100) (hpl : past.length ≤ 100) (hp : ∀ p ∈ past, p.length ≤ 100 ∧ ∀ r ∈ p, r.length ≤ 100) :
    Does Tryz.prog 60 [.agg #[u1, u2]] w (RetDk w 23 88 3 now past) := by
  have k1 : ∀ (w : World) (v : Value), ESl Ints w v now → Does Tryz.prog 113 [v] w (RetO w XR now) := fun w v h => l11Rows_ok w v now h hn.1 hn.2
  have k2 : ∀ (k : Nat) (hk : k < past.length) (w : World) (v : Value), ESl Ints w v past[k] → Does Tryz.prog 113 [v] w (RetO w XR past[k]) := fun k hk w v h => l11Rows_ok w v _ h (hp _ (List.getElem_mem hk)).1 (hp _ (List.getElem_mem hk)).2
  refine fn_of_Wc Tryz.func60 rfl Tryz.results60 Tryz.ntmps60 rfl Ks Ko ?_
  focus
    refine Gu<|Vl rfl rfl rfl ?_; rintro b1 w1 hb1 E1 hB1; have hlb1 := hB1.lt; refine Zq rfl Vj ?_; rintro b2 w2 hb2 E2 hB2; have hlb2 := hB2.lt; have hs2 := E2.size; refine Gn<|Gu<|Zg Kr Ku rfl<|Vh u1 Kv (hB1.ext E2) rfl<|Gv rfl (Vq (a := u1) Tryz.call113 rfl) (k1 _ _ ((Mono.mono exq h1))) ?_; rintro u3 w3 ⟨E3, hO1⟩; have ichO1 := OwnedB.isC (Owned.toB hO1); have hs3 := E3.size; refine Wo rfl (opv_buildF0 Vj rfl (OwnedB.isC hO1.toB))<|Zq rfl Vj ?_; rintro b3 w4 hb3 E4 hB3; have hlb3 := hB3.lt; have hs4 := E4.size; refine Xe rfl Ko rfl rfl Ke Ke hB3 Ka (((E1.trans E2).trans E3).trans E4) ?_; rintro w5 E5 hB3 K1 hz1
    have E6 := ((E2.trans E3).trans E4).wroteAt exq E5 K1 hz1 Ka; have szE6 := E6.size; have E7 := (E3.trans E4).wroteAt exq E5 K1 hz1 Ka; have szE7 := E7.size; have E8 := E4.wroteAt exq E5 K1 hz1 Ka; simp only [List.set] at hB3; have hB1 := (hB1.ext exq).of_heap (K1 _ Ka); have hB2 := (hB2.ext exq).of_heap (K1 _ Ka); have hO1 := (hO1.toB.ext E4).wrote K1 Ka; refine Gn<|Gs<|Gu<|Zv rfl<|Gn<|Gy ?_
  have hO0 : Owned w4.heap.size (XSl 23 XR) w5 (.slice none 0 0) ([] : List (List (List Int))) := Owned.nil
  have hN := hO1
  clear hO1 hB1 hB2 k1
  refine Vc [4, 9, 10, 11, 12, 13, 14, 15, 16, 17, 18, 19, 20, 21, 22, 23, 24, 25, 26] (fun ((k, u) : Nat × Value) => [(4, .int .i64 (k : Nat))]) (fun (k, u) w' => Ext w3 w' ∧ k ≤ past.length ∧ w4.heap.size ≤ w'.heap.size ∧ Blk w' b3 [u3, u] ∧ Owned w4.heap.size (XSl 23 XR) w' u (past.take k) ∧ OwnedB w2.heap.size w3.heap.size XR w' u3 now) (fun x => past.length - x.1) (0, .slice none 0 0) Kg ?_ ?_
  · exact ⟨by exact E8, Nat.zero_le _, Ka, hB3, by simpa using hO0, hN⟩
  clear hO0 hB3 hN
  rintro ⟨k, u⟩ ρj w6 ⟨E6, hk, hsz, hB4, hO1, hN⟩
  have icu : isCell u = true := OwnedB.isC hO1.toB
  have hlt' : (past.take k).length = k := by simp; omega
  by_cases hlt : k < past.length
  · have k2k := k2 k hlt
    have ht := Ve _ _ hlt
    have heldS : w = w := rfl
    focus
      have szE5 := E5.size; have szE4 := E4.size; refine Gs<|Gs<|Zm<|Gz rfl<|Zg Kr Kw rfl<|Vh u2 Jb (hB1.ext exq) rfl<|Zj Ja rfl h2<|Zn rfl<|Gn<|Gq rfl (fun h3 => ?_) (fun h3 => ?_); refine Za<|Gs<|Gy<|Qq (fun w' => Ext w w') Ym rfl Kb ?_; intro w7 E9 K2 hz2; have hs5 := E9.size; refine Qk 0 Kr Kw rfl rfl exq<|Qk 2 Kr Kw rfl rfl exq<|WtmI 4 rfl rfl exq<|Wha [1, 3]<|Gt rfl ?_ ?_; refine Vh u Jb (hB4.ext E9) rfl<|Gn ?_; refine ⟨exq, ?_⟩; refine Wha [3]<|Gt rfl ?_ ?_; refine Vh u2 Jb (hB1.ext exq) rfl<|Gn ?_; refine ⟨exq, ?_⟩
      refine Wh_get 5 6 rfl Kb Kb rfl rfl Kb Kb (fun _ => rfl) Ja Ku Kv rfl h2 (fun w' hw' => Ext.trans (Ext.refl _) hw') rfl Kf exq ?_; rintro _ u4 hu1; refine Wha [7]<|Gt rfl ?_ ?_; refine Gv rfl (Vq (a := u4) Tryz.call113 rfl) (k2k _ _ ((Mono.mono exq hu1))) ?_; rintro u5 w8 ⟨E10, hO2⟩; have hs6 := E10.size; refine Gn ?_; refine ⟨exq, ?_⟩; refine Wha [8]<|Gt rfl ?_ ?_; refine Yg rfl Ja Ku Jn rfl (OwnedB.isC hO2.toB) rfl ?_; rintro b4 w9 hb4 E11 hB5 hHb4; have hlb4 := hB5.lt; have hs7 := E11.size; refine Gn ?_; refine ⟨exq, ?_⟩; refine Wha [9]<|Gt rfl ?_ ?_
      refine Ya rfl el24 rfl rfl hB5 (hO1.toB.ext ((E9.trans E10).trans E11)) (hO2.toB.ext E11).o Ka Kf Ka Ka ((((((E1.trans E2).trans E3).trans E6).trans E9).trans E10).trans E11) Ka ?_; have hT1 := (hO1.toB.ext ((E9.trans E10).trans E11)); rintro v1 w10 hO1 E12 M1; have E15 := M1.ext hT1 (((E6.trans E9).trans E10).trans E11) Ka; have hB4 := (hB4.ext exq).moves M1 hT1 Ka; have hN := (hN.ext exq).moves M1 hT1 Ka; have szM1 := M1.1.size; refine Gn ?_; refine ⟨E12, ?_⟩; refine Qk 10 Kr Kw rfl rfl E12<|Wha [11]<|Gt rfl ?_ ?_; refine Yi (v := v1) rfl Kw rfl rfl (OwnedB.isC hO1.toB) hB4 Ki Ka E12 ?_; rintro w11 E16 hB4 K3 hz3; have E19 := E15.wroteAt E12 E16 K3 hz3 Ka; simp only [List.set] at hB4; have hO1 := hO1.toB.wrote K3 Ka
      have hN := hN.wrote K3 Ka; refine Gn ?_; refine ⟨E16, ?_⟩; refine Vn Kb ?_; refine Zm<|Gz rfl<|Zy rfl<|Zv rfl<|Gn ?_; rotate_left; exact Gw; exact Gw; exact Gw; exact Gw; exact Gw; refine Gt rfl ?_ ?_; refine Vh u2 Jb (hB1.ext exq) rfl<|Gn ?_; refine ⟨exq, ?_⟩; refine Wh_get 5 6 rfl Kb Kb rfl rfl Kb Kb (fun _ => rfl) Ja Ku Kv rfl h2 (fun w' hw' => Ext.trans (Ext.refl _) hw') rfl Kf exq ?_; rintro _ u4 hu1; refine Wha [1, 7]<|Gt rfl ?_ ?_; refine Vh u Jb (hB4.ext E9) rfl<|Gn ?_; refine ⟨exq, ?_⟩; refine Wha [7]<|Gt rfl ?_ ?_
      refine Gv rfl (Vq (a := u4) Tryz.call113 rfl) (k2k _ _ ((Mono.mono exq hu1))) ?_; rintro u5 w8 ⟨E10, hO2⟩; have hs6 := E10.size; refine Gn ?_; refine ⟨exq, ?_⟩; refine Wha [8]<|Gt rfl ?_ ?_; refine Yg rfl Ja Ku Jn rfl (OwnedB.isC hO2.toB) rfl ?_; rintro b4 w9 hb4 E11 hB5 hHb4; have hlb4 := hB5.lt; have hs7 := E11.size; refine Gn ?_; refine ⟨exq, ?_⟩; refine Wha [9]<|Gt rfl ?_ ?_; refine Ya rfl el24 rfl rfl hB5 (hO1.toB.ext ((E9.trans E10).trans E11)) (hO2.toB.ext E11).o Ka Kf Ka Ka ((((((E1.trans E2).trans E3).trans E6).trans E9).trans E10).trans E11) Ka ?_; have hT1 := (hO1.toB.ext ((E9.trans E10).trans E11)); rintro v1 w10 hO1 E12 M1; have E15 := M1.ext hT1 (((E6.trans E9).trans E10).trans E11) Ka
      have hB4 := (hB4.ext exq).moves M1 hT1 Ka; have hN := (hN.ext exq).moves M1 hT1 Ka; have szM1 := M1.1.size; refine Gn ?_; refine ⟨E12, ?_⟩; refine Qk 10 Kr Kw rfl rfl E12<|Wha [11]<|Gt rfl ?_ ?_; refine Yi (v := v1) rfl Kw rfl rfl (OwnedB.isC hO1.toB) hB4 Ki Ka E12 ?_; rintro w11 E16 hB4 K3 hz3; have E19 := E15.wroteAt E12 E16 K3 hz3 Ka; simp only [List.set] at hB4; have hO1 := hO1.toB.wrote K3 Ka; have hN := hN.wrote K3 Ka; refine Gn ?_; refine ⟨E16, ?_⟩; refine Vn Kb ?_; refine Zm<|Gz rfl<|Zy rfl<|Zv rfl<|Gn ?_; rotate_left; exact Gw; exact Gw; exact Gw; exact Gw; refine Gt rfl ?_ ?_
      refine Gv rfl (Vq (a := u4) Tryz.call113 rfl) (k2k _ _ ((Mono.mono exq hu1))) ?_; rintro u5 w8 ⟨E10, hO2⟩; have hs6 := E10.size; refine Gn ?_; refine ⟨exq, ?_⟩; refine Wha [1, 8]<|Gt rfl ?_ ?_; refine Vh u Jb (hB4.ext exq) rfl<|Gn ?_; refine ⟨exq, ?_⟩; refine Wha [8]<|Gt rfl ?_ ?_; refine Yg rfl Ja Ku Jn rfl (OwnedB.isC hO2.toB) rfl ?_; rintro b4 w9 hb4 E11 hB5 hHb4; have hlb4 := hB5.lt; have hs7 := E11.size; refine Gn ?_; refine ⟨exq, ?_⟩; refine Wha [9]<|Gt rfl ?_ ?_; refine Ya rfl el24 rfl rfl hB5 (hO1.toB.ext ((E9.trans E10).trans E11)) (hO2.toB.ext E11).o Ka Kf Ka Ka ((((((E1.trans E2).trans E3).trans E6).trans E9).trans E10).trans E11) Ka ?_
      have hT1 := (hO1.toB.ext ((E9.trans E10).trans E11)); rintro v1 w10 hO1 E12 M1; have E15 := M1.ext hT1 (((E6.trans E9).trans E10).trans E11) Ka; have hB4 := (hB4.ext exq).moves M1 hT1 Ka; have hN := (hN.ext exq).moves M1 hT1 Ka; have szM1 := M1.1.size; refine Gn ?_; refine ⟨E12, ?_⟩; refine Qk 10 Kr Kw rfl rfl E12<|Wha [11]<|Gt rfl ?_ ?_; refine Yi (v := v1) rfl Kw rfl rfl (OwnedB.isC hO1.toB) hB4 Ki Ka E12 ?_; rintro w11 E16 hB4 K3 hz3; have E19 := E15.wroteAt E12 E16 K3 hz3 Ka; simp only [List.set] at hB4; have hO1 := hO1.toB.wrote K3 Ka; have hN := hN.wrote K3 Ka; refine Gn ?_; refine ⟨E16, ?_⟩; refine Vn Kb ?_; refine Zm<|Gz rfl<|Zy rfl<|Zv rfl ?_
      refine Gn ?_; rotate_left; exact Gw; exact Gw; exact Gw; refine Gt rfl ?_ ?_; refine Yg rfl Ja Ku Jn rfl (OwnedB.isC hO2.toB) rfl ?_; rintro b4 w9 hb4 E11 hB5 hHb4; have hlb4 := hB5.lt; have hs7 := E11.size; refine Gn ?_; refine ⟨exq, ?_⟩; refine Wha [1]<|Gt rfl ?_ ?_; refine Vh u Jb (hB4.ext exq) rfl<|Gn ?_; refine ⟨exq, ?_⟩; refine Wha [9]<|Gt rfl ?_ ?_; refine Ya rfl el24 rfl rfl hB5 (hO1.toB.ext ((E9.trans E10).trans E11)) (hO2.toB.ext E11).o Ka Kf Ka Ka ((((((E1.trans E2).trans E3).trans E6).trans E9).trans E10).trans E11) Ka ?_; have hT1 := (hO1.toB.ext ((E9.trans E10).trans E11)); rintro v1 w10 hO1 E12 M1; have E15 := M1.ext hT1 (((E6.trans E9).trans E10).trans E11) Ka
      have hB4 := (hB4.ext exq).moves M1 hT1 Ka; have hN := (hN.ext exq).moves M1 hT1 Ka; have szM1 := M1.1.size; refine Gn ?_; refine ⟨E12, ?_⟩; refine Qk 10 Kr Kw rfl rfl E12<|Wha [11]<|Gt rfl ?_ ?_; refine Yi (v := v1) rfl Kw rfl rfl (OwnedB.isC hO1.toB) hB4 Ki Ka E12 ?_; rintro w11 E16 hB4 K3 hz3; have E19 := E15.wroteAt E12 E16 K3 hz3 Ka; simp only [List.set] at hB4; have hO1 := hO1.toB.wrote K3 Ka; have hN := hN.wrote K3 Ka; refine Gn ?_; refine ⟨E16, ?_⟩; refine Vn Kb ?_; refine Zm<|Gz rfl<|Zy rfl<|Zv rfl<|Gn ?_; rotate_left; exact Gw; exact Gw; exact Gw; exact Gw; exact Gw; exact Gw; (exfalso; omega)
    · refine ⟨((k + 1, v1)), Kg, Kh, ?_, ?_⟩
      · refine ⟨by exact E19, Ka, Ka, hB4, ?_, hN⟩
        rw [ht]; exact hO1.o
      · simp only; omega
    · refine ⟨((k + 1, v1)), Kg, Kh, ?_, ?_⟩
      · refine ⟨by exact E19, Ka, Ka, hB4, ?_, hN⟩
        rw [ht]; exact hO1.o
      · simp only; omega
    · refine ⟨((k + 1, v1)), Kg, Kh, ?_, ?_⟩
      · refine ⟨by exact E19, Ka, Ka, hB4, ?_, hN⟩
        rw [ht]; exact hO1.o
      · simp only; omega
    · refine ⟨((k + 1, v1)), Kg, Kh, ?_, ?_⟩
      · refine ⟨by exact E19, Ka, Ka, hB4, ?_, hN⟩
        rw [ht]; exact hO1.o
      · simp only; omega
  · obtain rfl : k = past.length := by omega
    rw [List.take_length] at hO1
    focus
      have szE6 := E6.size; have szE4 := E4.size; refine Gs<|Gs<|Zm<|Gz rfl<|Zg Kr Kw rfl<|Vh u2 Jb (hB1.ext exq) rfl<|Zj Ja rfl h2<|Zn rfl<|Gn<|Gq rfl (fun h3 => ?_) (fun h3 => ?_); (exfalso; omega); refine Va ?_; refine Zd ?_; refine Gu<|Vv Ks Ko hB4 rfl<|Xe rfl Ko rfl rfl Ke Ke (hB2.ext (E3.trans E6)) Ka (((E1.trans E2).trans E3).trans E6) ?_; rintro w7 E9 hB2 K2 hz2; have hN := hN.wrote K2 Ka; have hO1 := hO1.toB.wrote K2 Ka; refine Gn<|Zk ?_
    refine ⟨b2, u3, u, rfl, Kd, u3, u, w3.heap.size, rfl, by exact E9, ?_, hO1.o.mono Ka, Ka, Ka⟩
    exact hN.wide Ka (Nat.le_refl _)
end Go.Proofs.YtbgpppaljpngmaaGreatDoor
namespace Go.Proofs.YtbgpppaljpngmaaGreatDoor
open Go.Hs
set_option maxRecDepth 10000
set_option maxHeartbeats 4000000
set_option linter.unusedVariables false
set_option linter.unusedSimpArgs false
theorem spec_ReadPicture_ok (w : World) (s : List UInt8) (hs : s.length ≤ 1048576) : Does Tryz.prog 122 [str s] w (RetOB w XR ((rdP s).getD []) (rdP s).isSome) := by
  obtain ⟨ps, hps⟩ : ∃ ps, ps = cutB 47 s := ⟨_, rfl⟩
  have k1 : ∀ w, Does Tryz.prog 70 [str s, .int .u8 47] w (RetO w XS ps) := fun w => hps ▸ l1Cut_ok w s 47 hs
  have hpl : ps.length ≤ 1048577 := by rw [hps, cutB_len]; have := List.count_le_length (a := (47 : UInt8)) (l := s); omega
  have hpe : ∀ (k : Nat) (hk : k < ps.length), ps[k].length ≤ 1048576 := fun k hk => by
    have : ps[k] ∈ cutB 47 s := hps ▸ List.getElem_mem hk
    have := Sd s.length s (Nat.le_refl _) _ this; omega
  refine Uc Tryz.func122 rfl Tryz.results122 Tryz.ntmps122 rfl ?_
  focus
    refine Gu<|Vp rfl<|Zh rfl<|Gn<|Gu<|Vu (XSl 3 XInt) rfl Xq Kt ?_; rintro b1 w1 hb1 b1lt E1 hO1; refine Vp rfl<|Gn<|Gu<|Ro rfl<|Gv rfl (Zw (a := .string _) (b := .int _ _) Tryz.call70 rfl rfl) (k1 _) ?_; rintro u1 w2 ⟨E2, hO2⟩; refine Vm u1 rfl<|Gn<|Gs<|Gu<|Zv rfl<|Gn<|Gy ?_
  have hBe : Besides (Value.ownBlock (.slice (some ⟨b1, 0, none⟩) 0 0)) Strs w2 u1 ps := Besides.start hO1 hO2.above
  refine Vc [2, 3, 4, 6, 7, 8, 9, 13, 14, 15, 16, 17, 18, 19, 20, 21, 22, 23, 24, 25, 26, 27, 28, 29, 30, 31, 32, 33, 34, 35, 36, 37, 38, 39, 40, 41, 42, 43, 44, 45, 46, 47, 48, 49, 50, 51, 52] (fun (k, u) => [(6, .int .i64 (k : Nat)), (4, u)]) (fun (k, u) w' => Ext w w' ∧ k ≤ ps.length ∧ Owned w.heap.size XR w' u ((ps.take k).map (rowB ps.length)) ∧ Besides u.ownBlock Strs w' u1 ps ∧ ∀ x ∈ ps.take k, inR ps.length x) (fun x => ps.length - x.1) (0, .slice (some ⟨b1, 0, none⟩) 0 0) Kg ?_ ?_
  · exact ⟨E1.trans E2, Nat.zero_le _, hO1.ext E2, hBe, Ki⟩
  clear hO1 hO2 hBe
  rintro ⟨k, u⟩ ρj w3 ⟨E3, hk, hO3, hBe, hin⟩
  by_cases hkl : k < ps.length
  · have hpk := hpe k hkl
    focus
      have szE3 := E3.size; refine Gs<|Gu<|Gz rfl<|Zb u1 rfl<|Zj Jg rfl (Besides.here hBe)<|Zn rfl<|Gn<|Gq rfl (fun h1 => ?_) (fun h1 => ?_); refine Za<|Gs<|Gy<|Gu<|Zb u1 rfl<|Zj Jg rfl (Besides.here hBe)<|Rk rfl Xn rfl Ka ?_; rintro b2 w4 hb2 b2lt E4 hO1; refine Vp rfl<|Gn<|Gs<|Gu<|Zv rfl<|Gn<|Gy ?_; rotate_left; (exfalso; omega)
    refine Vc [2, 3, 8, 9, 22, 23, 24, 25, 26, 27, 28, 29, 30, 31, 32, 33, 34, 35, 36, 37, 38, 39, 40, 41, 42, 43, 44, 45, 46, 47, 48] (fun (j : Nat) => [(8, .int .i64 (j : Nat))]) (fun j w' => Ext w3 w' ∧ j ≤ ps[k].length ∧ Owned w3.heap.size XI w' (.slice (some ⟨b2, 0, none⟩) ps.length ps.length) (rowB ps.length (ps[k].take j)) ∧ inR ps.length (ps[k].take j)) (fun j => ps[k].length - j) 0 Kg ?_ ?_
    · refine ⟨Kd, Nat.zero_le _, ?_, fun c hc => by cases hc⟩
      rw [List.take_zero, rowB_nil]
      simpa using hO1
    clear hO1
    rintro j ρk w5 ⟨E5, hj, hO5, hir⟩
    have hrl : (rowB ps.length (ps[k].take j)).length = ps.length := Qv
    by_cases hjl : j < ps[k].length
    · have hc8 : (ps[k].getD j 0).toNat < 256 := UInt8.toNat_lt _
      have hcd : ps[k].getD j 0 = ps[k][j] := Vb hjl
      have hts : ps[k].take (j + 1) = ps[k].take j ++ [ps[k].getD j 0] := by rw [hcd]; exact List.take_succ_eq_append_getElem hjl
      have hmem : ps[k] ∈ cutB 47 s := hps ▸ List.getElem_mem hkl
      have hnl : (ps.length : Int) = (cutB 47 s).length := by rw [hps]
      by_cases hr : 48 ≤ (ps[k].getD j 0).toNat ∧ (ps[k].getD j 0).toNat < 48 + ps.length
      · focus
          have szE5 := E5.size; refine Gs<|Gu<|Gz rfl<|Zb u1 rfl<|Gz rfl<|Vd Jg Ky Jd rfl (fun _ => rfl) rfl (Besides.here hBe) E5 rfl Kf ?_; rintro _ _ ⟨rfl, -⟩; refine Wo rfl (Qy Jr rfl)<|Zn rfl<|Gn<|Gq rfl (fun h2 => ?_) (fun h2 => ?_); refine Za<|Gs<|Gy<|Gu<|Zb u1 rfl<|Gz rfl<|Vd Jg Ky Jd rfl (fun _ => rfl) rfl (Besides.here hBe) E5 rfl Kf ?_; rintro _ _ ⟨rfl, -⟩; refine Gz rfl<|Wo rfl (Ux Jr rfl rfl Ka) ?_; refine Wo rfl (Uj Jx Gd rfl Ka) ?_; refine Qb rfl<|Zv rfl<|Gn<|Gs<|Gu<|Gz rfl<|Zb u1 rfl ?_
          refine Zj Jg rfl (Besides.here hBe)<|Qb rfl<|Gv rfl (opc3 (a := .int _ _) (b := .int _ _) (c := .int _ _) Jq rfl rfl rfl) (Uy _ _ _ _) ?_; rintro _ w6 ⟨rfl, E6⟩; refine Vo rfl<|Gn<|Vf rfl (fun h3 => ?_) (fun h3 => ?_); (exfalso; omega); refine Za<|Zm<|Xi rfl<|Gz rfl<|Wo rfl (Yn Km Kl rfl rfl Ka) ?_; refine Wo_set rfl Kl rfl rfl (hO5.toB.ext E6) Kf Owned.int (Nat.le_refl _) Ka ?_; rintro w7 hO5 On1 K1 hz1; have E7 := On1.ext1 ((E3.trans E5).trans E6) Ka; have E8 := On1.ext1 (E5.trans E6) Ka; have szE8 := E8.size; have hO3 := (hO3.toB.ext exq).wrote K1 Ka; have hs5 := On1.size; refine Gn<|Zm<|Gz rfl<|Zy rfl<|Zv rfl<|Gn ?_; rotate_left
          (exfalso; omega)
        · refine ⟨(j + 1), Kg, Kh, ?_, ?_⟩
          · refine ⟨Kd, Ka, ?_, ?_⟩
            · rw [rowB_set (c := ps[k].getD j 0) Ka Ka, ← hts] at hO5
              exact hO5
            · rw [hts]
              intro c hc
              rcases List.mem_append.1 hc with hc | hc
              · exact hir c hc
              · obtain rfl := List.mem_singleton.1 hc; exact hr
          · omega
        all_goals omega
      · rw [rd_no1 hmem (List.getElem_mem hjl) (fun h => hr (by rw [hcd]; omega))]
        focus
          have szE5 := E5.size; refine Gs<|Gu<|Gz rfl<|Zb u1 rfl<|Gz rfl<|Vd Jg Ky Jd rfl (fun _ => rfl) rfl (Besides.here hBe) E5 rfl Kf ?_; rintro _ _ ⟨rfl, -⟩; refine Wo rfl (Qy Jr rfl)<|Zn rfl<|Gn<|Gq rfl (fun h2 => ?_) (fun h2 => ?_); refine Za<|Gs<|Gy<|Gu<|Zb u1 rfl<|Gz rfl<|Vd Jg Ky Jd rfl (fun _ => rfl) rfl (Besides.here hBe) E5 rfl Kf ?_; rintro _ _ ⟨rfl, -⟩; refine Gz rfl<|Wo rfl (Ux Jr rfl rfl Ka) ?_; refine Wo rfl (Uj Jx Gd rfl Ka) ?_; refine Qb rfl<|Zv rfl<|Gn<|Gs<|Gu<|Gz rfl<|Zb u1 rfl ?_
          refine Zj Jg rfl (Besides.here hBe)<|Qb rfl<|Gv rfl (opc3 (a := .int _ _) (b := .int _ _) (c := .int _ _) Jq rfl rfl rfl) (Uy _ _ _ _) ?_; rintro _ w6 ⟨rfl, E6⟩; have hs4 := E6.size; refine Vo rfl<|Gn<|Vf rfl (fun h3 => ?_) (fun h3 => ?_); refine Gu<|Vu (XSl 3 XInt) rfl Xq Kt ?_; rintro b3 w7 hb3 b3lt E7 hO1; refine Vp rfl<|Zh rfl<|Gn<|Zk ?_; refine Zo (v := .tuple #[.slice _ _ _, .bool _]) rfl ?_; exact ⟨_, rfl, exq, hO1.toB.o.mono Ka⟩; (exfalso; omega); (exfalso; omega)
        all_goals omega
    · obtain rfl : j = ps[k].length := by omega
      rw [List.take_length] at hO5 hir
      focus
        have szE5 := E5.size; have szE3 := E3.size; refine Gs<|Gu<|Gz rfl<|Zb u1 rfl<|Gz rfl<|Vd Jg Ky Jd rfl (fun _ => rfl) rfl (Besides.here hBe) E5 rfl Kf ?_; rintro _ _ ⟨rfl, -⟩; refine Wo rfl (Qy Jr rfl)<|Zn rfl<|Gn<|Gq rfl (fun h2 => ?_) (fun h2 => ?_); (exfalso; omega); refine Va ?_; refine Zd ?_; refine Zm<|Zb u rfl<|Xi rfl<|Vx (ps := [(0, .slice _ _ _)]) (cs := [_]) rfl Kp Kt Jj rfl rfl rfl rfl ?_; rintro b3 w6 hb3 E6 hB1; have hs4 := E6.size; refine Ya rfl Xq rfl rfl hB1 (hO3.toB.ext (E5.trans E6)) (hO5.toB.ext E6).o Ka Kf Ka Ka ((E3.trans E5).trans E6) Ka ?_
        rintro v1 w7 hO3 E7 M1; have hBe := (hBe.ext exq).moves M1; refine Wo rfl (Yf (v := v1) rfl)<|Gn<|Yw rfl<|Wo rfl (Zs (v := .int _ _) rfl)<|Wo rfl (Ye rfl rfl Ka) ?_; refine Wo rfl (Yf (v := .int _ _) rfl)<|Gn ?_
      refine ⟨((k + 1, v1)), Kg, Kh, ?_, ?_⟩
      · have hts : ps.take (k + 1) = ps.take k ++ [ps[k]] := List.take_succ_eq_append_getElem hkl
        refine ⟨Kd, Ka, ?_, Kd, ?_⟩
        · rw [hts, List.map_append]; exact hO3
        · rw [hts]
          intro x hx
          rcases List.mem_append.1 hx with hx | hx
          · exact hin x hx
          · obtain rfl := List.mem_singleton.1 hx; exact hir
      · simp only; omega
  · obtain rfl : k = ps.length := by omega
    have eM : ps.map (rowB ps.length) = rdM s := by rw [hps]; rfl
    rw [List.take_length, eM] at hO3
    clear k1
    by_cases hP : Pic (rdM s)
    · by_cases hT : txt (rdM s) = s
      · rw [rd_yes hP hT]
        have k2 : ∀ w v, ESl Ints w v (rdM s) → Does Tryz.prog 115 [v] w (Ret w (.bool true)) := fun w v h => by
          have := Yq w v _ h
          rwa [decide_eq_true hP] at this
        have k3 : ∀ w v, ESl Ints w v (rdM s) → Does Tryz.prog 62 [v] w (Ret w (str s)) := fun w v h => by
          have := Yj w v _ h
          rwa [if_pos hP, hT] at this
        focus
          refine Gs<|Gu<|Gz rfl<|Zb u1 rfl<|Zj Jg rfl (Besides.here hBe)<|Zn rfl<|Gn<|Gq rfl (fun h1 => ?_) (fun h1 => ?_); (exfalso; omega); refine Va ?_; refine Zd ?_; refine Gs<|Gu<|Zb u rfl<|Gv rfl (Vq (a := u) Jm rfl) (k2 _ _ ((Owned.read hO3))) ?_; rintro _ w4 ⟨rfl, E4⟩; refine Vo rfl<|Yc rfl (Zs (v := .bool _) rfl) (fun h2 => ?_) (fun h2 => ?_); contradiction; refine Zb u rfl<|Gv rfl (Vq (a := u) Jh rfl) (k3 _ _ ((Mono.mono E4 (Owned.read hO3)))) ?_; rintro _ w5 ⟨rfl, E5⟩; refine Ro rfl<|Wo rfl (Xz rfl rfl)<|Vg rfl<|Gn<|Vf rfl (fun h3 => ?_) (fun h3 => ?_); contradiction; refine Za<|Gu<|Zb u rfl<|Vm u rfl<|Zh rfl<|Gn<|Zk ?_; refine Zo (v := .tuple #[u, .bool _]) rfl ?_
          exact ⟨_, rfl, exq, (hO3.toB.ext exq).o.mono Ka⟩
      · rw [rd_no3 hT]
        have k2 : ∀ w v, ESl Ints w v (rdM s) → Does Tryz.prog 115 [v] w (Ret w (.bool true)) := fun w v h => by
          have := Yq w v _ h
          rwa [decide_eq_true hP] at this
        have k3 : ∀ w v, ESl Ints w v (rdM s) → Does Tryz.prog 62 [v] w (Ret w (str (txt (rdM s)))) := fun w v h => by
          have := Yj w v _ h
          rwa [if_pos hP] at this
        focus
          have szE3 := E3.size; refine Gs<|Gu<|Gz rfl<|Zb u1 rfl<|Zj Jg rfl (Besides.here hBe)<|Zn rfl<|Gn<|Gq rfl (fun h1 => ?_) (fun h1 => ?_); (exfalso; omega); refine Va ?_; refine Zd ?_; refine Gs<|Gu<|Zb u rfl<|Gv rfl (Vq (a := u) Jm rfl) (k2 _ _ ((Owned.read hO3))) ?_; rintro _ w4 ⟨rfl, E4⟩; have hs3 := E4.size; refine Vo rfl<|Yc rfl (Zs (v := .bool _) rfl) (fun h2 => ?_) (fun h2 => ?_); contradiction; refine Zb u rfl<|Gv rfl (Vq (a := u) Jh rfl) (k3 _ _ ((Mono.mono E4 (Owned.read hO3)))) ?_; rintro _ w5 ⟨rfl, E5⟩; have hs4 := E5.size; refine Ro rfl<|Wo rfl (Xz rfl rfl)<|Vg rfl<|Gn<|Vf rfl (fun h3 => ?_) (fun h3 => ?_); refine Gu<|Vu (XSl 3 XInt) rfl Xq Kt ?_
          rintro b2 w6 hb2 b2lt E6 hO1; refine Vp rfl<|Zh rfl<|Gn<|Zk ?_; refine Zo (v := .tuple #[.slice _ _ _, .bool _]) rfl ?_; exact ⟨_, rfl, exq, hO1.toB.o.mono Ka⟩; contradiction
    · rw [rd_no2 hP]
      have k2 : ∀ w v, ESl Ints w v (rdM s) → Does Tryz.prog 115 [v] w (Ret w (.bool false)) := fun w v h => by
        have := Yq w v _ h
        rwa [decide_eq_false hP] at this
      focus
        have szE3 := E3.size; refine Gs<|Gu<|Gz rfl<|Zb u1 rfl<|Zj Jg rfl (Besides.here hBe)<|Zn rfl<|Gn<|Gq rfl (fun h1 => ?_) (fun h1 => ?_); (exfalso; omega); refine Va ?_; refine Zd ?_; refine Gs<|Gu<|Zb u rfl<|Gv rfl (Vq (a := u) Jm rfl) (k2 _ _ ((Owned.read hO3))) ?_; rintro _ w4 ⟨rfl, E4⟩; have hs3 := E4.size; refine Vo rfl<|Yc rfl (Zs (v := .bool _) rfl) (fun h2 => ?_) (fun h2 => ?_); refine Gp rfl<|Gp rfl<|Gp rfl<|Gp rfl<|Vz rfl<|Gn<|Yb rfl ?_; refine Gu<|Vu (XSl 3 XInt) rfl Xq Kt ?_; rintro b2 w5 hb2 b2lt E5 hO1; refine Vp rfl<|Zh rfl<|Gn<|Zk ?_; refine Zo (v := .tuple #[.slice _ _ _, .bool _]) rfl ?_; exact ⟨_, rfl, exq, hO1.toB.o.mono Ka⟩; contradiction
end Go.Proofs.YtbgpppaljpngmaaGreatDoor
namespace Go.Proofs.YtbgpppaljpngmaaGreatDoor
open Go.Hs
set_option maxRecDepth 10000
set_option maxHeartbeats 4000000
set_option linter.unusedVariables false
set_option linter.unusedSimpArgs false
theorem Vy : Flat Tryz.prog 48 [.int .i64 0, str [], .int .i64 0] := ⟨_, Tryz.underlying48, fun _ => Kb, fun _ => Kb⟩
theorem Qr {ρ : Env} {w : World} {x y : Operand} {t' ty : TypeId} {k n k' n' : Int} {a b : List UInt8} (hx : evalE ρ x = .agg #[.int .i64 k, str a, .int .i64 n]) (hy : evalE ρ y = .agg #[.int .i64 k', str b, .int .i64 n']) :
    OpV Tryz.prog (.binOp .eql 48 x y t') ty ρ w (.bool (decide ((⟨k, a, n⟩ : Deed) = ⟨k', b, n'⟩))) := by
  have u3 := Tryz.underlying3
  have a3 := Tryz.isAgg3
  have z3 := Tryz.sizeOf3
  have u9 := Tryz.underlying9
  have a9 := Tryz.isAgg9
  have z9 := Tryz.sizeOf9
  have hS : Tryz.prog.underlying 48 = some (.struct (Tryz.prog.fieldsOf 48)) := Kb
  have hp : Tryz.prog.stoodInHeld 48 = false := Kb
  have hg : Tryz.prog.eqGuardType Tryz.prog.depth 48 = false := Kb
  have e : ((binOp .eql 48 (.agg #[.int .i64 k, str a, .int .i64 n]) (.agg #[.int .i64 k', str b, .int .i64 n'])).run Tryz.prog w) = .ok (.bool (decide ((⟨k, a, n⟩ : Deed) = ⟨k', b, n'⟩))) w := by
    rw [run_eql_struct, show (10000 : Nat) = 9999 + 1 from rfl, run_equalIn_agg w 9999 48 _ _ hS hp]
    simp only [Program.fieldsOf, Tryz.underlying48]
    go_simp
    by_cases h1 : k = k' <;> by_cases h2 : a = b <;> by_cases h3 : n = n' <;> simp [h1, h2, h3]
  simp [OpV, execOp, hx, hy, run_eqGuard_agg, hg, e]
end Go.Proofs.YtbgpppaljpngmaaGreatDoor
namespace Go.Proofs.YtbgpppaljpngmaaGreatDoor
open Go.Hs
set_option maxRecDepth 10000
set_option maxHeartbeats 4000000
set_option linter.unusedVariables false
set_option linter.unusedSimpArgs false
open Classical in
theorem l11Made_ok (w : World) (v : Value) (p : List (List Int)) (h : ESl Ints w v p) (hp : Pic p) (k n : Int) (t : List UInt8) (ht : t.length ≤ 1048576) :
    Does Tryz.prog 93 [v, .agg #[.int .i64 k, str t, .int .i64 n]] w (RetOB w XR (og (madeV p ⟨k, t, n⟩)) (madeV p ⟨k, t, n⟩).isSome) := by
  have hle := h.le
  have hp1 := hp.1
  have hp5 := hp.2.1
  have hN : Nod p (0 : Nat) := ⟨hp, Kc, Ka⟩
  obtain ⟨Q, hQ⟩ : ∃ Q, Q = (rdP t).getD [] := ⟨_, rfl⟩
  obtain ⟨B, hB⟩ : ∃ B, B = (rdP t).isSome := ⟨_, rfl⟩
  obtain ⟨M, hM⟩ : ∃ M, M = madeV p ⟨k, t, n⟩ := ⟨_, rfl⟩
  rw [← hM]
  have k0 : ∀ w, Does Tryz.prog 122 [str t] w (RetOB w XR Q B) := fun w => hQ ▸ hB ▸ spec_ReadPicture_ok w t ht
  refine Uc Tryz.func93 rfl Tryz.results93 Tryz.ntmps93 rfl ?_
  by_cases e0 : k = 0
  · subst e0
    by_cases e : t = [] ∧ n = 0
    · obtain ⟨rfl, rfl⟩ := e
      have hm : M = pairV p 0 p 0 := hM.trans (by simp [madeV])
      rw [hm]
      have k1 : ∀ (w : World) (v u : Value), ESl Ints w v p → ESl Ints w u p → Does Tryz.prog 141 [v, .int .i64 0, u, .int .i64 0] w (RetOB w XR (og (pairV p 0 p 0)) (pairV p 0 p 0).isSome) := fun w v u h1 h2 => PairOf_ok w v u p p h1 h2 0 0 hN hN
      focus
        refine Gu<|Vl rfl rfl rfl ?_; rintro b1 w1 hb1 E1 hB1; have hlb1 := hB1.lt; refine Vp rfl<|Zh rfl<|Gn<|Gu<|Zg Kq Ky rfl<|Xs Jd hB1 rfl<|Gv rfl (Vq (a := .string _) Jl rfl) (k0 _) ?_; rintro _ w2 ⟨u1, rfl, E2, hO1⟩; have hs2 := E2.size; refine Xf rfl<|Xk u1 rfl<|Yp rfl<|Vm u1 rfl<|Zh rfl<|Gn<|Gs<|Gy<|Gu<|Zg Kq Kl rfl<|Vk Kn (hB1.ext E2) rfl<|Zu rfl<|Zx rfl (fun h1 => ?_) (fun h1 => ?_); refine Zg Kq Ky rfl<|Xs Jd (hB1.ext E2) rfl<|Wo rfl (Xc rfl rfl)<|Vz rfl<|Zx rfl (fun h2 => ?_) (fun h2 => ?_); refine Zg Kq Kl rfl ?_
        refine Vk Kn (hB1.ext E2) rfl<|Zu rfl<|Vz rfl<|Zh rfl<|Gn<|Gq rfl (fun h3 => ?_) (fun h3 => ?_); refine Gu<|Zb v rfl<|Zb v rfl<|Gv rfl (Rh (a := v) (b := .int _ _) (c := v) (d := .int _ _) Tryz.call141 rfl rfl rfl rfl) (k1 _ _ _ ((Mono.mono exq h)) ((Mono.mono exq h))) ?_; rintro _ w3 ⟨u2, rfl, E3, hO2⟩; refine Xk u2 rfl<|Yp rfl<|Vm u2 rfl<|Zh rfl<|Gn<|Zk ?_; refine Zo (v := .tuple #[u2, .bool _]) rfl ?_; exact ⟨_, rfl, exq, hO2.toB.o.mono Ka⟩; contradiction; contradiction; contradiction
    · have hm : M = none := hM.trans (by simp only [madeV]; rw [if_neg (fun h => e ⟨h.2.1, h.2.2⟩), if_neg (fun h => absurd h.1 Kc), if_neg (fun h => absurd h.1 Kc), if_neg (fun h => absurd h.1 Kc)])
      rw [hm, show og none = [] from rfl, show (none : Option (List (List Int))).isSome = false from rfl]
      by_cases et : t = []
      · have en : ¬ n = 0 := fun h => e ⟨et, h⟩
        subst et
        focus
          refine Gu<|Vl rfl rfl rfl ?_; rintro b1 w1 hb1 E1 hB1; have hlb1 := hB1.lt; refine Vp rfl<|Zh rfl<|Gn<|Gu<|Zg Kq Ky rfl<|Xs Jd hB1 rfl<|Gv rfl (Vq (a := .string _) Jl rfl) (k0 _) ?_; rintro _ w2 ⟨u1, rfl, E2, hO1⟩; have hs2 := E2.size; refine Xf rfl<|Xk u1 rfl<|Yp rfl<|Vm u1 rfl<|Zh rfl<|Gn<|Gs<|Gy<|Gu<|Zg Kq Kl rfl<|Vk Kn (hB1.ext E2) rfl<|Zu rfl<|Zx rfl (fun h1 => ?_) (fun h1 => ?_); refine Zg Kq Ky rfl<|Xs Jd (hB1.ext E2) rfl<|Wo rfl (Xc rfl rfl)<|Vz rfl<|Zx rfl (fun h2 => ?_) (fun h2 => ?_); refine Zg Kq Kl rfl ?_
          refine Vk Kn (hB1.ext E2) rfl<|Zu rfl<|Vz rfl<|Zh rfl<|Gn<|Gq rfl (fun h3 => ?_) (fun h3 => ?_); contradiction; refine Gu<|Zg Kq Kl rfl<|Vk Kn (hB1.ext E2) rfl<|Zu rfl<|Zx rfl (fun h4 => ?_) (fun h4 => ?_); contradiction; refine Gp rfl<|Vg rfl<|Vr rfl<|Gp rfl<|Gp rfl<|Gp rfl<|Vg rfl<|Zh rfl<|Gn<|Ze rfl ?_; refine Gu<|Zg Kq Kl rfl<|Vk Kn (hB1.ext E2) rfl<|Zu rfl<|Zx rfl (fun h5 => ?_) (fun h5 => ?_); contradiction; refine Gp rfl<|Vg rfl<|Vr rfl<|Gp rfl<|Gp rfl<|Gp rfl<|Vg rfl<|Zh rfl<|Gn<|Ze rfl ?_
          refine Gs<|Yl Ym Kb rfl ?_; refine Xb Kq Kl rfl<|Yd (v := .int _ _) rfl (fun w' hw' => Zz Kn rfl (((hB1.ext E2).ext hw').cell rfl)) ?_; refine Ue rfl<|Xd rfl (fun h6 => ?_) (fun h6 => ?_); contradiction; refine Gx rfl<|Gx rfl<|Gx rfl<|Ub rfl<|Uq rfl<|Gx rfl<|Gx rfl<|Gx rfl<|Gx rfl<|Gx rfl<|Gx rfl<|Ub rfl<|Uq rfl<|Gx rfl<|Gx rfl<|Gx rfl<|Gx rfl<|Gx rfl<|Gx rfl<|Gx rfl<|Gx rfl<|Ub rfl<|WqaB rfl<|Yk (fun w3 E3 => ?_); have hs3 := E3.size; refine Ze rfl ?_; refine Za<|Gu<|Vu (XSl 3 XInt) rfl Xq Kt ?_; rintro b2 w4 hb2 b2lt E4 hO2; refine Vp rfl<|Zh rfl<|Gn ?_
          refine Zk ?_; refine Zo (v := .tuple #[.slice _ _ _, .bool _]) rfl ?_; exact ⟨_, rfl, exq, hO2.toB.o.mono Ka⟩; contradiction; contradiction
      · focus
          refine Gu<|Vl rfl rfl rfl ?_; rintro b1 w1 hb1 E1 hB1; have hlb1 := hB1.lt; refine Vp rfl<|Zh rfl<|Gn<|Gu<|Zg Kq Ky rfl<|Xs Jd hB1 rfl<|Gv rfl (Vq (a := .string _) Jl rfl) (k0 _) ?_; rintro _ w2 ⟨u1, rfl, E2, hO1⟩; have hs2 := E2.size; refine Xf rfl<|Xk u1 rfl<|Yp rfl<|Vm u1 rfl<|Zh rfl<|Gn<|Gs<|Gy<|Gu<|Zg Kq Kl rfl<|Vk Kn (hB1.ext E2) rfl<|Zu rfl<|Zx rfl (fun h1 => ?_) (fun h1 => ?_); refine Zg Kq Ky rfl<|Xs Jd (hB1.ext E2) rfl<|Wo rfl (Xc rfl rfl)<|Vz rfl<|Zx rfl (fun h2 => ?_) (fun h2 => ?_); contradiction; refine Gp rfl<|Gp rfl<|Gp rfl ?_
          refine Vg rfl<|Zh rfl<|Gn<|Ze rfl ?_; refine Gu<|Zg Kq Kl rfl<|Vk Kn (hB1.ext E2) rfl<|Zu rfl<|Zx rfl (fun h3 => ?_) (fun h3 => ?_); contradiction; refine Gp rfl<|Vg rfl<|Vr rfl<|Gp rfl<|Gp rfl<|Gp rfl<|Vg rfl<|Zh rfl<|Gn<|Ze rfl ?_; refine Gu<|Zg Kq Kl rfl<|Vk Kn (hB1.ext E2) rfl<|Zu rfl<|Zx rfl (fun h4 => ?_) (fun h4 => ?_); contradiction; refine Gp rfl<|Vg rfl<|Vr rfl<|Gp rfl<|Gp rfl<|Gp rfl<|Vg rfl<|Zh rfl<|Gn<|Ze rfl ?_; refine Gs<|Yl Ym Kb rfl ?_; refine Xb Kq Kl rfl ?_
          refine Yd (v := .int _ _) rfl (fun w' hw' => Zz Kn rfl (((hB1.ext E2).ext hw').cell rfl)) ?_; refine Ue rfl<|Xd rfl (fun h5 => ?_) (fun h5 => ?_); contradiction; refine Gx rfl<|Gx rfl<|Gx rfl<|Ub rfl<|Uq rfl<|Gx rfl<|Gx rfl<|Gx rfl<|Gx rfl<|Gx rfl<|Gx rfl<|Ub rfl<|Uq rfl<|Gx rfl<|Gx rfl<|Gx rfl<|Gx rfl<|Gx rfl<|Gx rfl<|Gx rfl<|Gx rfl<|Ub rfl<|WqaB rfl<|Yk (fun w3 E3 => ?_); have hs3 := E3.size; refine Ze rfl ?_; refine Za<|Gu<|Vu (XSl 3 XInt) rfl Xq Kt ?_; rintro b2 w4 hb2 b2lt E4 hO2; refine Vp rfl<|Zh rfl<|Gn ?_
          refine Zk ?_; refine Zo (v := .tuple #[.slice _ _ _, .bool _]) rfl ?_; exact ⟨_, rfl, exq, hO2.toB.o.mono Ka⟩; contradiction
  by_cases e1 : k = 1
  · subst e1
    by_cases en : n = 0
    · subst en
      have hm : M = (rdP t).bind fun q => (pairV q 0 q 0).bind fun s => togV p 0 s 0 := hM.trans (by simp only [madeV]; rw [if_neg (fun h => absurd h.1 Kc), if_pos Ki])
      cases hr : rdP t with
      | none =>
        rw [hr] at hm hB hQ
        rw [hm, show og (none.bind fun q => (pairV q 0 q 0).bind fun s => togV p 0 s 0) = [] from rfl, show (none.bind fun q => (pairV q 0 q 0).bind fun s => togV p 0 s 0).isSome = false from rfl]
        rw [hB, show (none : Option (List (List Int))).isSome = false from rfl] at k0
        focus
          refine Gu<|Vl rfl rfl rfl ?_; rintro b1 w1 hb1 E1 hB1; have hlb1 := hB1.lt; refine Vp rfl<|Zh rfl<|Gn<|Gu<|Zg Kq Ky rfl<|Xs Jd hB1 rfl<|Gv rfl (Vq (a := .string _) Jl rfl) (k0 _) ?_; rintro _ w2 ⟨u1, rfl, E2, hO1⟩; have hs2 := E2.size; refine Xf rfl<|Xk u1 rfl<|Yp rfl<|Vm u1 rfl<|Zh rfl<|Gn<|Gs<|Gy<|Gu<|Zg Kq Kl rfl<|Vk Kn (hB1.ext E2) rfl<|Zu rfl<|Zx rfl (fun h1 => ?_) (fun h1 => ?_); contradiction; refine Gp rfl<|Gp rfl<|Gp rfl<|Vg rfl<|Vr rfl<|Gp rfl<|Gp rfl<|Gp rfl<|Vg rfl<|Zh rfl<|Gn<|Ze rfl ?_; refine Gu ?_
          refine Zg Kq Kl rfl<|Vk Kn (hB1.ext E2) rfl<|Zu rfl<|Zx rfl (fun h2 => ?_) (fun h2 => ?_); refine Vr rfl<|Vz rfl<|Vr rfl<|Gp rfl<|Gp rfl<|Gp rfl<|Vg rfl<|Zh rfl<|Gn<|Ze rfl ?_; refine Gu<|Zg Kq Kl rfl<|Vk Kn (hB1.ext E2) rfl<|Zu rfl<|Zx rfl (fun h3 => ?_) (fun h3 => ?_); contradiction; refine Gp rfl<|Vg rfl<|Vr rfl<|Gp rfl<|Gp rfl<|Gp rfl<|Vg rfl<|Zh rfl<|Gn<|Ze rfl ?_; refine Gs<|Yl Ym Kb rfl ?_; refine Xb Kq Kl rfl<|Yd (v := .int _ _) rfl (fun w' hw' => Zz Kn rfl (((hB1.ext E2).ext hw').cell rfl)) ?_
          refine Ue rfl<|Xd rfl (fun h4 => ?_) (fun h4 => ?_); contradiction; refine Gx rfl<|Gx rfl<|Gx rfl<|Ub rfl<|Uq rfl<|Gx rfl<|Gx rfl<|Gx rfl<|Gx rfl<|Gx rfl<|Gx rfl<|Ub rfl<|Uq rfl<|Gx rfl<|Gx rfl<|Gx rfl<|Gx rfl<|Gx rfl<|Gx rfl<|Gx rfl<|Gx rfl<|Ub rfl<|WqaB rfl<|Yk (fun w3 E3 => ?_); have hs3 := E3.size; refine Ze rfl ?_; refine Za<|Gu<|Vu (XSl 3 XInt) rfl Xq Kt ?_; rintro b2 w4 hb2 b2lt E4 hO2; refine Vp rfl<|Zh rfl<|Gn<|Zk ?_; refine Zo (v := .tuple #[.slice _ _ _, .bool _]) rfl ?_; exact ⟨_, rfl, exq, hO2.toB.o.mono Ka⟩; contradiction
      | some q =>
        rw [hr] at hm hB hQ
        rw [hB, hQ, show (some q).isSome = true from rfl, show (some q).getD [] = q from rfl] at k0
        have hq := (Rw hr).1
        have hNq : Nod q (0 : Nat) := ⟨hq, Kc, by have := hq.1; omega⟩
        have k1 : ∀ (w : World) (v u : Value), ESl Ints w v q → ESl Ints w u q → Does Tryz.prog 141 [v, .int .i64 0, u, .int .i64 0] w (RetOB w XR (og (pairV q 0 q 0)) (pairV q 0 q 0).isSome) := fun w v u h1 h2 => PairOf_ok w v u q q h1 h2 0 0 hNq hNq
        rw [hm, show ((some q).bind fun q => (pairV q 0 q 0).bind fun s => togV p 0 s 0) = (pairV q 0 q 0).bind fun s => togV p 0 s 0 from rfl]
        cases hs : pairV q 0 q 0 with
        | none =>
          rw [hs] at k1
          rw [show (none.bind fun s => togV p 0 s 0) = none from rfl]
          rw [show og none = [] from rfl, show (none : Option (List (List Int))).isSome = false from rfl] at k1 ⊢
          focus
            refine Gu<|Vl rfl rfl rfl ?_; rintro b1 w1 hb1 E1 hB1; have hlb1 := hB1.lt; refine Vp rfl<|Zh rfl<|Gn<|Gu<|Zg Kq Ky rfl<|Xs Jd hB1 rfl<|Gv rfl (Vq (a := .string _) Jl rfl) (k0 _) ?_; rintro _ w2 ⟨u1, rfl, E2, hO1⟩; have hs2 := E2.size; refine Xf rfl<|Xk u1 rfl<|Yp rfl<|Vm u1 rfl<|Zh rfl<|Gn<|Gs<|Gy<|Gu<|Zg Kq Kl rfl<|Vk Kn (hB1.ext E2) rfl<|Zu rfl<|Zx rfl (fun h1 => ?_) (fun h1 => ?_); contradiction; refine Gp rfl<|Gp rfl<|Gp rfl<|Vg rfl<|Vr rfl<|Gp rfl<|Gp rfl<|Gp rfl<|Vg rfl<|Zh rfl<|Gn<|Ze rfl ?_; refine Gu ?_
            refine Zg Kq Kl rfl<|Vk Kn (hB1.ext E2) rfl<|Zu rfl<|Zx rfl (fun h2 => ?_) (fun h2 => ?_); refine Vr rfl<|Vz rfl<|Vr rfl<|Zg Kq Kl rfl<|Vk Kn (hB1.ext E2) rfl<|Zu rfl<|Vz rfl<|Zh rfl<|Gn<|Gq rfl (fun h3 => ?_) (fun h3 => ?_); refine Gs<|Zm<|Zb u1 rfl<|Zb u1 rfl<|Gv rfl (Rh (a := u1) (b := .int _ _) (c := u1) (d := .int _ _) Tryz.call141 rfl rfl rfl rfl) (k1 _ _ _ ((Owned.read hO1)) ((Owned.read hO1))) ?_; rintro _ w3 ⟨u2, rfl, E3, hO2⟩; have hs3 := E3.size; refine Xf rfl<|Xk u2 rfl<|Yp rfl<|Vm u2 rfl<|Zh rfl<|Gn<|Gs<|Gu<|Vr rfl<|Vo rfl<|Gn ?_
            refine Vt rfl (fun h4 => ?_) (fun h4 => ?_); refine Gu<|Vu (XSl 3 XInt) rfl Xq Kt ?_; rintro b2 w4 hb2 b2lt E4 hO3; refine Vp rfl<|Zh rfl<|Gn<|Zk ?_; refine Zo (v := .tuple #[.slice _ _ _, .bool _]) rfl ?_; exact ⟨_, rfl, exq, hO3.toB.o.mono Ka⟩; contradiction; contradiction; contradiction
        | some s =>
          rw [hs] at k1
          rw [show ((some s).bind fun s => togV p 0 s 0) = togV p 0 s 0 from rfl]
          rw [show og (some s) = s from rfl, show (some s).isSome = true from rfl] at k1
          have hsp := (Ri hq hq hs).1
          have hNs : Nod s (0 : Nat) := ⟨hsp, Kc, by have := hsp.1; omega⟩
          have k2 : ∀ (w : World) (v u : Value), ESl Ints w v p → ESl Ints w u s → Does Tryz.prog 142 [v, .int .i64 0, u, .int .i64 0] w (RetOB w XR (og (togV p 0 s 0)) (togV p 0 s 0).isSome) := fun w v u h1 h2 => TogetherOf_ok w v u p s h1 h2 0 0 hN hNs
          focus
            refine Gu<|Vl rfl rfl rfl ?_; rintro b1 w1 hb1 E1 hB1; have hlb1 := hB1.lt; refine Vp rfl<|Zh rfl<|Gn<|Gu<|Zg Kq Ky rfl<|Xs Jd hB1 rfl<|Gv rfl (Vq (a := .string _) Jl rfl) (k0 _) ?_; rintro _ w2 ⟨u1, rfl, E2, hO1⟩; have hs2 := E2.size; refine Xf rfl<|Xk u1 rfl<|Yp rfl<|Vm u1 rfl<|Zh rfl<|Gn<|Gs<|Gy<|Gu<|Zg Kq Kl rfl<|Vk Kn (hB1.ext E2) rfl<|Zu rfl<|Zx rfl (fun h1 => ?_) (fun h1 => ?_); contradiction; refine Gp rfl<|Gp rfl<|Gp rfl<|Vg rfl<|Vr rfl<|Gp rfl<|Gp rfl<|Gp rfl<|Vg rfl<|Zh rfl<|Gn<|Ze rfl ?_; refine Gu ?_
            refine Zg Kq Kl rfl<|Vk Kn (hB1.ext E2) rfl<|Zu rfl<|Zx rfl (fun h2 => ?_) (fun h2 => ?_); refine Vr rfl<|Vz rfl<|Vr rfl<|Zg Kq Kl rfl<|Vk Kn (hB1.ext E2) rfl<|Zu rfl<|Vz rfl<|Zh rfl<|Gn<|Gq rfl (fun h3 => ?_) (fun h3 => ?_); refine Gs<|Zm<|Zb u1 rfl<|Zb u1 rfl<|Gv rfl (Rh (a := u1) (b := .int _ _) (c := u1) (d := .int _ _) Tryz.call141 rfl rfl rfl rfl) (k1 _ _ _ ((Owned.read hO1)) ((Owned.read hO1))) ?_; rintro _ w3 ⟨u2, rfl, E3, hO2⟩; have hs3 := E3.size; refine Xf rfl<|Xk u2 rfl<|Yp rfl<|Vm u2 rfl<|Zh rfl<|Gn<|Gs<|Gu<|Vr rfl<|Vo rfl<|Gn ?_
            refine Vt rfl (fun h4 => ?_) (fun h4 => ?_); contradiction; refine Za<|Gu<|Zb v rfl<|Zb u2 rfl<|Gv rfl (Rh (a := v) (b := .int _ _) (c := u2) (d := .int _ _) Tryz.call142 rfl rfl rfl rfl) (k2 _ _ _ ((Mono.mono exq h)) ((Owned.read hO2))) ?_; rintro _ w4 ⟨u3, rfl, E4, hO3⟩; refine Xk u3 rfl<|Yp rfl<|Vm u3 rfl<|Zh rfl<|Gn<|Zk ?_; refine Zo (v := .tuple #[u3, .bool _]) rfl ?_; exact ⟨_, rfl, exq, hO3.toB.o.mono Ka⟩; contradiction; contradiction
    · have hm : M = none := hM.trans (by simp only [madeV]; rw [if_neg (fun h => absurd h.1 Kc), if_neg (fun h => en h.2), if_neg (fun h => absurd h.1 Kc), if_neg (fun h => absurd h.1 Kc)])
      rw [hm, show og none = [] from rfl, show (none : Option (List (List Int))).isSome = false from rfl]
      cases B
      · focus
          refine Gu<|Vl rfl rfl rfl ?_; rintro b1 w1 hb1 E1 hB1; have hlb1 := hB1.lt; refine Vp rfl<|Zh rfl<|Gn<|Gu<|Zg Kq Ky rfl<|Xs Jd hB1 rfl<|Gv rfl (Vq (a := .string _) Jl rfl) (k0 _) ?_; rintro _ w2 ⟨u1, rfl, E2, hO1⟩; have hs2 := E2.size; refine Xf rfl<|Xk u1 rfl<|Yp rfl<|Vm u1 rfl<|Zh rfl<|Gn<|Gs<|Gy<|Gu<|Zg Kq Kl rfl<|Vk Kn (hB1.ext E2) rfl<|Zu rfl<|Zx rfl (fun h1 => ?_) (fun h1 => ?_); contradiction; refine Gp rfl<|Gp rfl<|Gp rfl<|Vg rfl<|Vr rfl<|Gp rfl<|Gp rfl<|Gp rfl<|Vg rfl<|Zh rfl<|Gn<|Ze rfl ?_; refine Gu ?_
          refine Zg Kq Kl rfl<|Vk Kn (hB1.ext E2) rfl<|Zu rfl<|Zx rfl (fun h2 => ?_) (fun h2 => ?_); refine Vr rfl<|Vz rfl<|Vr rfl<|Gp rfl<|Gp rfl<|Gp rfl<|Vg rfl<|Zh rfl<|Gn<|Ze rfl ?_; refine Gu<|Zg Kq Kl rfl<|Vk Kn (hB1.ext E2) rfl<|Zu rfl<|Zx rfl (fun h3 => ?_) (fun h3 => ?_); contradiction; refine Gp rfl<|Vg rfl<|Vr rfl<|Gp rfl<|Gp rfl<|Gp rfl<|Vg rfl<|Zh rfl<|Gn<|Ze rfl ?_; refine Gs<|Yl Ym Kb rfl ?_; refine Xb Kq Kl rfl<|Yd (v := .int _ _) rfl (fun w' hw' => Zz Kn rfl (((hB1.ext E2).ext hw').cell rfl)) ?_
          refine Ue rfl<|Xd rfl (fun h4 => ?_) (fun h4 => ?_); contradiction; refine Gx rfl<|Gx rfl<|Gx rfl<|Ub rfl<|Uq rfl<|Gx rfl<|Gx rfl<|Gx rfl<|Gx rfl<|Gx rfl<|Gx rfl<|Ub rfl<|Uq rfl<|Gx rfl<|Gx rfl<|Gx rfl<|Gx rfl<|Gx rfl<|Gx rfl<|Gx rfl<|Gx rfl<|Ub rfl<|WqaB rfl<|Yk (fun w3 E3 => ?_); have hs3 := E3.size; refine Ze rfl ?_; refine Za<|Gu<|Vu (XSl 3 XInt) rfl Xq Kt ?_; rintro b2 w4 hb2 b2lt E4 hO2; refine Vp rfl<|Zh rfl<|Gn<|Zk ?_; refine Zo (v := .tuple #[.slice _ _ _, .bool _]) rfl ?_; exact ⟨_, rfl, exq, hO2.toB.o.mono Ka⟩; contradiction
      · focus
          refine Gu<|Vl rfl rfl rfl ?_; rintro b1 w1 hb1 E1 hB1; have hlb1 := hB1.lt; refine Vp rfl<|Zh rfl<|Gn<|Gu<|Zg Kq Ky rfl<|Xs Jd hB1 rfl<|Gv rfl (Vq (a := .string _) Jl rfl) (k0 _) ?_; rintro _ w2 ⟨u1, rfl, E2, hO1⟩; have hs2 := E2.size; refine Xf rfl<|Xk u1 rfl<|Yp rfl<|Vm u1 rfl<|Zh rfl<|Gn<|Gs<|Gy<|Gu<|Zg Kq Kl rfl<|Vk Kn (hB1.ext E2) rfl<|Zu rfl<|Zx rfl (fun h1 => ?_) (fun h1 => ?_); contradiction; refine Gp rfl<|Gp rfl<|Gp rfl<|Vg rfl<|Vr rfl<|Gp rfl<|Gp rfl<|Gp rfl<|Vg rfl<|Zh rfl<|Gn<|Ze rfl ?_; refine Gu ?_
          refine Zg Kq Kl rfl<|Vk Kn (hB1.ext E2) rfl<|Zu rfl<|Zx rfl (fun h2 => ?_) (fun h2 => ?_); refine Vr rfl<|Vz rfl<|Vr rfl<|Zg Kq Kl rfl<|Vk Kn (hB1.ext E2) rfl<|Zu rfl<|Vz rfl<|Zh rfl<|Gn<|Gq rfl (fun h3 => ?_) (fun h3 => ?_); contradiction; refine Gu<|Zg Kq Kl rfl<|Vk Kn (hB1.ext E2) rfl<|Zu rfl<|Zx rfl (fun h4 => ?_) (fun h4 => ?_); contradiction; refine Gp rfl<|Vg rfl<|Vr rfl<|Gp rfl<|Gp rfl<|Gp rfl<|Vg rfl<|Zh rfl<|Gn<|Ze rfl ?_; refine Gs<|Yl Ym Kb rfl ?_; refine Xb Kq Kl rfl ?_
          refine Yd (v := .int _ _) rfl (fun w' hw' => Zz Kn rfl (((hB1.ext E2).ext hw').cell rfl)) ?_; refine Ue rfl<|Xd rfl (fun h5 => ?_) (fun h5 => ?_); contradiction; refine Gx rfl<|Gx rfl<|Gx rfl<|Ub rfl<|Uq rfl<|Gx rfl<|Gx rfl<|Gx rfl<|Gx rfl<|Gx rfl<|Gx rfl<|Ub rfl<|Uq rfl<|Gx rfl<|Gx rfl<|Gx rfl<|Gx rfl<|Gx rfl<|Gx rfl<|Gx rfl<|Gx rfl<|Ub rfl<|WqaB rfl<|Yk (fun w3 E3 => ?_); have hs3 := E3.size; refine Ze rfl ?_; refine Za<|Gu<|Vu (XSl 3 XInt) rfl Xq Kt ?_; rintro b2 w4 hb2 b2lt E4 hO2; refine Vp rfl<|Zh rfl<|Gn ?_
          refine Zk ?_; refine Zo (v := .tuple #[.slice _ _ _, .bool _]) rfl ?_; exact ⟨_, rfl, exq, hO2.toB.o.mono Ka⟩; contradiction
  by_cases e2 : k = 2
  · subst e2
    by_cases en : n = 0
    · subst en
      have hm : M = (rdP t).bind fun q => wosV p 0 q 0 := hM.trans (by simp only [madeV]; rw [if_neg (fun h => absurd h.1 Kc), if_neg (fun h => absurd h.1 Kc), if_pos Ki])
      cases hr : rdP t with
      | none =>
        rw [hr] at hm hB hQ
        rw [hm, show og (none.bind fun q => wosV p 0 q 0) = [] from rfl, show (none.bind fun q => wosV p 0 q 0).isSome = false from rfl]
        rw [hB, show (none : Option (List (List Int))).isSome = false from rfl] at k0
        focus
          refine Gu<|Vl rfl rfl rfl ?_; rintro b1 w1 hb1 E1 hB1; have hlb1 := hB1.lt; refine Vp rfl<|Zh rfl<|Gn<|Gu<|Zg Kq Ky rfl<|Xs Jd hB1 rfl<|Gv rfl (Vq (a := .string _) Jl rfl) (k0 _) ?_; rintro _ w2 ⟨u1, rfl, E2, hO1⟩; have hs2 := E2.size; refine Xf rfl<|Xk u1 rfl<|Yp rfl<|Vm u1 rfl<|Zh rfl<|Gn<|Gs<|Gy<|Gu<|Zg Kq Kl rfl<|Vk Kn (hB1.ext E2) rfl<|Zu rfl<|Zx rfl (fun h1 => ?_) (fun h1 => ?_); contradiction; refine Gp rfl<|Gp rfl<|Gp rfl<|Vg rfl<|Vr rfl<|Gp rfl<|Gp rfl<|Gp rfl<|Vg rfl<|Zh rfl<|Gn<|Ze rfl ?_; refine Gu ?_
          refine Zg Kq Kl rfl<|Vk Kn (hB1.ext E2) rfl<|Zu rfl<|Zx rfl (fun h2 => ?_) (fun h2 => ?_); contradiction; refine Gp rfl<|Vg rfl<|Vr rfl<|Gp rfl<|Gp rfl<|Gp rfl<|Vg rfl<|Zh rfl<|Gn<|Ze rfl ?_; refine Gu<|Zg Kq Kl rfl<|Vk Kn (hB1.ext E2) rfl<|Zu rfl<|Zx rfl (fun h3 => ?_) (fun h3 => ?_); refine Vr rfl<|Vz rfl<|Vr rfl<|Gp rfl<|Gp rfl<|Gp rfl<|Vg rfl<|Zh rfl<|Gn<|Ze rfl ?_; refine Gs<|Yl Ym Kb rfl ?_; refine Xb Kq Kl rfl<|Yd (v := .int _ _) rfl (fun w' hw' => Zz Kn rfl (((hB1.ext E2).ext hw').cell rfl)) ?_; refine Ue rfl ?_
          refine Xd rfl (fun h4 => ?_) (fun h4 => ?_); contradiction; refine Gx rfl<|Gx rfl<|Gx rfl<|Ub rfl<|Uq rfl<|Gx rfl<|Gx rfl<|Gx rfl<|Gx rfl<|Gx rfl<|Gx rfl<|Ub rfl<|Uq rfl<|Gx rfl<|Gx rfl<|Gx rfl<|Gx rfl<|Gx rfl<|Gx rfl<|Gx rfl<|Gx rfl<|Ub rfl<|WqaB rfl<|Yk (fun w3 E3 => ?_); have hs3 := E3.size; refine Ze rfl ?_; refine Za<|Gu<|Vu (XSl 3 XInt) rfl Xq Kt ?_; rintro b2 w4 hb2 b2lt E4 hO2; refine Vp rfl<|Zh rfl<|Gn<|Zk ?_; refine Zo (v := .tuple #[.slice _ _ _, .bool _]) rfl ?_; exact ⟨_, rfl, exq, hO2.toB.o.mono Ka⟩; contradiction
      | some q =>
        rw [hr] at hm hB hQ
        rw [hB, hQ, show (some q).isSome = true from rfl, show (some q).getD [] = q from rfl] at k0
        have hq := (Rw hr).1
        have hNq : Nod q (0 : Nat) := ⟨hq, Kc, by have := hq.1; omega⟩
        have k1 : ∀ (w : World) (v u : Value), ESl Ints w v p → ESl Ints w u q → Does Tryz.prog 143 [v, .int .i64 0, u, .int .i64 0] w (RetOB w XR (og (wosV p 0 q 0)) (wosV p 0 q 0).isSome) := fun w v u h1 h2 => WithoutSet_ok w v u p q h1 h2 0 0 hN hNq
        rw [hm, show ((some q).bind fun q => wosV p 0 q 0) = wosV p 0 q 0 from rfl]
        focus
          refine Gu<|Vl rfl rfl rfl ?_; rintro b1 w1 hb1 E1 hB1; have hlb1 := hB1.lt; refine Vp rfl<|Zh rfl<|Gn<|Gu<|Zg Kq Ky rfl<|Xs Jd hB1 rfl<|Gv rfl (Vq (a := .string _) Jl rfl) (k0 _) ?_; rintro _ w2 ⟨u1, rfl, E2, hO1⟩; have hs2 := E2.size; refine Xf rfl<|Xk u1 rfl<|Yp rfl<|Vm u1 rfl<|Zh rfl<|Gn<|Gs<|Gy<|Gu<|Zg Kq Kl rfl<|Vk Kn (hB1.ext E2) rfl<|Zu rfl<|Zx rfl (fun h1 => ?_) (fun h1 => ?_); contradiction; refine Gp rfl<|Gp rfl<|Gp rfl<|Vg rfl<|Vr rfl<|Gp rfl<|Gp rfl<|Gp rfl<|Vg rfl<|Zh rfl<|Gn<|Ze rfl ?_; refine Gu ?_
          refine Zg Kq Kl rfl<|Vk Kn (hB1.ext E2) rfl<|Zu rfl<|Zx rfl (fun h2 => ?_) (fun h2 => ?_); contradiction; refine Gp rfl<|Vg rfl<|Vr rfl<|Gp rfl<|Gp rfl<|Gp rfl<|Vg rfl<|Zh rfl<|Gn<|Ze rfl ?_; refine Gu<|Zg Kq Kl rfl<|Vk Kn (hB1.ext E2) rfl<|Zu rfl<|Zx rfl (fun h3 => ?_) (fun h3 => ?_); refine Vr rfl<|Vz rfl<|Vr rfl<|Zg Kq Kl rfl<|Vk Kn (hB1.ext E2) rfl<|Zu rfl<|Vz rfl<|Zh rfl<|Gn<|Gq rfl (fun h4 => ?_) (fun h4 => ?_); refine Gs<|Zm<|Zb v rfl<|Zb u1 rfl ?_
          refine Gv rfl (Rh (a := v) (b := .int _ _) (c := u1) (d := .int _ _) Tryz.call143 rfl rfl rfl rfl) (k1 _ _ _ ((Mono.mono exq h)) ((Owned.read hO1))) ?_; rintro _ w3 ⟨u2, rfl, E3, hO2⟩; refine Xk u2 rfl<|Yp rfl<|Vm u2 rfl<|Zh rfl<|Gn<|Zk ?_; refine Zo (v := .tuple #[u2, .bool _]) rfl ?_; exact ⟨_, rfl, exq, hO2.toB.o.mono Ka⟩; contradiction; contradiction
    · have hm : M = none := hM.trans (by simp only [madeV]; rw [if_neg (fun h => absurd h.1 Kc), if_neg (fun h => absurd h.1 Kc), if_neg (fun h => en h.2), if_neg (fun h => absurd h.1 Kc)])
      rw [hm, show og none = [] from rfl, show (none : Option (List (List Int))).isSome = false from rfl]
      cases B
      · focus
          refine Gu<|Vl rfl rfl rfl ?_; rintro b1 w1 hb1 E1 hB1; have hlb1 := hB1.lt; refine Vp rfl<|Zh rfl<|Gn<|Gu<|Zg Kq Ky rfl<|Xs Jd hB1 rfl<|Gv rfl (Vq (a := .string _) Jl rfl) (k0 _) ?_; rintro _ w2 ⟨u1, rfl, E2, hO1⟩; have hs2 := E2.size; refine Xf rfl<|Xk u1 rfl<|Yp rfl<|Vm u1 rfl<|Zh rfl<|Gn<|Gs<|Gy<|Gu<|Zg Kq Kl rfl<|Vk Kn (hB1.ext E2) rfl<|Zu rfl<|Zx rfl (fun h1 => ?_) (fun h1 => ?_); contradiction; refine Gp rfl<|Gp rfl<|Gp rfl<|Vg rfl<|Vr rfl<|Gp rfl<|Gp rfl<|Gp rfl<|Vg rfl<|Zh rfl<|Gn<|Ze rfl ?_; refine Gu ?_
          refine Zg Kq Kl rfl<|Vk Kn (hB1.ext E2) rfl<|Zu rfl<|Zx rfl (fun h2 => ?_) (fun h2 => ?_); contradiction; refine Gp rfl<|Vg rfl<|Vr rfl<|Gp rfl<|Gp rfl<|Gp rfl<|Vg rfl<|Zh rfl<|Gn<|Ze rfl ?_; refine Gu<|Zg Kq Kl rfl<|Vk Kn (hB1.ext E2) rfl<|Zu rfl<|Zx rfl (fun h3 => ?_) (fun h3 => ?_); refine Vr rfl<|Vz rfl<|Vr rfl<|Gp rfl<|Gp rfl<|Gp rfl<|Vg rfl<|Zh rfl<|Gn<|Ze rfl ?_; refine Gs<|Yl Ym Kb rfl ?_; refine Xb Kq Kl rfl<|Yd (v := .int _ _) rfl (fun w' hw' => Zz Kn rfl (((hB1.ext E2).ext hw').cell rfl)) ?_; refine Ue rfl ?_
          refine Xd rfl (fun h4 => ?_) (fun h4 => ?_); contradiction; refine Gx rfl<|Gx rfl<|Gx rfl<|Ub rfl<|Uq rfl<|Gx rfl<|Gx rfl<|Gx rfl<|Gx rfl<|Gx rfl<|Gx rfl<|Ub rfl<|Uq rfl<|Gx rfl<|Gx rfl<|Gx rfl<|Gx rfl<|Gx rfl<|Gx rfl<|Gx rfl<|Gx rfl<|Ub rfl<|WqaB rfl<|Yk (fun w3 E3 => ?_); have hs3 := E3.size; refine Ze rfl ?_; refine Za<|Gu<|Vu (XSl 3 XInt) rfl Xq Kt ?_; rintro b2 w4 hb2 b2lt E4 hO2; refine Vp rfl<|Zh rfl<|Gn<|Zk ?_; refine Zo (v := .tuple #[.slice _ _ _, .bool _]) rfl ?_; exact ⟨_, rfl, exq, hO2.toB.o.mono Ka⟩; contradiction
      · focus
          refine Gu<|Vl rfl rfl rfl ?_; rintro b1 w1 hb1 E1 hB1; have hlb1 := hB1.lt; refine Vp rfl<|Zh rfl<|Gn<|Gu<|Zg Kq Ky rfl<|Xs Jd hB1 rfl<|Gv rfl (Vq (a := .string _) Jl rfl) (k0 _) ?_; rintro _ w2 ⟨u1, rfl, E2, hO1⟩; have hs2 := E2.size; refine Xf rfl<|Xk u1 rfl<|Yp rfl<|Vm u1 rfl<|Zh rfl<|Gn<|Gs<|Gy<|Gu<|Zg Kq Kl rfl<|Vk Kn (hB1.ext E2) rfl<|Zu rfl<|Zx rfl (fun h1 => ?_) (fun h1 => ?_); contradiction; refine Gp rfl<|Gp rfl<|Gp rfl<|Vg rfl<|Vr rfl<|Gp rfl<|Gp rfl<|Gp rfl<|Vg rfl<|Zh rfl<|Gn<|Ze rfl ?_; refine Gu ?_
          refine Zg Kq Kl rfl<|Vk Kn (hB1.ext E2) rfl<|Zu rfl<|Zx rfl (fun h2 => ?_) (fun h2 => ?_); contradiction; refine Gp rfl<|Vg rfl<|Vr rfl<|Gp rfl<|Gp rfl<|Gp rfl<|Vg rfl<|Zh rfl<|Gn<|Ze rfl ?_; refine Gu<|Zg Kq Kl rfl<|Vk Kn (hB1.ext E2) rfl<|Zu rfl<|Zx rfl (fun h3 => ?_) (fun h3 => ?_); refine Vr rfl<|Vz rfl<|Vr rfl<|Zg Kq Kl rfl<|Vk Kn (hB1.ext E2) rfl<|Zu rfl<|Vz rfl<|Zh rfl<|Gn<|Gq rfl (fun h4 => ?_) (fun h4 => ?_); contradiction; refine Gs<|Yl Ym Kb rfl ?_; refine Xb Kq Kl rfl ?_
          refine Yd (v := .int _ _) rfl (fun w' hw' => Zz Kn rfl (((hB1.ext E2).ext hw').cell rfl)) ?_; refine Ue rfl<|Xd rfl (fun h5 => ?_) (fun h5 => ?_); contradiction; refine Gx rfl<|Gx rfl<|Gx rfl<|Ub rfl<|Uq rfl<|Gx rfl<|Gx rfl<|Gx rfl<|Gx rfl<|Gx rfl<|Gx rfl<|Ub rfl<|Uq rfl<|Gx rfl<|Gx rfl<|Gx rfl<|Gx rfl<|Gx rfl<|Gx rfl<|Gx rfl<|Gx rfl<|Ub rfl<|WqaB rfl<|Yk (fun w3 E3 => ?_); have hs3 := E3.size; refine Ze rfl ?_; refine Za<|Gu<|Vu (XSl 3 XInt) rfl Xq Kt ?_; rintro b2 w4 hb2 b2lt E4 hO2; refine Vp rfl<|Zh rfl<|Gn ?_
          refine Zk ?_; refine Zo (v := .tuple #[.slice _ _ _, .bool _]) rfl ?_; exact ⟨_, rfl, exq, hO2.toB.o.mono Ka⟩; contradiction
  by_cases e3 : k = 3
  · subst e3
    by_cases et : t = []
    · subst et
      by_cases en : 0 ≤ n ∧ n ≤ (p.length : Int) - 1
      · have k2 : ∀ w, Does Tryz.prog 116 [.int .i64 n, .int .i64 0, .int .i64 ((p.length : Int) - 1)] w (Ret w (.bool true)) := fun w => by
          have := Uy n 0 ((p.length : Int) - 1) w; rwa [decide_eq_true en] at this
        have hrow : p[0].length = p.length := hp.row hp1
        obtain ⟨i, rfl⟩ : ∃ i : Nat, n = i := ⟨n.toNat, Ka⟩
        have hbit : bit p 0 i = p[0][i] := by unfold bit; rw [Vb hp1, Vb (show i < p[0].length by omega)]
        by_cases eb : p[0][i] = 1
        · have hm : M = some (lst p i) := hM.trans (by simp only [madeV]; rw [if_neg (fun h => absurd h.1 Kc), if_neg (fun h => absurd h.1 Kc), if_neg (fun h => absurd h.1 Kc), if_pos ⟨trivial, trivial, Ka, Ka, by rw [Int.toNat_natCast, hbit, eb]⟩, Int.toNat_natCast])
          have hNi : Nod p (i : Int) := ⟨hp, Ka, Ka⟩
          have k3 : ∀ (w : World) (v : Value), ESl Ints w v p → Does Tryz.prog 126 [v, .int .i64 (i : Int)] w (RetO w XR (lst p i)) := fun w v h => by
            have := Us w v p h (i : Int); rw [if_pos hNi] at this; exact this
          rw [hm, show og (some (lst p i)) = lst p i from rfl, show (some (lst p i)).isSome = true from rfl]
          focus
            refine Gu<|Vl rfl rfl rfl ?_; rintro b1 w1 hb1 E1 hB1; have hlb1 := hB1.lt; refine Vp rfl<|Zh rfl<|Gn<|Gu<|Zg Kq Ky rfl<|Xs Jd hB1 rfl<|Gv rfl (Vq (a := .string _) Jl rfl) (k0 _) ?_; rintro _ w2 ⟨u1, rfl, E2, hO1⟩; have hs2 := E2.size; refine Xf rfl<|Xk u1 rfl<|Yp rfl<|Vm u1 rfl<|Zh rfl<|Gn<|Gs<|Gy<|Gu<|Zg Kq Kl rfl<|Vk Kn (hB1.ext E2) rfl<|Zu rfl<|Zx rfl (fun h1 => ?_) (fun h1 => ?_); contradiction; refine Gp rfl<|Gp rfl<|Gp rfl<|Vg rfl<|Vr rfl<|Gp rfl<|Gp rfl<|Gp rfl<|Vg rfl<|Zh rfl<|Gn<|Ze rfl ?_; refine Gu ?_
            refine Zg Kq Kl rfl<|Vk Kn (hB1.ext E2) rfl<|Zu rfl<|Zx rfl (fun h2 => ?_) (fun h2 => ?_); contradiction; refine Gp rfl<|Vg rfl<|Vr rfl<|Gp rfl<|Gp rfl<|Gp rfl<|Vg rfl<|Zh rfl<|Gn<|Ze rfl ?_; refine Gu<|Zg Kq Kl rfl<|Vk Kn (hB1.ext E2) rfl<|Zu rfl<|Zx rfl (fun h3 => ?_) (fun h3 => ?_); contradiction; refine Gp rfl<|Vg rfl<|Vr rfl<|Gp rfl<|Gp rfl<|Gp rfl<|Vg rfl<|Zh rfl<|Gn<|Ze rfl ?_; refine Gs<|Yl Ym Kb rfl ?_; refine Xb Kq Kl rfl<|Yd (v := .int _ _) rfl (fun w' hw' => Zz Kn rfl (((hB1.ext E2).ext hw').cell rfl)) ?_; refine Ue rfl ?_
            refine Xd rfl (fun h4 => ?_) (fun h4 => ?_); refine Xb Kq Ky rfl<|Yd (v := .string _) rfl (fun w' hw' => Zz Jd rfl (((hB1.ext E2).ext hw').cell rfl)) ?_; refine Yd rfl (fun _ _ => Xc rfl rfl) ?_; refine Rn rfl<|Xd rfl (fun h5 => ?_) (fun h5 => ?_); refine Xb Kq Kl rfl<|Yd (v := .int _ _) rfl (fun w' hw' => Zz Kn rfl (((hB1.ext E2).ext hw').cell rfl)) ?_; refine Xx v rfl<|Yd rfl (fun _ _ => Xo Kp rfl h) ?_; refine Yd rfl (fun _ _ => opv_sub rfl rfl Ka) ?_; refine Xu rfl (fun _ _ => opc3 (a := .int _ _) (b := .int _ _) (c := .int _ _) Jq rfl rfl rfl) (fun w' hw' => (k2 _)) ?_; refine Rn rfl<|Uq rfl<|Xx v rfl ?_
            refine Yt (k := 0) Kp Kt Kx rfl (fun _ => rfl) rfl h exq rfl Kf ?_; rintro _ u2 hu1; refine Xb Kq Kl rfl<|Yd (v := .int _ _) rfl (fun w' hw' => Zz Kn rfl (((hB1.ext E2).ext hw').cell rfl)) ?_; refine Yt Km Kl Kn rfl (fun _ => rfl) rfl hu1 exq rfl Kf ?_; rintro _ _ rfl; refine Ue rfl<|Rn rfl<|WqaB rfl<|Yk (fun w3 E3 => ?_); have hs3 := E3.size; refine Gq rfl (fun h6 => ?_) (fun h6 => ?_); refine Gu<|Zb v rfl<|Zg Kq Kl rfl<|Vk Kn (hB1.ext exq) rfl<|Gv rfl (Zw (a := v) (b := .int _ _) Js rfl rfl) (k3 _ _ ((Mono.mono exq h))) ?_
            rintro u3 w4 ⟨E4, hO2⟩; refine Vm u3 rfl<|Zh rfl<|Gn<|Zk ?_; refine Zo (v := .tuple #[u3, .bool _]) rfl ?_; exact ⟨_, rfl, exq, hO2.toB.o.mono Ka⟩; contradiction; contradiction; contradiction
        · have hm : M = none := hM.trans (by simp only [madeV]; rw [if_neg (fun h => absurd h.1 Kc), if_neg (fun h => absurd h.1 Kc), if_neg (fun h => absurd h.1 Kc), if_neg (fun h => eb (by have := h.2.2.2.2; rwa [Int.toNat_natCast, hbit] at this))])
          rw [hm, show og none = [] from rfl, show (none : Option (List (List Int))).isSome = false from rfl]
          focus
            refine Gu<|Vl rfl rfl rfl ?_; rintro b1 w1 hb1 E1 hB1; have hlb1 := hB1.lt; refine Vp rfl<|Zh rfl<|Gn<|Gu<|Zg Kq Ky rfl<|Xs Jd hB1 rfl<|Gv rfl (Vq (a := .string _) Jl rfl) (k0 _) ?_; rintro _ w2 ⟨u1, rfl, E2, hO1⟩; have hs2 := E2.size; refine Xf rfl<|Xk u1 rfl<|Yp rfl<|Vm u1 rfl<|Zh rfl<|Gn<|Gs<|Gy<|Gu<|Zg Kq Kl rfl<|Vk Kn (hB1.ext E2) rfl<|Zu rfl<|Zx rfl (fun h1 => ?_) (fun h1 => ?_); contradiction; refine Gp rfl<|Gp rfl<|Gp rfl<|Vg rfl<|Vr rfl<|Gp rfl<|Gp rfl<|Gp rfl<|Vg rfl<|Zh rfl<|Gn<|Ze rfl ?_; refine Gu ?_
            refine Zg Kq Kl rfl<|Vk Kn (hB1.ext E2) rfl<|Zu rfl<|Zx rfl (fun h2 => ?_) (fun h2 => ?_); contradiction; refine Gp rfl<|Vg rfl<|Vr rfl<|Gp rfl<|Gp rfl<|Gp rfl<|Vg rfl<|Zh rfl<|Gn<|Ze rfl ?_; refine Gu<|Zg Kq Kl rfl<|Vk Kn (hB1.ext E2) rfl<|Zu rfl<|Zx rfl (fun h3 => ?_) (fun h3 => ?_); contradiction; refine Gp rfl<|Vg rfl<|Vr rfl<|Gp rfl<|Gp rfl<|Gp rfl<|Vg rfl<|Zh rfl<|Gn<|Ze rfl ?_; refine Gs<|Yl Ym Kb rfl ?_; refine Xb Kq Kl rfl<|Yd (v := .int _ _) rfl (fun w' hw' => Zz Kn rfl (((hB1.ext E2).ext hw').cell rfl)) ?_; refine Ue rfl ?_
            refine Xd rfl (fun h4 => ?_) (fun h4 => ?_); refine Xb Kq Ky rfl<|Yd (v := .string _) rfl (fun w' hw' => Zz Jd rfl (((hB1.ext E2).ext hw').cell rfl)) ?_; refine Yd rfl (fun _ _ => Xc rfl rfl) ?_; refine Rn rfl<|Xd rfl (fun h5 => ?_) (fun h5 => ?_); refine Xb Kq Kl rfl<|Yd (v := .int _ _) rfl (fun w' hw' => Zz Kn rfl (((hB1.ext E2).ext hw').cell rfl)) ?_; refine Xx v rfl<|Yd rfl (fun _ _ => Xo Kp rfl h) ?_; refine Yd rfl (fun _ _ => opv_sub rfl rfl Ka) ?_; refine Xu rfl (fun _ _ => opc3 (a := .int _ _) (b := .int _ _) (c := .int _ _) Jq rfl rfl rfl) (fun w' hw' => (k2 _)) ?_; refine Rn rfl<|Uq rfl<|Xx v rfl ?_
            refine Yt (k := 0) Kp Kt Kx rfl (fun _ => rfl) rfl h exq rfl Kf ?_; rintro _ u2 hu1; refine Xb Kq Kl rfl<|Yd (v := .int _ _) rfl (fun w' hw' => Zz Kn rfl (((hB1.ext E2).ext hw').cell rfl)) ?_; refine Yt Km Kl Kn rfl (fun _ => rfl) rfl hu1 exq rfl Kf ?_; rintro _ _ rfl; refine Ue rfl<|Rn rfl<|WqaB rfl<|Yk (fun w3 E3 => ?_); have hs3 := E3.size; refine Gq rfl (fun h6 => ?_) (fun h6 => ?_); contradiction; refine Za<|Gu<|Vu (XSl 3 XInt) rfl Xq Kt ?_; rintro b2 w4 hb2 b2lt E4 hO2; refine Vp rfl<|Zh rfl<|Gn<|Zk ?_; refine Zo (v := .tuple #[.slice _ _ _, .bool _]) rfl ?_
            exact ⟨_, rfl, exq, hO2.toB.o.mono Ka⟩; contradiction; contradiction
      · have k2 : ∀ w, Does Tryz.prog 116 [.int .i64 n, .int .i64 0, .int .i64 ((p.length : Int) - 1)] w (Ret w (.bool false)) := fun w => by
          have := Uy n 0 ((p.length : Int) - 1) w; rwa [decide_eq_false en] at this
        have hm : M = none := hM.trans (by simp only [madeV]; rw [if_neg (fun h => absurd h.1 Kc), if_neg (fun h => absurd h.1 Kc), if_neg (fun h => absurd h.1 Kc), if_neg (fun h => en ⟨h.2.2.1, by have := h.2.2.2.1; omega⟩)])
        rw [hm, show og none = [] from rfl, show (none : Option (List (List Int))).isSome = false from rfl]
        focus
          refine Gu<|Vl rfl rfl rfl ?_; rintro b1 w1 hb1 E1 hB1; have hlb1 := hB1.lt; refine Vp rfl<|Zh rfl<|Gn<|Gu<|Zg Kq Ky rfl<|Xs Jd hB1 rfl<|Gv rfl (Vq (a := .string _) Jl rfl) (k0 _) ?_; rintro _ w2 ⟨u1, rfl, E2, hO1⟩; have hs2 := E2.size; refine Xf rfl<|Xk u1 rfl<|Yp rfl<|Vm u1 rfl<|Zh rfl<|Gn<|Gs<|Gy<|Gu<|Zg Kq Kl rfl<|Vk Kn (hB1.ext E2) rfl<|Zu rfl<|Zx rfl (fun h1 => ?_) (fun h1 => ?_); contradiction; refine Gp rfl<|Gp rfl<|Gp rfl<|Vg rfl<|Vr rfl<|Gp rfl<|Gp rfl<|Gp rfl<|Vg rfl<|Zh rfl<|Gn<|Ze rfl ?_; refine Gu ?_
          refine Zg Kq Kl rfl<|Vk Kn (hB1.ext E2) rfl<|Zu rfl<|Zx rfl (fun h2 => ?_) (fun h2 => ?_); contradiction; refine Gp rfl<|Vg rfl<|Vr rfl<|Gp rfl<|Gp rfl<|Gp rfl<|Vg rfl<|Zh rfl<|Gn<|Ze rfl ?_; refine Gu<|Zg Kq Kl rfl<|Vk Kn (hB1.ext E2) rfl<|Zu rfl<|Zx rfl (fun h3 => ?_) (fun h3 => ?_); contradiction; refine Gp rfl<|Vg rfl<|Vr rfl<|Gp rfl<|Gp rfl<|Gp rfl<|Vg rfl<|Zh rfl<|Gn<|Ze rfl ?_; refine Gs<|Yl Ym Kb rfl ?_; refine Xb Kq Kl rfl<|Yd (v := .int _ _) rfl (fun w' hw' => Zz Kn rfl (((hB1.ext E2).ext hw').cell rfl)) ?_; refine Ue rfl ?_
          refine Xd rfl (fun h4 => ?_) (fun h4 => ?_); refine Xb Kq Ky rfl<|Yd (v := .string _) rfl (fun w' hw' => Zz Jd rfl (((hB1.ext E2).ext hw').cell rfl)) ?_; refine Yd rfl (fun _ _ => Xc rfl rfl) ?_; refine Rn rfl<|Xd rfl (fun h5 => ?_) (fun h5 => ?_); refine Xb Kq Kl rfl<|Yd (v := .int _ _) rfl (fun w' hw' => Zz Kn rfl (((hB1.ext E2).ext hw').cell rfl)) ?_; refine Xx v rfl<|Yd rfl (fun _ _ => Xo Kp rfl h) ?_; refine Yd rfl (fun _ _ => opv_sub rfl rfl Ka) ?_; refine Xu rfl (fun _ _ => opc3 (a := .int _ _) (b := .int _ _) (c := .int _ _) Jq rfl rfl rfl) (fun w' hw' => (k2 _)) ?_; refine Rn rfl<|Uq rfl<|Gx rfl<|Gx rfl<|Gx rfl<|Gx rfl ?_
          refine Gx rfl<|Gx rfl<|Gx rfl<|Gx rfl<|Ub rfl<|WqaB rfl<|Yk (fun w3 E3 => ?_); have hs3 := E3.size; refine Ze rfl ?_; refine Za<|Gu<|Vu (XSl 3 XInt) rfl Xq Kt ?_; rintro b2 w4 hb2 b2lt E4 hO2; refine Vp rfl<|Zh rfl<|Gn<|Zk ?_; refine Zo (v := .tuple #[.slice _ _ _, .bool _]) rfl ?_; exact ⟨_, rfl, exq, hO2.toB.o.mono Ka⟩; contradiction; contradiction
    · have hm : M = none := hM.trans (by simp only [madeV]; rw [if_neg (fun h => absurd h.1 Kc), if_neg (fun h => absurd h.1 Kc), if_neg (fun h => absurd h.1 Kc), if_neg (fun h => et h.2.1)])
      rw [hm, show og none = [] from rfl, show (none : Option (List (List Int))).isSome = false from rfl]
      focus
        refine Gu<|Vl rfl rfl rfl ?_; rintro b1 w1 hb1 E1 hB1; have hlb1 := hB1.lt; refine Vp rfl<|Zh rfl<|Gn<|Gu<|Zg Kq Ky rfl<|Xs Jd hB1 rfl<|Gv rfl (Vq (a := .string _) Jl rfl) (k0 _) ?_; rintro _ w2 ⟨u1, rfl, E2, hO1⟩; have hs2 := E2.size; refine Xf rfl<|Xk u1 rfl<|Yp rfl<|Vm u1 rfl<|Zh rfl<|Gn<|Gs<|Gy<|Gu<|Zg Kq Kl rfl<|Vk Kn (hB1.ext E2) rfl<|Zu rfl<|Zx rfl (fun h1 => ?_) (fun h1 => ?_); contradiction; refine Gp rfl<|Gp rfl<|Gp rfl<|Vg rfl<|Vr rfl<|Gp rfl<|Gp rfl<|Gp rfl<|Vg rfl<|Zh rfl<|Gn<|Ze rfl ?_; refine Gu ?_
        refine Zg Kq Kl rfl<|Vk Kn (hB1.ext E2) rfl<|Zu rfl<|Zx rfl (fun h2 => ?_) (fun h2 => ?_); contradiction; refine Gp rfl<|Vg rfl<|Vr rfl<|Gp rfl<|Gp rfl<|Gp rfl<|Vg rfl<|Zh rfl<|Gn<|Ze rfl ?_; refine Gu<|Zg Kq Kl rfl<|Vk Kn (hB1.ext E2) rfl<|Zu rfl<|Zx rfl (fun h3 => ?_) (fun h3 => ?_); contradiction; refine Gp rfl<|Vg rfl<|Vr rfl<|Gp rfl<|Gp rfl<|Gp rfl<|Vg rfl<|Zh rfl<|Gn<|Ze rfl ?_; refine Gs<|Yl Ym Kb rfl ?_; refine Xb Kq Kl rfl<|Yd (v := .int _ _) rfl (fun w' hw' => Zz Kn rfl (((hB1.ext E2).ext hw').cell rfl)) ?_; refine Ue rfl ?_
        refine Xd rfl (fun h4 => ?_) (fun h4 => ?_); refine Xb Kq Ky rfl<|Yd (v := .string _) rfl (fun w' hw' => Zz Jd rfl (((hB1.ext E2).ext hw').cell rfl)) ?_; refine Yd rfl (fun _ _ => Xc rfl rfl) ?_; refine Rn rfl<|Xd rfl (fun h5 => ?_) (fun h5 => ?_); contradiction; refine Gx rfl<|Gx rfl<|Gx rfl<|Gx rfl<|Gx rfl<|Gx rfl<|Ub rfl<|Uq rfl<|Gx rfl<|Gx rfl<|Gx rfl<|Gx rfl<|Gx rfl<|Gx rfl<|Gx rfl<|Gx rfl<|Ub rfl<|WqaB rfl<|Yk (fun w3 E3 => ?_); have hs3 := E3.size; refine Ze rfl ?_; refine Za<|Gu<|Vu (XSl 3 XInt) rfl Xq Kt ?_; rintro b2 w4 hb2 b2lt E4 hO2; refine Vp rfl<|Zh rfl<|Gn ?_
        refine Zk ?_; refine Zo (v := .tuple #[.slice _ _ _, .bool _]) rfl ?_; exact ⟨_, rfl, exq, hO2.toB.o.mono Ka⟩; contradiction
  have hm : M = none := hM.trans (by simp only [madeV]; rw [if_neg (fun h => e0 h.1), if_neg (fun h => e1 h.1), if_neg (fun h => e2 h.1), if_neg (fun h => e3 h.1)])
  rw [hm, show og none = [] from rfl, show (none : Option (List (List Int))).isSome = false from rfl]
  focus
    refine Gu<|Vl rfl rfl rfl ?_; rintro b1 w1 hb1 E1 hB1; have hlb1 := hB1.lt; refine Vp rfl<|Zh rfl<|Gn<|Gu<|Zg Kq Ky rfl<|Xs Jd hB1 rfl<|Gv rfl (Vq (a := .string _) Jl rfl) (k0 _) ?_; rintro _ w2 ⟨u1, rfl, E2, hO1⟩; have hs2 := E2.size; refine Xf rfl<|Xk u1 rfl<|Yp rfl<|Vm u1 rfl<|Zh rfl<|Gn<|Gs<|Gy<|Gu<|Zg Kq Kl rfl<|Vk Kn (hB1.ext E2) rfl<|Zu rfl<|Zx rfl (fun h1 => ?_) (fun h1 => ?_); contradiction; refine Gp rfl<|Gp rfl<|Gp rfl<|Vg rfl<|Vr rfl<|Gp rfl<|Gp rfl<|Gp rfl<|Vg rfl<|Zh rfl<|Gn<|Ze rfl ?_; refine Gu ?_
    refine Zg Kq Kl rfl<|Vk Kn (hB1.ext E2) rfl<|Zu rfl<|Zx rfl (fun h2 => ?_) (fun h2 => ?_); contradiction; refine Gp rfl<|Vg rfl<|Vr rfl<|Gp rfl<|Gp rfl<|Gp rfl<|Vg rfl<|Zh rfl<|Gn<|Ze rfl ?_; refine Gu<|Zg Kq Kl rfl<|Vk Kn (hB1.ext E2) rfl<|Zu rfl<|Zx rfl (fun h3 => ?_) (fun h3 => ?_); contradiction; refine Gp rfl<|Vg rfl<|Vr rfl<|Gp rfl<|Gp rfl<|Gp rfl<|Vg rfl<|Zh rfl<|Gn<|Ze rfl ?_; refine Gs<|Yl Ym Kb rfl ?_; refine Xb Kq Kl rfl<|Yd (v := .int _ _) rfl (fun w' hw' => Zz Kn rfl (((hB1.ext E2).ext hw').cell rfl)) ?_; refine Ue rfl ?_
    refine Xd rfl (fun h4 => ?_) (fun h4 => ?_); contradiction; refine Gx rfl<|Gx rfl<|Gx rfl<|Ub rfl<|Uq rfl<|Gx rfl<|Gx rfl<|Gx rfl<|Gx rfl<|Gx rfl<|Gx rfl<|Ub rfl<|Uq rfl<|Gx rfl<|Gx rfl<|Gx rfl<|Gx rfl<|Gx rfl<|Gx rfl<|Gx rfl<|Gx rfl<|Ub rfl<|WqaB rfl<|Yk (fun w3 E3 => ?_); have hs3 := E3.size; refine Ze rfl ?_; refine Za<|Gu<|Vu (XSl 3 XInt) rfl Xq Kt ?_; rintro b2 w4 hb2 b2lt E4 hO2; refine Vp rfl<|Zh rfl<|Gn<|Zk ?_; refine Zo (v := .tuple #[.slice _ _ _, .bool _]) rfl ?_; exact ⟨_, rfl, exq, hO2.toB.o.mono Ka⟩
end Go.Proofs.YtbgpppaljpngmaaGreatDoor
namespace Go.Proofs.YtbgpppaljpngmaaGreatDoor
open Go.Hs
set_option maxRecDepth 10000
set_option maxHeartbeats 4000000
set_option linter.unusedVariables false
set_option linter.unusedSimpArgs false
open Classical in
theorem spec_DeskDo_ok (w : World) (u1 u2 : Value) (d : Dsk) (h1 : ESl Ints w u1 d.now) (h2 : ESl (ESl Ints) w u2 d.past) (k n : Int) (t : List UInt8) (ht : t.length ≤ 1048576) :
    Does Tryz.prog 37 [.agg #[u1, u2], .agg #[.int .i64 k, str t, .int .i64 n]] w (RetDkAB w (if DkOk d then (doV d ⟨k, t, n⟩).1.now else []) (if DkOk d then (doV d ⟨k, t, n⟩).1.past else []) (decide (DkOk d) && (doV d ⟨k, t, n⟩).2)) := by
  obtain ⟨p, pp⟩ := d
  have hle := h2.le
  have i1 : isCell u1 = true := Xp h1
  have i2 : isCell u2 = true := Xp h2
  simp only at h1 h2 hle
  refine Ry Tryz.func37 rfl Tryz.results37 Tryz.ntmps37 rfl Ks Ko ?_
  by_cases hd : DkOk ⟨p, pp⟩
  · have k0 : ∀ w, ESl Ints w u1 p → ESl (ESl Ints) w u2 pp → Does Tryz.prog 16 [.agg #[u1, u2]] w (Ret w (.bool true)) := fun w h1 h2 => by
      have := Qi w u1 u2 ⟨p, pp⟩ h1 h2; rwa [decide_eq_true hd] at this
    have hpp : Pic p := hd.1.1
    have hppl : pp.length ≤ 8 := hd.2.1
    have hb1 : p.length ≤ 100 ∧ ∀ r ∈ p, r.length ≤ 100 := ⟨by have := hpp.2.1; omega, fun r hr => by rw [(hpp.2.2 r hr).1]; have := hpp.2.1; omega⟩
    have hb2 : ∀ q ∈ pp, q.length ≤ 100 ∧ ∀ r ∈ q, r.length ≤ 100 := fun q hq => by
      have hq := (hd.2.2 q hq).1
      exact ⟨by have := hq.2.1; omega, fun r hr => by rw [(hq.2.2 r hr).1]; have := hq.2.1; omega⟩
    have k1 : ∀ w, ESl Ints w u1 p → ESl (ESl Ints) w u2 pp → Does Tryz.prog 60 [.agg #[u1, u2]] w (RetDk w 23 88 3 p pp) := fun w h1 h2 => l11Copy_ok w u1 u2 p pp h1 h2 hb1 Ka hb2
    rw [if_pos hd, if_pos hd, decide_eq_true hd, Bool.true_and]
    by_cases hb : isBack ⟨p, pp⟩ ⟨k, t, n⟩
    · obtain ⟨e, hne⟩ := hb
      cases e
      have hpl : 0 < pp.length := List.length_pos_iff.2 hne
      have hdo : doV ⟨p, pp⟩ ⟨4, [], 0⟩ = (⟨pp.getLastD [], pp.dropLast⟩, true) := by unfold doV; rw [if_pos ⟨rfl, hne⟩]
      rw [hdo]
      simp only
      have stop6 : True := trivial
      focus
        refine Gu<|Vl rfl rfl rfl ?_; rintro b1 w1 hb3 E1 hB1; have hlb1 := hB1.lt; have hs1 := E1.size; refine Vl rfl rfl rfl ?_; rintro b2 w2 hb4 E2 hB2; have hlb2 := hB2.lt; refine Zq rfl Vj ?_; rintro b3 w3 hb5 E3 hB3; have hlb3 := hB3.lt; refine Zh rfl<|Gn<|Gs<|Gs<|Zm<|Vv Ks Ko (hB1.ext exq) rfl<|Gv rfl (Vq (a := .agg _) Jv rfl) (k0 _ ((Mono.mono exq h1)) ((Mono.mono exq h2))) ?_; rintro _ w4 ⟨rfl, E4⟩; have hs4 := E4.size; refine Vo rfl<|Gn<|Vt rfl (fun h3 => ?_) (fun h3 => ?_); contradiction; refine Za<|Gu<|Vv Ks Ko (hB1.ext exq) rfl<|Gv rfl (Vq (a := .agg _) Jz rfl) (k1 _ ((Mono.mono exq h1)) ((Mono.mono exq h2))) ?_; rintro _ w5 ⟨u3, q1, m1, rfl, E5, hO1, hQ1, hm1, hn1⟩
        have icu3 := OwnedB.isC hO1; have icq1 := OwnedB.isC (Owned.toB hQ1); have cpq1 := OwnedB.capOk (Owned.toB hQ1); have hs5 := E5.size; refine Zq rfl Vj ?_; rintro b4 w6 hb6 E6 hB4; refine Xe rfl Ko rfl rfl Ke Ke hB4 Ka (((((E1.trans E2).trans E3).trans E4).trans E5).trans E6) ?_; rintro w7 E7 hB4 K1 hz1; have E8 := ((((E2.trans E3).trans E4).trans E5).trans E6).wroteAt exq E7 K1 hz1 Ka; have szE8 := E8.size; have E9 := (((E3.trans E4).trans E5).trans E6).wroteAt exq E7 K1 hz1 Ka; have E10 := ((E4.trans E5).trans E6).wroteAt exq E7 K1 hz1 Ka; have E11 := (E5.trans E6).wroteAt exq E7 K1 hz1 Ka; have E12 := E6.wroteAt exq E7 K1 hz1 Ka; have hB1 := (hB1.ext exq).of_heap (K1 _ Ka)
        have hB2 := (hB2.ext exq).of_heap (K1 _ Ka); have hB3 := (hB3.ext exq).of_heap (K1 _ Ka); have hO1 := (hO1.ext E6).wrote K1 Ka; have hQ1 := (hQ1.toB.ext E6).wrote K1 Ka; refine Gn<|Gs<|Gu<|Uo Jf Kz hB2 rfl<|Wo rfl (Vi (ps := [(0, .int _ _)]) (cs := [_, _, _]) Vy rfl rfl)<|Wo rfl (Qr rfl rfl)<|Zx rfl (fun h4 => ?_) (fun h4 => ?_); refine Zg Kr Kw rfl<|Vh u2 Jb hB1 rfl<|Zj Ja rfl h2<|Yx rfl<|Vz rfl<|Gn<|Gq rfl (fun h5 => ?_) (fun h5 => ?_); refine Gu<|Zg Kr Kw rfl<|Vh q1 Jb hB4 rfl<|Zj Ja rfl (OwnedB.read hQ1)<|Qb rfl<|Zv rfl<|Gn<|Gs ?_; rotate_left; (exfalso; omega); contradiction
      clear stop6
      obtain ⟨qb, qc, ur, rfl, hqc, hcl, hel, hqb, hqb2, icr⟩ := hQ1.elem (i := pp.length - 1) Ka
      have hcl : w7.cell? ⟨qb, 0 + ((pp.length : Int) - 1).toNat, none⟩ = some ur := by rw [Nat.zero_add, show ((pp.length : Int) - 1).toNat = pp.length - 1 by omega]; exact hcl
      focus
        have szE7 := E7.size; refine Zm<|Zg Kr Kw rfl<|Xl Jb hB4 rfl<|Gz rfl<|Wo rfl (Yn Ja Ku rfl rfl Ka) ?_; refine Wo rfl (Zz Kv rfl Kd) ?_; refine Zg Kr Ku rfl<|Yi (v := ur) rfl Ku rfl rfl (OwnedB.isC hel) hB4 Ki Ka E7 ?_; rintro w8 E13 hB4 K2 hz2; have E14 := E8.wroteAt E7 E13 K2 hz2 Ka; have E15 := E9.wroteAt E7 E13 K2 hz2 Ka; simp only [List.set] at hB4; have hB3 := hB3.of_heap (K2 _ Ka); have hQ1 := hQ1.wrote K2 Ka; have hel := hel.wrote K2 Ka; refine Gn<|Gs<|Zm<|Zg Kr Kw rfl<|Xl Jb hB4 rfl<|Gz rfl ?_
        refine Wo rfl (Xw Ja Ku rfl rfl Ka) ?_; refine Zg Kr Kw rfl<|Yi (v := .slice _ _ _) rfl Kw rfl rfl rfl hB4 Ki Ka E13 ?_; rintro w9 E19 hB4 K3 hz3; simp only [List.set] at hB4; have hB3 := hB3.of_heap (K3 _ Ka); have hQ1 := hQ1.wrote K3 Ka; have hel := hel.wrote K3 Ka; refine Gn<|Gu<|Vv Ks Ko hB4 rfl<|Ys Ko hB3 rfl E19 ?_; rintro w10 E25 hB3 K4 hz4; have hQ1 := hQ1.wrote K4 Ka; have hel := hel.wrote K4 Ka; refine Zh rfl<|Gn<|Zk ?_
      have hlast : pp.getLastD [] = pp[pp.length - 1] := by rw [List.getLastD_eq_getLast?, List.getLast?_eq_getElem?, List.getElem?_eq_getElem Ka]; rfl
      rw [hlast, List.dropLast_eq_take]
      refine ⟨b3, ur, _, rfl, hB3, ur, _, rfl, E25, hel.above.mono Ka, ?_, icr, rfl, Ka⟩
      rw [show ((pp.length : Int) - 1).toNat = pp.length - 1 by omega]
      exact (hQ1.above.mono Ka).takeS Ka
    · have hdo : doV ⟨p, pp⟩ ⟨k, t, n⟩ = match nextV p ⟨k, t, n⟩ with
        | some c => (⟨c, last8 (pp ++ [p])⟩, true)
        | none => (⟨p, pp⟩, false) := by unfold doV; rw [if_neg hb]; rfl
      rw [hdo]
      have hback : (⟨k, t, n⟩ : Deed) = ⟨4, [], 0⟩ → pp.length = 0 := fun e => Classical.byContradiction fun h => hb ⟨e, fun h' => h (by rw [show pp = [] from h']; rfl)⟩
      have k2 : ∀ w, ESl Ints w u1 p → Does Tryz.prog 93 [u1, .agg #[.int .i64 k, str t, .int .i64 n]] w (RetOB w XR (og (madeV p ⟨k, t, n⟩)) (madeV p ⟨k, t, n⟩).isSome) := fun w h => l11Made_ok w u1 p h hpp k n t ht
      have litown : True := trivial
      by_cases ha : (⟨k, t, n⟩ : Deed) = ⟨4, [], 0⟩
      · have hpl0 := hback ha
        cases ha
        have hmv : madeV p ⟨4, [], 0⟩ = none := by simp [madeV]
        have hnx : nextV p ⟨4, [], 0⟩ = none := by unfold nextV; rw [hmv]
        rw [hmv, show og none = [] from rfl, show (none : Option (List (List Int))).isSome = false from rfl] at k2
        rw [hnx]
        simp only
        focus
          refine Gu<|Vl rfl rfl rfl ?_; rintro b1 w1 hb3 E1 hB1; have hlb1 := hB1.lt; refine Vl rfl rfl rfl ?_; rintro b2 w2 hb4 E2 hB2; have hlb2 := hB2.lt; refine Zq rfl Vj ?_; rintro b3 w3 hb5 E3 hB3; have hlb3 := hB3.lt; refine Zh rfl<|Gn<|Gs<|Gs<|Zm<|Vv Ks Ko (hB1.ext exq) rfl<|Gv rfl (Vq (a := .agg _) Jv rfl) (k0 _ ((Mono.mono exq h1)) ((Mono.mono exq h2))) ?_; rintro _ w4 ⟨rfl, E4⟩; have hs4 := E4.size; refine Vo rfl<|Gn<|Vt rfl (fun h3 => ?_) (fun h3 => ?_); contradiction; refine Za<|Gu<|Vv Ks Ko (hB1.ext exq) rfl<|Gv rfl (Vq (a := .agg _) Jz rfl) (k1 _ ((Mono.mono exq h1)) ((Mono.mono exq h2))) ?_; rintro _ w5 ⟨u3, q1, m1, rfl, E5, hO1, hQ1, hm1, hn1⟩
          have icu3 := OwnedB.isC hO1; have icq1 := OwnedB.isC (Owned.toB hQ1); have hs5 := E5.size; refine Zq rfl Vj ?_; rintro b4 w6 hb6 E6 hB4; refine Xe rfl Ko rfl rfl Ke Ke hB4 Ka (((((E1.trans E2).trans E3).trans E4).trans E5).trans E6) ?_; rintro w7 E7 hB4 K1 hz1; have E8 := ((((E2.trans E3).trans E4).trans E5).trans E6).wroteAt exq E7 K1 hz1 Ka; have hB1 := (hB1.ext exq).of_heap (K1 _ Ka); have hB2 := (hB2.ext exq).of_heap (K1 _ Ka); have hB3 := (hB3.ext exq).of_heap (K1 _ Ka); have hO1 := (hO1.ext E6).wrote K1 Ka; have hQ1 := (hQ1.toB.ext E6).wrote K1 Ka; refine Gn<|Gs<|Gu<|Uo Jf Kz hB2 rfl ?_
          refine Wo rfl (Vi (ps := [(0, .int _ _)]) (cs := [_, _, _]) Vy rfl rfl)<|Wo rfl (Qr rfl rfl)<|Zx rfl (fun h4 => ?_) (fun h4 => ?_); refine Zg Kr Kw rfl<|Vh u2 Jb hB1 rfl<|Zj Ja rfl h2<|Yx rfl<|Vz rfl<|Gn<|Gq rfl (fun h5 => ?_) (fun h5 => ?_); (exfalso; omega); refine Za<|Gs<|Zm<|Zg Kr Ku rfl<|Vh u1 Kv hB1 rfl<|Uo Jf Kz hB2 rfl<|Gv rfl (Zw (a := u1) (b := .agg _) Gh rfl rfl) (k2 _ ((Mono.mono E7 h1))) ?_; rintro _ w8 ⟨u4, rfl, E13, hO2⟩; refine Xf rfl<|Xk u4 rfl<|Yp rfl<|Vm u4 rfl<|Zh rfl<|Gn<|Gs<|Gs<|Yl Ym Kb rfl ?_
          refine Uq rfl<|Rx rfl<|Um rfl (fun _ _ => Zs (v := .bool _) rfl) (fun h6 => ?_) (fun h6 => ?_); refine Gx rfl<|Gx rfl<|Gx rfl<|Gx rfl<|Gx rfl<|Gx rfl<|Gx rfl<|Gx rfl<|Gx rfl<|Gx rfl<|Gx rfl<|Gx rfl<|Gx rfl<|Gx rfl<|Rn rfl<|Yk (fun w9 E14 => ?_); refine Yb rfl ?_; refine Gu<|Vv Ks Ko (hB4.ext exq) rfl<|Ys Ko (hB3.ext (E13.trans E14)) rfl ((E7.trans E13).trans E14) ?_; rintro w10 E15 hB3 K2 hz2; have E16 := ((E8.trans E13).trans E14).wroteAt exq E15 K2 hz2 Ka; have szE16 := E16.size; have hO1 := (hO1.ext exq).wrote K2 Ka; have hQ1 := (hQ1.ext exq).wrote K2 Ka; refine Zh rfl<|Gn<|Zk ?_; rotate_left; contradiction; contradiction
        exact ⟨b3, u3, q1, rfl, hB3, u3, q1, rfl, by exact E15, hO1.above.mono Ka, hQ1.above.mono Ka, icu3, icq1, Ka⟩
      · cases hmv : madeV p ⟨k, t, n⟩ with
        | none =>
          have hnx : nextV p ⟨k, t, n⟩ = none := by unfold nextV; rw [hmv]
          rw [hmv, show og none = [] from rfl, show (none : Option (List (List Int))).isSome = false from rfl] at k2
          rw [hnx]
          simp only
          focus
            refine Gu<|Vl rfl rfl rfl ?_; rintro b1 w1 hb3 E1 hB1; have hlb1 := hB1.lt; refine Vl rfl rfl rfl ?_; rintro b2 w2 hb4 E2 hB2; have hlb2 := hB2.lt; refine Zq rfl Vj ?_; rintro b3 w3 hb5 E3 hB3; have hlb3 := hB3.lt; refine Zh rfl<|Gn<|Gs<|Gs<|Zm<|Vv Ks Ko (hB1.ext exq) rfl<|Gv rfl (Vq (a := .agg _) Jv rfl) (k0 _ ((Mono.mono exq h1)) ((Mono.mono exq h2))) ?_; rintro _ w4 ⟨rfl, E4⟩; have hs4 := E4.size; refine Vo rfl<|Gn<|Vt rfl (fun h3 => ?_) (fun h3 => ?_); contradiction; refine Za<|Gu<|Vv Ks Ko (hB1.ext exq) rfl<|Gv rfl (Vq (a := .agg _) Jz rfl) (k1 _ ((Mono.mono exq h1)) ((Mono.mono exq h2))) ?_; rintro _ w5 ⟨u3, q1, m1, rfl, E5, hO1, hQ1, hm1, hn1⟩
            have icu3 := OwnedB.isC hO1; have icq1 := OwnedB.isC (Owned.toB hQ1); have hs5 := E5.size; refine Zq rfl Vj ?_; rintro b4 w6 hb6 E6 hB4; refine Xe rfl Ko rfl rfl Ke Ke hB4 Ka (((((E1.trans E2).trans E3).trans E4).trans E5).trans E6) ?_; rintro w7 E7 hB4 K1 hz1; have E8 := ((((E2.trans E3).trans E4).trans E5).trans E6).wroteAt exq E7 K1 hz1 Ka; have hB1 := (hB1.ext exq).of_heap (K1 _ Ka); have hB2 := (hB2.ext exq).of_heap (K1 _ Ka); have hB3 := (hB3.ext exq).of_heap (K1 _ Ka); have hO1 := (hO1.ext E6).wrote K1 Ka; have hQ1 := (hQ1.toB.ext E6).wrote K1 Ka; refine Gn<|Gs<|Gu<|Uo Jf Kz hB2 rfl ?_
            refine Wo rfl (Vi (ps := [(0, .int _ _)]) (cs := [_, _, _]) Vy rfl rfl)<|Wo rfl (Qr rfl rfl)<|Zx rfl (fun h4 => ?_) (fun h4 => ?_); contradiction; refine Gp rfl<|Gp rfl<|Gp rfl<|Gp rfl<|Vg rfl<|Gn<|Ze rfl ?_; refine Za<|Gs<|Zm<|Zg Kr Ku rfl<|Vh u1 Kv hB1 rfl<|Uo Jf Kz hB2 rfl<|Gv rfl (Zw (a := u1) (b := .agg _) Gh rfl rfl) (k2 _ ((Mono.mono E7 h1))) ?_; rintro _ w8 ⟨u4, rfl, E13, hO2⟩; refine Xf rfl<|Xk u4 rfl<|Yp rfl<|Vm u4 rfl<|Zh rfl<|Gn<|Gs<|Gs<|Yl Ym Kb rfl ?_; refine Uq rfl<|Rx rfl<|Um rfl (fun _ _ => Zs (v := .bool _) rfl) (fun h5 => ?_) (fun h5 => ?_); refine Gx rfl ?_
            refine Gx rfl<|Gx rfl<|Gx rfl<|Gx rfl<|Gx rfl<|Gx rfl<|Gx rfl<|Gx rfl<|Gx rfl<|Gx rfl<|Gx rfl<|Gx rfl<|Gx rfl<|Rn rfl<|Yk (fun w9 E14 => ?_); refine Yb rfl ?_; refine Gu<|Vv Ks Ko (hB4.ext exq) rfl<|Ys Ko (hB3.ext (E13.trans E14)) rfl ((E7.trans E13).trans E14) ?_; rintro w10 E15 hB3 K2 hz2; have E16 := ((E8.trans E13).trans E14).wroteAt exq E15 K2 hz2 Ka; have szE16 := E16.size; have hO1 := (hO1.ext exq).wrote K2 Ka; have hQ1 := (hQ1.ext exq).wrote K2 Ka; refine Zh rfl<|Gn<|Zk ?_; rotate_left; contradiction
          exact ⟨b3, u3, q1, rfl, hB3, u3, q1, rfl, by exact E15, hO1.above.mono Ka, hQ1.above.mono Ka, icu3, icq1, Ka⟩
        | some c =>
          rw [hmv, show og (some c) = c from rfl, show (some c).isSome = true from rfl] at k2
          have hc : LeastP c := Rp hpp hmv
          have hcp := hc.1
          have k3 : ∀ (w : World) (v : Value), ESl Ints w v c → Does Tryz.prog 62 [v] w (Ret w (str (txt c))) := fun w v h => by
            have := Yj w v _ h
            rwa [if_pos hcp] at this
          by_cases hcq : c = p
          · subst hcq
            have hnx : nextV c ⟨k, t, n⟩ = none := by unfold nextV; rw [hmv]; simp
            rw [hnx]
            simp only
            focus
              refine Gu<|Vl rfl rfl rfl ?_; rintro b1 w1 hb3 E1 hB1; have hlb1 := hB1.lt; refine Vl rfl rfl rfl ?_; rintro b2 w2 hb4 E2 hB2; have hlb2 := hB2.lt; refine Zq rfl Vj ?_; rintro b3 w3 hb5 E3 hB3; have hlb3 := hB3.lt; refine Zh rfl<|Gn<|Gs<|Gs<|Zm<|Vv Ks Ko (hB1.ext exq) rfl<|Gv rfl (Vq (a := .agg _) Jv rfl) (k0 _ ((Mono.mono exq h1)) ((Mono.mono exq h2))) ?_; rintro _ w4 ⟨rfl, E4⟩; have hs4 := E4.size; refine Vo rfl<|Gn<|Vt rfl (fun h3 => ?_) (fun h3 => ?_); contradiction; refine Za<|Gu<|Vv Ks Ko (hB1.ext exq) rfl<|Gv rfl (Vq (a := .agg _) Jz rfl) (k1 _ ((Mono.mono exq h1)) ((Mono.mono exq h2))) ?_; rintro _ w5 ⟨u3, q1, m1, rfl, E5, hO1, hQ1, hm1, hn1⟩
              have icu3 := OwnedB.isC hO1; have icq1 := OwnedB.isC (Owned.toB hQ1); have hs5 := E5.size; refine Zq rfl Vj ?_; rintro b4 w6 hb6 E6 hB4; refine Xe rfl Ko rfl rfl Ke Ke hB4 Ka (((((E1.trans E2).trans E3).trans E4).trans E5).trans E6) ?_; rintro w7 E7 hB4 K1 hz1; have E8 := ((((E2.trans E3).trans E4).trans E5).trans E6).wroteAt exq E7 K1 hz1 Ka; have hB1 := (hB1.ext exq).of_heap (K1 _ Ka); have hB2 := (hB2.ext exq).of_heap (K1 _ Ka); have hB3 := (hB3.ext exq).of_heap (K1 _ Ka); have hO1 := (hO1.ext E6).wrote K1 Ka; have hQ1 := (hQ1.toB.ext E6).wrote K1 Ka; refine Gn<|Gs<|Gu<|Uo Jf Kz hB2 rfl ?_
              refine Wo rfl (Vi (ps := [(0, .int _ _)]) (cs := [_, _, _]) Vy rfl rfl)<|Wo rfl (Qr rfl rfl)<|Zx rfl (fun h4 => ?_) (fun h4 => ?_); contradiction; refine Gp rfl<|Gp rfl<|Gp rfl<|Gp rfl<|Vg rfl<|Gn<|Ze rfl ?_; refine Za<|Gs<|Zm<|Zg Kr Ku rfl<|Vh u1 Kv hB1 rfl<|Uo Jf Kz hB2 rfl<|Gv rfl (Zw (a := u1) (b := .agg _) Gh rfl rfl) (k2 _ ((Mono.mono E7 h1))) ?_; rintro _ w8 ⟨u4, rfl, E13, hO2⟩; refine Xf rfl<|Xk u4 rfl<|Yp rfl<|Vm u4 rfl<|Zh rfl<|Gn<|Gs<|Gs<|Yl Ym Kb rfl ?_; refine Uq rfl<|Rx rfl<|Um rfl (fun _ _ => Zs (v := .bool _) rfl) (fun h5 => ?_) (fun h5 => ?_); contradiction
              refine Xx u4 rfl<|Yd rfl (fun _ _ => Xo Kp rfl (Owned.read hO2)) ?_; refine Xb Kr Ku rfl<|Yd (v := u1) rfl (fun w' hw' => Zz Kv rfl (((hB1.ext E13).ext hw').cell rfl)) ?_; refine Yd rfl (fun _ _ => Xo Kp rfl h1) ?_; refine Ue rfl<|Xd rfl (fun h6 => ?_) (fun h6 => ?_); refine Xx u4 rfl<|Xu rfl (fun _ _ => Vq (a := u4) Jh rfl) (fun w' hw' => (k3 _ _ ((Mono.mono hw' (Owned.read hO2))))) ?_; refine Xb Kr Ku rfl<|Yd (v := u1) rfl (fun w' hw' => Zz Kv rfl (((hB1.ext E13).ext hw').cell rfl)) ?_; refine Xu rfl (fun _ _ => Vq (a := u1) Jh rfl) (fun w' hw' => (k3 _ _ ((Mono.mono exq h1)))) ?_; refine Yd rfl (fun _ _ => Xc rfl rfl) ?_
              refine Rn rfl<|Ub rfl<|Yk (fun w9 E14 => ?_); refine Gq rfl (fun h7 => ?_) (fun h7 => ?_); refine Gu<|Vv Ks Ko (hB4.ext exq) rfl<|Ys Ko (hB3.ext (E13.trans E14)) rfl ((E7.trans E13).trans E14) ?_; rintro w10 E15 hB3 K2 hz2; have E16 := ((E8.trans E13).trans E14).wroteAt exq E15 K2 hz2 Ka; have szE16 := E16.size; have hO1 := (hO1.ext exq).wrote K2 Ka; have hQ1 := (hQ1.ext exq).wrote K2 Ka; refine Zh rfl<|Gn<|Zk ?_; rotate_left; contradiction; contradiction
            exact ⟨b3, u3, q1, rfl, hB3, u3, q1, rfl, by exact E15, hO1.above.mono Ka, hQ1.above.mono Ka, icu3, icq1, Ka⟩
          · have hnx : nextV p ⟨k, t, n⟩ = some c := by unfold nextV; rw [hmv]; simp [hcq]
            rw [hnx]
            simp only
            have k4 : ∀ (w : World) (v : Value), ESl Ints w v p → Does Tryz.prog 62 [v] w (Ret w (str (txt p))) := fun w v h => by
              have := Yj w v _ h
              rwa [if_pos hpp] at this
            have htx : txt c ≠ txt p := fun e => hcq (txt_inj hcp.gr hpp.gr e)
            have stop12 : True := trivial
            focus
              refine Gu<|Vl rfl rfl rfl ?_; rintro b1 w1 hb3 E1 hB1; have hlb1 := hB1.lt; have hs1 := E1.size; refine Vl rfl rfl rfl ?_; rintro b2 w2 hb4 E2 hB2; have hlb2 := hB2.lt; refine Zq rfl Vj ?_; rintro b3 w3 hb5 E3 hB3; have hlb3 := hB3.lt; refine Zh rfl<|Gn<|Gs<|Gs<|Zm<|Vv Ks Ko (hB1.ext exq) rfl<|Gv rfl (Vq (a := .agg _) Jv rfl) (k0 _ ((Mono.mono exq h1)) ((Mono.mono exq h2))) ?_; rintro _ w4 ⟨rfl, E4⟩; have hs4 := E4.size; refine Vo rfl<|Gn<|Vt rfl (fun h3 => ?_) (fun h3 => ?_); contradiction; refine Za<|Gu<|Vv Ks Ko (hB1.ext exq) rfl<|Gv rfl (Vq (a := .agg _) Jz rfl) (k1 _ ((Mono.mono exq h1)) ((Mono.mono exq h2))) ?_; rintro _ w5 ⟨u3, q1, m1, rfl, E5, hO1, hQ1, hm1, hn1⟩
              have icu3 := OwnedB.isC hO1; have icq1 := OwnedB.isC (Owned.toB hQ1); have hs5 := E5.size; refine Zq rfl Vj ?_; rintro b4 w6 hb6 E6 hB4; have hlb4 := hB4.lt; have hs6 := E6.size; refine Xe rfl Ko rfl rfl Ke Ke hB4 Ka (((((E1.trans E2).trans E3).trans E4).trans E5).trans E6) ?_; rintro w7 E7 hB4 K1 hz1; have E8 := ((((E2.trans E3).trans E4).trans E5).trans E6).wroteAt exq E7 K1 hz1 Ka; have E9 := (((E3.trans E4).trans E5).trans E6).wroteAt exq E7 K1 hz1 Ka; have E10 := ((E4.trans E5).trans E6).wroteAt exq E7 K1 hz1 Ka; have E11 := (E5.trans E6).wroteAt exq E7 K1 hz1 Ka; have hB1 := (hB1.ext exq).of_heap (K1 _ Ka); have hB2 := (hB2.ext exq).of_heap (K1 _ Ka); have hB3 := (hB3.ext exq).of_heap (K1 _ Ka); have hO1 := (hO1.ext E6).wrote K1 Ka
              have hQ1 := (hQ1.toB.ext E6).wrote K1 Ka; refine Gn<|Gs<|Gu<|Uo Jf Kz hB2 rfl<|Wo rfl (Vi (ps := [(0, .int _ _)]) (cs := [_, _, _]) Vy rfl rfl)<|Wo rfl (Qr rfl rfl)<|Zx rfl (fun h4 => ?_) (fun h4 => ?_); contradiction; refine Gp rfl<|Gp rfl<|Gp rfl<|Gp rfl<|Vg rfl<|Gn<|Ze rfl ?_; refine Za<|Gs<|Zm<|Zg Kr Ku rfl<|Vh u1 Kv hB1 rfl<|Uo Jf Kz hB2 rfl<|Gv rfl (Zw (a := u1) (b := .agg _) Gh rfl rfl) (k2 _ ((Mono.mono E7 h1))) ?_; rintro _ w8 ⟨u4, rfl, E13, hO2⟩; have ichO2 := OwnedB.isC (Owned.toB hO2); have hs7 := E13.size; refine Xf rfl<|Xk u4 rfl<|Yp rfl ?_
              refine Vm u4 rfl<|Zh rfl<|Gn<|Gs<|Gs<|Yl Ym Kb rfl ?_; refine Uq rfl<|Rx rfl<|Um rfl (fun _ _ => Zs (v := .bool _) rfl) (fun h5 => ?_) (fun h5 => ?_); contradiction; refine Xx u4 rfl<|Yd rfl (fun _ _ => Xo Kp rfl (Owned.read hO2)) ?_; refine Xb Kr Ku rfl<|Yd (v := u1) rfl (fun w' hw' => Zz Kv rfl (((hB1.ext E13).ext hw').cell rfl)) ?_; refine Yd rfl (fun _ _ => Xo Kp rfl h1) ?_; refine Ue rfl<|Xd rfl (fun h6 => ?_) (fun h6 => ?_); refine Xx u4 rfl<|Xu rfl (fun _ _ => Vq (a := u4) Jh rfl) (fun w' hw' => (k3 _ _ ((Mono.mono hw' (Owned.read hO2))))) ?_; refine Xb Kr Ku rfl ?_
              refine Yd (v := u1) rfl (fun w' hw' => Zz Kv rfl (((hB1.ext E13).ext hw').cell rfl)) ?_; refine Xu rfl (fun _ _ => Vq (a := u1) Jh rfl) (fun w' hw' => (k4 _ _ ((Mono.mono exq h1)))) ?_; refine Yd rfl (fun _ _ => Xc rfl rfl) ?_; refine Rn rfl<|Ub rfl<|Yk (fun w9 E14 => ?_); have hs8 := E14.size; refine Gq rfl (fun h7 => ?_) (fun h7 => ?_); contradiction; refine Za<|Gs ?_; rotate_left; refine Gx rfl<|Gx rfl<|Gx rfl<|Gx rfl<|Gx rfl<|Gx rfl<|Ub rfl<|Ub rfl<|Yk (fun w9 E14 => ?_); have hs8 := E14.size; refine Ze rfl ?_; refine Za<|Gs ?_; rotate_left
            · clear stop12
              have stop13 : True := trivial
              have hQ0 := hQ1
              focus
                refine Zm<|Zg Kr Kw rfl<|Vh q1 Jb (hB4.ext exq) rfl<|Zg Kr Ku rfl<|Vh u3 Kv (hB4.ext exq) rfl<|Yg rfl Ja Ku Jn rfl (OwnedB.isC (hO1.ext exq)) rfl ?_; rintro b5 w10 hb7 E15 hB5 hHb5; have hs9 := E15.size; refine Wo_app1r rfl el24 rfl rfl hB5 (hQ0.ext ((E13.trans E14).trans E15)) (hO1.ext ((E13.trans E14).trans E15)) Kf Ka Ka (((E7.trans E13).trans E14).trans E15) Ka ?_; have hT1 := (hQ0.ext ((E13.trans E14).trans E15)); rintro v1 w11 hQ0 E16 M1; have E17 := M1.ext hT1 (((E8.trans E13).trans E14).trans E15) Ka; have szE17 := E17.size
                have E18 := M1.ext hT1 (((E9.trans E13).trans E14).trans E15) Ka; have E19 := M1.ext hT1 (((E10.trans E13).trans E14).trans E15) Ka; have E20 := M1.ext hT1 (((E11.trans E13).trans E14).trans E15) Ka; have hB4 := (hB4.ext exq).moves M1 hT1 Ka; have hB1 := (hB1.ext exq).moves M1 hT1 Ka; have hB2 := (hB2.ext exq).moves M1 hT1 Ka; have hB3 := (hB3.ext exq).moves M1 hT1 Ka; have hO1 := (hO1.ext exq).moves M1 hT1 Ka; have hO2 := (hO2.toB.ext exq).moves M1 hT1 Ka; have hB5 := hB5.moves M1 hT1 Ka; have hs10 := E16.size; have icv1 := OwnedB.isC (Owned.toB hQ0); refine Zg Kr Kw rfl<|Yi (v := v1) rfl Kw rfl rfl (OwnedB.isC hQ0.toB) hB4 Ki Ka E16 ?_
                rintro w12 E21 hB4 K2 hz2; have E22 := E17.wroteAt E16 E21 K2 hz2 Ka; have E23 := E18.wroteAt E16 E21 K2 hz2 Ka; have E24 := E19.wroteAt E16 E21 K2 hz2 Ka; have E25 := E20.wroteAt E16 E21 K2 hz2 Ka; simp only [List.set] at hB4; have hB1 := hB1.of_heap (K2 _ Ka); have hB2 := hB2.of_heap (K2 _ Ka); have hB3 := hB3.of_heap (K2 _ Ka); have hO1 := hO1.wrote K2 Ka; have hO2 := hO2.wrote K2 Ka; have hB5 := hB5.of_heap (K2 _ Ka); refine Gn<|Gs<|Gs ?_
              clear stop13
              have hM : Moves w10 q1 w11 v1 := M1
              have hne := hM.ne hQ1 (b := b4) Ka Ka
              clear hQ1
              obtain ⟨nb, nc, rfl, hnc⟩ := hQ0.lit Ki
              have hnl : (pp ++ [p]).length = pp.length + 1 := Ki
              rw [hnl] at hB4 hQ0 hne hnc
              focus
                have szE7 := E7.size; refine Zm<|Zg Kr Kw rfl<|Xl Jb hB4 rfl<|Zj Ja rfl (Owned.read hQ0)<|Yx rfl<|Gn<|Gq rfl (fun h8 => ?_) (fun h8 => ?_); refine Zm<|Zg Kr Kw rfl<|Xl Jb hB4 rfl<|Wo rfl (Xm Ja Ku rfl rfl Ka) ?_; refine Zg Kr Kw rfl<|Yi (v := .slice _ _ _) rfl Kw rfl rfl rfl hB4 Ki Ka E21 ?_; rintro w13 E26 hB4 K3 hz3; have E27 := E22.wroteAt E21 E26 K3 hz3 Ka; have E28 := E23.wroteAt E21 E26 K3 hz3 Ka; simp only [List.set] at hB4; have hB3 := hB3.of_heap (K3 _ Ka); have hO2 := hO2.wrote K3 Ka; refine Gn<|Gu<|Zb u4 rfl ?_
                refine Zg Kr Ku rfl<|Yi (v := u4) rfl Ku rfl rfl (OwnedB.isC hO2) hB4 Ki Ka E26 ?_; rintro w14 E31 hB4 K4 hz4; simp only [List.set] at hB4; have hB3 := hB3.of_heap (K4 _ Ka); have hO2 := hO2.wrote K4 Ka; refine Gn<|Gu<|Vv Ks Ko hB4 rfl<|Ys Ko hB3 rfl E31 ?_; rintro w15 E36 hB3 K5 hz5; have hO2 := hO2.wrote K5 Ka; refine Zh rfl<|Gn<|Zk ?_; rotate_left; refine Za<|Gu<|Zb u4 rfl<|Zg Kr Ku rfl<|Yi (v := u4) rfl Ku rfl rfl (OwnedB.isC hO2) hB4 Ki Ka E21 ?_; rintro w13 E26 hB4 K3 hz3; simp only [List.set] at hB4; have hB3 := hB3.of_heap (K3 _ Ka); have hO2 := hO2.wrote K3 Ka; refine Gn<|Gu ?_
                refine Vv Ks Ko hB4 rfl<|Ys Ko hB3 rfl E26 ?_; rintro w14 E31 hB3 K4 hz4; have hO2 := hO2.wrote K4 Ka; refine Zh rfl<|Gn<|Zk ?_; rotate_left
              · have hQ3 := (hQ0.wroteLt (w' := w15) (fun k h1 h2 => (K5 k Ka).trans ((K4 k h2).trans ((K3 k h2).trans (K2 k h2)))) Ka hne).above.mono (show w.heap.size ≤ w4.heap.size by omega)
                refine ⟨b3, u4, _, rfl, hB3, u4, _, rfl, by exact E36, hO2.above.mono Ka, ?_, Kd, rfl, Ka⟩
                rw [show last8 (pp ++ [p]) = (pp ++ [p]).drop 1 from if_pos Ka]
                exact hQ3.dropS Ka
              · have hQ3 := (hQ0.wroteLt (w' := w14) (fun k h1 h2 => (K4 k Ka).trans ((K3 k h2).trans (K2 k h2))) Ka hne).above.mono (show w.heap.size ≤ w4.heap.size by omega)
                refine ⟨b3, u4, _, rfl, hB3, u4, _, rfl, by exact E31, hO2.above.mono Ka, ?_, Kd, rfl, Ka⟩
                rw [show last8 (pp ++ [p]) = pp ++ [p] from if_neg Ka]
                exact hQ3
            · clear stop12
              have stop13 : True := trivial
              have hQ0 := hQ1
              focus
                refine Zm<|Zg Kr Kw rfl<|Vh q1 Jb (hB4.ext exq) rfl<|Zg Kr Ku rfl<|Vh u3 Kv (hB4.ext exq) rfl<|Yg rfl Ja Ku Jn rfl (OwnedB.isC (hO1.ext exq)) rfl ?_; rintro b5 w10 hb7 E15 hB5 hHb5; have hs9 := E15.size; refine Wo_app1r rfl el24 rfl rfl hB5 (hQ0.ext ((E13.trans E14).trans E15)) (hO1.ext ((E13.trans E14).trans E15)) Kf Ka Ka (((E7.trans E13).trans E14).trans E15) Ka ?_; have hT1 := (hQ0.ext ((E13.trans E14).trans E15)); rintro v1 w11 hQ0 E16 M1; have E17 := M1.ext hT1 (((E8.trans E13).trans E14).trans E15) Ka; have szE17 := E17.size
                have E18 := M1.ext hT1 (((E9.trans E13).trans E14).trans E15) Ka; have E19 := M1.ext hT1 (((E10.trans E13).trans E14).trans E15) Ka; have E20 := M1.ext hT1 (((E11.trans E13).trans E14).trans E15) Ka; have hB4 := (hB4.ext exq).moves M1 hT1 Ka; have hB1 := (hB1.ext exq).moves M1 hT1 Ka; have hB2 := (hB2.ext exq).moves M1 hT1 Ka; have hB3 := (hB3.ext exq).moves M1 hT1 Ka; have hO1 := (hO1.ext exq).moves M1 hT1 Ka; have hO2 := (hO2.toB.ext exq).moves M1 hT1 Ka; have hB5 := hB5.moves M1 hT1 Ka; have hs10 := E16.size; have icv1 := OwnedB.isC (Owned.toB hQ0); refine Zg Kr Kw rfl<|Yi (v := v1) rfl Kw rfl rfl (OwnedB.isC hQ0.toB) hB4 Ki Ka E16 ?_
                rintro w12 E21 hB4 K2 hz2; have E22 := E17.wroteAt E16 E21 K2 hz2 Ka; have E23 := E18.wroteAt E16 E21 K2 hz2 Ka; have E24 := E19.wroteAt E16 E21 K2 hz2 Ka; have E25 := E20.wroteAt E16 E21 K2 hz2 Ka; simp only [List.set] at hB4; have hB1 := hB1.of_heap (K2 _ Ka); have hB2 := hB2.of_heap (K2 _ Ka); have hB3 := hB3.of_heap (K2 _ Ka); have hO1 := hO1.wrote K2 Ka; have hO2 := hO2.wrote K2 Ka; have hB5 := hB5.of_heap (K2 _ Ka); refine Gn<|Gs<|Gs ?_
              clear stop13
              have hM : Moves w10 q1 w11 v1 := M1
              have hne := hM.ne hQ1 (b := b4) Ka Ka
              clear hQ1
              obtain ⟨nb, nc, rfl, hnc⟩ := hQ0.lit Ki
              have hnl : (pp ++ [p]).length = pp.length + 1 := Ki
              rw [hnl] at hB4 hQ0 hne hnc
              focus
                have szE7 := E7.size; refine Zm<|Zg Kr Kw rfl<|Xl Jb hB4 rfl<|Zj Ja rfl (Owned.read hQ0)<|Yx rfl<|Gn<|Gq rfl (fun h7 => ?_) (fun h7 => ?_); refine Zm<|Zg Kr Kw rfl<|Xl Jb hB4 rfl<|Wo rfl (Xm Ja Ku rfl rfl Ka) ?_; refine Zg Kr Kw rfl<|Yi (v := .slice _ _ _) rfl Kw rfl rfl rfl hB4 Ki Ka E21 ?_; rintro w13 E26 hB4 K3 hz3; have E27 := E22.wroteAt E21 E26 K3 hz3 Ka; have E28 := E23.wroteAt E21 E26 K3 hz3 Ka; simp only [List.set] at hB4; have hB3 := hB3.of_heap (K3 _ Ka); have hO2 := hO2.wrote K3 Ka; refine Gn<|Gu<|Zb u4 rfl ?_
                refine Zg Kr Ku rfl<|Yi (v := u4) rfl Ku rfl rfl (OwnedB.isC hO2) hB4 Ki Ka E26 ?_; rintro w14 E31 hB4 K4 hz4; simp only [List.set] at hB4; have hB3 := hB3.of_heap (K4 _ Ka); have hO2 := hO2.wrote K4 Ka; refine Gn<|Gu<|Vv Ks Ko hB4 rfl<|Ys Ko hB3 rfl E31 ?_; rintro w15 E36 hB3 K5 hz5; have hO2 := hO2.wrote K5 Ka; refine Zh rfl<|Gn<|Zk ?_; rotate_left; refine Za<|Gu<|Zb u4 rfl<|Zg Kr Ku rfl<|Yi (v := u4) rfl Ku rfl rfl (OwnedB.isC hO2) hB4 Ki Ka E21 ?_; rintro w13 E26 hB4 K3 hz3; simp only [List.set] at hB4; have hB3 := hB3.of_heap (K3 _ Ka); have hO2 := hO2.wrote K3 Ka; refine Gn<|Gu ?_
                refine Vv Ks Ko hB4 rfl<|Ys Ko hB3 rfl E26 ?_; rintro w14 E31 hB3 K4 hz4; have hO2 := hO2.wrote K4 Ka; refine Zh rfl<|Gn<|Zk ?_; rotate_left
              · have hQ3 := (hQ0.wroteLt (w' := w15) (fun k h1 h2 => (K5 k Ka).trans ((K4 k h2).trans ((K3 k h2).trans (K2 k h2)))) Ka hne).above.mono (show w.heap.size ≤ w4.heap.size by omega)
                refine ⟨b3, u4, _, rfl, hB3, u4, _, rfl, by exact E36, hO2.above.mono Ka, ?_, Kd, rfl, Ka⟩
                rw [show last8 (pp ++ [p]) = (pp ++ [p]).drop 1 from if_pos Ka]
                exact hQ3.dropS Ka
              · have hQ3 := (hQ0.wroteLt (w' := w14) (fun k h1 h2 => (K4 k Ka).trans ((K3 k h2).trans (K2 k h2))) Ka hne).above.mono (show w.heap.size ≤ w4.heap.size by omega)
                refine ⟨b3, u4, _, rfl, hB3, u4, _, rfl, by exact E31, hO2.above.mono Ka, ?_, Kd, rfl, Ka⟩
                rw [show last8 (pp ++ [p]) = pp ++ [p] from if_neg Ka]
                exact hQ3
  · have k0 : ∀ w, ESl Ints w u1 p → ESl (ESl Ints) w u2 pp → Does Tryz.prog 16 [.agg #[u1, u2]] w (Ret w (.bool false)) := fun w h1 h2 => by
      have := Qi w u1 u2 ⟨p, pp⟩ h1 h2; rwa [decide_eq_false hd] at this
    rw [if_neg hd, if_neg hd, decide_eq_false hd, Bool.false_and]
    focus
      refine Gu<|Vl rfl rfl rfl ?_; rintro b1 w1 hb1 E1 hB1; have hlb1 := hB1.lt; refine Vl rfl rfl rfl ?_; rintro b2 w2 hb2 E2 hB2; have hlb2 := hB2.lt; refine Zq rfl Vj ?_; rintro b3 w3 hb3 E3 hB3; refine Zh rfl<|Gn<|Gs<|Gs<|Zm<|Vv Ks Ko (hB1.ext exq) rfl<|Gv rfl (Vq (a := .agg _) Jv rfl) (k0 _ ((Mono.mono exq h1)) ((Mono.mono exq h2))) ?_; rintro _ w4 ⟨rfl, E4⟩; refine Vo rfl<|Gn<|Vt rfl (fun h3 => ?_) (fun h3 => ?_); refine Gu<|Wo rfl (Vi (ps := []) (cs := [_, _]) Vj rfl rfl)<|Xe rfl Ko rfl rfl Ke Ke (hB3.ext E4) Ka (((E1.trans E2).trans E3).trans E4) ?_; rintro w5 E5 hB3 K1 hz1; have E6 := ((E2.trans E3).trans E4).wroteAt exq E5 K1 hz1 Ka; have szE6 := E6.size
      refine Zh rfl<|Gn<|Zk ?_; rotate_left; contradiction
    exact ⟨b3, _, _, rfl, hB3, _, _, rfl, by exact E5, (Owned.nil (e := 0) (X := XSl 0 XInt)).above, (Owned.nil (e := 0) (X := XSl 0 (XSl 0 XInt))).above, rfl, rfl, Ka⟩
end Go.Proofs.YtbgpppaljpngmaaGreatDoor
namespace Go.Proofs.YtbgpppaljpngmaaGreatDoor
open Go.Hs
set_option maxRecDepth 10000
set_option maxHeartbeats 4000000
set_option linter.unusedVariables false
set_option linter.unusedSimpArgs false
theorem sameDesk_ok (w : World) (u1 u2 v1 v2 : Value) (p p' : List (List Int)) (q q' : List (List (List Int))) (h1 : ESl Ints w u1 p) (h2 : ESl (ESl Ints) w u2 q) (h3 : ESl Ints w v1 p') (h4 : ESl (ESl Ints) w v2 q') :
    Does Tryz.prog 15 [.agg #[u1, u2], .agg #[v1, v2]] w (Ret w (.bool (decide (p = p' ∧ q = q')))) := by
  have icu1 : isCell u1 = true := Xp h1
  have icu2 : isCell u2 = true := Xp h2
  have icv1 : isCell v1 = true := Xp h3
  have icv2 : isCell v2 = true := Xp h4
  have hle := h2.le
  have hle' := h4.le
  refine Zt Tryz.func15 rfl Tryz.results15 Tryz.ntmps15 rfl ?_
  focus
    refine Gu<|Vl rfl rfl rfl ?_; rintro b1 w1 hb1 E1 hB1; refine Vl rfl rfl rfl ?_; rintro b2 w2 hb2 E2 hB2; refine Zh rfl<|Gn<|Gs<|Gu<|Zg Kr Kw rfl<|Vh u2 Jb (hB1.ext E2) rfl<|Zj Ja rfl h2<|Zg Kr Kw rfl<|Vh v2 Jb hB2 rfl<|Zj Ja rfl h4<|Xy rfl<|Gn<|Vf rfl (fun h5 => ?_) (fun h5 => ?_); refine Gu<|Zh rfl<|Gn<|Zk ?_; refine Zo (v := .bool _) rfl ?_; refine ⟨congrArg Value.bool ?_, exq⟩; rotate_left; refine Za<|Gs<|Gu<|Zv rfl<|Gn<|Gy ?_; rotate_left
  · exact (decide_eq_false (fun e => by obtain ⟨_, e⟩ := e; subst e; omega)).symm
  refine Vc [4, 5, 13, 14, 15, 16, 17, 18, 19, 20, 21, 22, 23, 24, 25, 26, 27, 28, 29, 30, 31] (fun (k : Nat) => [(5, .int .i64 (k : Nat))]) (fun k w' => Ext w2 w' ∧ k ≤ q.length ∧ q.take k = q'.take k) (fun x => q.length - x) 0 Kg ?_ ?_
  · exact ⟨Ext.refl _, Nat.zero_le _, Ki⟩
  rintro k ρj w3 ⟨E3, hk, he⟩
  focus
    refine Gs<|Gu<|Gz rfl<|Zg Kr Kw rfl<|Vh u2 Jb (hB1.ext exq) rfl<|Zj Ja rfl h2<|Zn rfl<|Gn<|Gq rfl (fun h6 => ?_) (fun h6 => ?_); refine Za<|Gs<|Gy<|Gs<|Yl Ym Kb rfl ?_; refine Xb Kr Kw rfl<|Yd (v := u2) rfl (fun w' hw' => Zz Jb rfl (((hB1.ext exq).ext hw').cell rfl)) ?_; refine Qm rfl<|Yt Ja Ku Kv rfl (fun _ => rfl) rfl h2 exq rfl Kf ?_; rintro _ u3 hu1; refine Xb Kr Kw rfl<|Yd (v := v2) rfl (fun w' hw' => Zz Jb rfl (((hB2.ext E3).ext hw').cell rfl)) ?_
    refine Qm rfl<|Yt Ja Ku Kv rfl (fun _ => rfl) rfl h4 exq rfl Kf ?_; rintro _ u4 hu2; refine Xu rfl (fun _ _ => Zw (a := u3) (b := u4) Tryz.call72 rfl rfl) (fun w' hw' => (sameRows_ok _ _ _ _ _ ((Mono.mono exq hu1)) ((Mono.mono exq hu2)))) ?_; refine Rx rfl<|Yk (fun w4 E4 => ?_); refine Vf rfl (fun h7 => ?_) (fun h7 => ?_); refine Gu<|Zh rfl<|Gn<|Zk ?_; refine Zo (v := .bool _) rfl ?_; refine ⟨congrArg Value.bool ?_, exq⟩; rotate_left; refine Za<|Zm<|Gz rfl<|Zy rfl<|Zv rfl<|Gn ?_; rotate_left; refine Va ?_; refine Zd ?_; refine Gu<|Zg Kr Ku rfl<|Vh u1 Kv (hB1.ext exq) rfl<|Zg Kr Ku rfl<|Vh v1 Kv (hB2.ext E3) rfl ?_
    refine Gv rfl (Zw (a := u1) (b := v1) Tryz.call72 rfl rfl) (sameRows_ok _ _ _ _ _ ((Mono.mono exq h1)) ((Mono.mono exq h3))) ?_; rintro _ w4 ⟨rfl, E4⟩; refine Zh rfl<|Gn<|Zk ?_; refine Zo (v := .bool _) rfl ?_; refine ⟨congrArg Value.bool ?_, exq⟩; rotate_left
  · exact (decide_eq_false (fun e => ne_at (k := k) Ka Ka Kd e.2)).symm
  · refine ⟨(k + 1), Kg, Kh, ?_, ?_⟩
    · exact ⟨E3.trans Kd, Ka, (Qf Ka Ka).2 ⟨he, Kd⟩⟩
    · omega
  · obtain rfl : k = q.length := by omega
    have hq := ext_take Ka he
    rw [hq]
    simp
end Go.Proofs.YtbgpppaljpngmaaGreatDoor
namespace Go.Proofs.YtbgpppaljpngmaaGreatDoor
open Go.Hs
set_option maxRecDepth 10000
set_option maxHeartbeats 4000000
set_option linter.unusedVariables false
set_option linter.unusedSimpArgs false
open Classical in
noncomputable def ddV (d : Dsk) (a : Deed) : Dsk × Bool := if DkOk d then doV d a else (⟨[], []⟩, false)
open Classical in
theorem impl_DeskDo_ok (w : World) (hM : EMx gMx w (.bool true) ()) (u1 u2 : Value) (d : Dsk) (h1 : ESl Ints w u1 d.now) (h2 : ESl (ESl Ints) w u2 d.past) (k n : Int) (t : List UInt8) (ht : t.length ≤ 1048576) :
    Does Tryz.prog 36 [.agg #[u1, u2], .agg #[.int .i64 k, str t, .int .i64 n]] w (RetDkB w 23 88 3 (ddV d ⟨k, t, n⟩).1.now (ddV d ⟨k, t, n⟩).1.past (ddV d ⟨k, t, n⟩).2) := by
  have icu1 : isCell u1 = true := Xp h1
  have icu2 : isCell u2 = true := Xp h2
  refine Ry Tryz.func36 rfl Tryz.results36 Tryz.ntmps36 rfl Ks Ko ?_
  by_cases hd : DkOk d
  · rw [show ddV d ⟨k, t, n⟩ = doV d ⟨k, t, n⟩ from if_pos hd]
    have k0 : ∀ w, ESl Ints w u1 d.now → ESl (ESl Ints) w u2 d.past → Does Tryz.prog 58 [.agg #[u1, u2]] w (Ret w (.bool true)) := fun w h1 h2 => by
      have := isDesk_ok w u1 u2 d h1 h2; rwa [decide_eq_true hd] at this
    have k1 : ∀ w, EMx gMx w (.bool true) () → ESl Ints w u1 d.now → ESl (ESl Ints) w u2 d.past → Does Tryz.prog 92 [.agg #[u1, u2], .agg #[.int .i64 k, str t, .int .i64 n]] w (RetDkB w 23 88 3 (doV d ⟨k, t, n⟩).1.now (doV d ⟨k, t, n⟩).1.past (doV d ⟨k, t, n⟩).2) := fun w hM h1 h2 => deskDo_ok w hM u1 u2 d h1 h2 hd k n t ht
    focus
      refine Gu<|Vl rfl rfl rfl ?_; rintro b1 w1 hb1 E1 hB1; have hlb1 := hB1.lt; refine Vl rfl rfl rfl ?_; rintro b2 w2 hb2 E2 hB2; have hlb2 := hB2.lt; refine Zq rfl Vj ?_; rintro b3 w3 hb3 E3 hB3; have hlb3 := hB3.lt; refine Zh rfl<|Gn<|Gs<|Gs<|Zm<|Vv Ks Ko (hB1.ext exq) rfl<|Gv rfl (Vq (a := .agg _) Tryz.call58 rfl) (k0 _ ((Mono.mono exq h1)) ((Mono.mono exq h2))) ?_; rintro _ w4 ⟨rfl, E4⟩; have hs4 := E4.size; refine Vo rfl<|Gn<|Vt rfl (fun h3 => ?_) (fun h3 => ?_); contradiction; refine Za<|Gu<|Vv Ks Ko (hB1.ext exq) rfl<|Uo Jf Kz (hB2.ext exq) rfl<|Gv rfl (Zw (a := .agg _) (b := .agg _) Tryz.call92 rfl rfl) (k1 _ ((Mono.mono exq hM)) ((Mono.mono exq h1)) ((Mono.mono exq h2))) ?_
      rintro _ w5 ⟨u3, q1, m1, rfl, E5, hO1, hQ1, hm1, hn1⟩; have icu3 := OwnedB.isC hO1; have icq1 := OwnedB.isC (Owned.toB hQ1); refine Rl rfl<|Yp rfl<|Xe rfl Ko rfl rfl Ke Ke (hB3.ext (E4.trans E5)) Ka ((((E1.trans E2).trans E3).trans E4).trans E5) ?_; rintro w6 E6 hB3 K1 hz1; have hO1 := hO1.wrote K1 Ka; have hQ1 := hQ1.toB.wrote K1 Ka; refine Zh rfl<|Gn<|Zk ?_
    exact ⟨b3, u3, q1, rfl, hB3, u3, q1, m1, rfl, by exact E6, hO1.wide Ka (Nat.le_refl _), hQ1.o, Ka, Ka⟩
  · rw [show ddV d ⟨k, t, n⟩ = (⟨[], []⟩, false) from if_neg hd]
    have k0 : ∀ w, ESl Ints w u1 d.now → ESl (ESl Ints) w u2 d.past → Does Tryz.prog 58 [.agg #[u1, u2]] w (Ret w (.bool false)) := fun w h1 h2 => by
      have := isDesk_ok w u1 u2 d h1 h2; rwa [decide_eq_false hd] at this
    focus
      refine Gu<|Vl rfl rfl rfl ?_; rintro b1 w1 hb1 E1 hB1; have hlb1 := hB1.lt; refine Vl rfl rfl rfl ?_; rintro b2 w2 hb2 E2 hB2; have hlb2 := hB2.lt; refine Zq rfl Vj ?_; rintro b3 w3 hb3 E3 hB3; refine Zh rfl<|Gn<|Gs<|Gs<|Zm<|Vv Ks Ko (hB1.ext exq) rfl<|Gv rfl (Vq (a := .agg _) Tryz.call58 rfl) (k0 _ ((Mono.mono exq h1)) ((Mono.mono exq h2))) ?_; rintro _ w4 ⟨rfl, E4⟩; refine Vo rfl<|Gn<|Vt rfl (fun h3 => ?_) (fun h3 => ?_); refine Gu<|Wo rfl (Vi (ps := []) (cs := [_, _]) Vj rfl rfl)<|Xe rfl Ko rfl rfl Ke Ke (hB3.ext E4) Ka (((E1.trans E2).trans E3).trans E4) ?_; rintro w5 E5 hB3 K1 hz1; have E6 := ((E2.trans E3).trans E4).wroteAt exq E5 K1 hz1 Ka; have szE6 := E6.size
      refine Zh rfl<|Gn<|Zk ?_; rotate_left; contradiction
    exact ⟨b3, _, _, rfl, hB3, _, _, w.heap.size, rfl, by exact E5, OwnedB.nil, Owned.nil, Nat.le_refl _, Ka⟩
end Go.Proofs.YtbgpppaljpngmaaGreatDoor
namespace Go.Hs
inductive Fm where
  | t
  | neg (f : Fm)
  | S (f : Fm)
  | A (f : Fm)
  | and (f g : Fm)
  | or (f g : Fm)
  deriving DecidableEq, Inhabited
namespace Fm
def enc : Fm → List UInt8
  | t => [116]
  | neg f => 33 :: enc f
  | S f => 83 :: enc f
  | A f => 65 :: enc f
  | and f g => 40 :: (enc f ++ 38 :: (enc g ++ [41]))
  | or f g => 40 :: (enc f ++ 124 :: (enc g ++ [41]))
end Fm
end Go.Hs
namespace Go.Proofs.YtbgpppaljpngmaaGreatDoor
open Go.Hs
set_option maxRecDepth 10000
set_option maxHeartbeats 4000000
set_option linter.unusedVariables false
end Go.Proofs.YtbgpppaljpngmaaGreatDoor
namespace Go.Proofs.YtbgpppaljpngmaaGreatDoor
open Go.Hs
set_option maxRecDepth 10000
set_option maxHeartbeats 4000000
set_option linter.unusedVariables false
theorem Vs {w0 : World} (w : World) {br m : Nat} (n : Int) (hr : Rdr w0 w br m) (hm : m ≤ 1000000000) :
    Does Tryz.prog 75 [.pointer (some ⟨br, 0, none⟩), .int .i64 n] w (RetD w0 w br (m + 1) (fun x : Nat => .int .i64 (x : Int)) (fun x _ => 1 ≤ n → (x : Int) < n)) := by
  obtain ⟨E0, hge, hlt, vb, bs, p, hb, hlen, hB, hp⟩ := hr
  have hbs := hb.le
  refine Zt Tryz.func75 rfl Tryz.results75 Tryz.ntmps75 rfl ?_
  have hG : w.grownBy w (some br) := Uu _ _
  have hp1 : (p : Int) + 1 - 1 = p := Ka
  rcases Nat.eq_zero_or_pos bs.length with h0 | h0
  · have e0 : bs = [] := List.eq_nil_of_length_eq_zero h0
    focus
      have szE0 := E0.size; refine Gu<|Zv rfl<|Gn<|Gu<|Ug rfl<|Ug rfl<|Wo rfl (Yo rfl)<|Zg Jo Kl rfl<|Vk Kn hB rfl<|Zy rfl<|Wo rfl (Yo rfl)<|Zg Jo Kl rfl<|Yi (v := .int _ _) rfl Kl rfl rfl rfl hB Ki Ka E0 ?_; rintro w1 E1 hB K1 hz1; simp only [List.set] at hB; have hG := Zf hG E0 E1 K1 hz1 (by first | exact .inr rfl | omega); refine Gn<|Gs<|Gu<|Gz rfl<|Zn rfl<|Zx rfl (fun h1 => ?_) (fun h1 => ?_); refine Gp rfl<|Gp rfl<|Gp rfl<|Gp rfl<|Gp rfl<|Gp rfl<|Vz rfl<|Gn<|Yb rfl ?_; refine Gu ?_
      refine Zv rfl<|Gn<|Zk ?_; refine Zo (v := .int _ _) rfl ?_; rotate_left; refine Ug rfl<|Wo rfl (Yo rfl)<|Zg Jo Gb rfl<|Vh vb Gc hB rfl<|Zj Jk rfl hb<|Zu rfl<|Vg rfl<|Gn<|Gq rfl (fun h2 => ?_) (fun h2 => ?_); refine Gu<|Zv rfl<|Gn<|Zk ?_; refine Zo (v := .int _ _) rfl ?_; rotate_left; (exfalso; omega)
    all_goals exact ⟨0, rfl, hG, ⟨Kd, hge, hB.lt, vb, bs, p + 1, hb, hlen, hB, Ka⟩, fun h => Ka⟩
  have hL : (0 : Int) < (bs.length : Int) := Ka
  have hm1 := Int.emod_lt_of_pos (p : Int) hL
  have hm2 := Int.emod_nonneg (p : Int) (show (bs.length : Int) ≠ 0 by omega)
  have hm3 := Int.emod_lt_of_pos ((p : Int) * 7 + 3) hL
  have hm4 := Int.emod_nonneg ((p : Int) * 7 + 3) (show (bs.length : Int) ≠ 0 by omega)
  have hm5 : (p : Int) / (bs.length : Int) ≤ p := Int.ediv_le_self _ Ka
  have hm6 : 0 ≤ (p : Int) / (bs.length : Int) := Int.ediv_nonneg Ka Ka
  have hm1 := Int.emod_lt_of_pos ((p : Int) + 1 - 1) hL
  have hm2 := Int.emod_nonneg ((p : Int) + 1 - 1) (show (bs.length : Int) ≠ 0 by omega)
  have hm3 := Int.emod_lt_of_pos (((p : Int) + 1 - 1) * 7 + 3) hL
  have hm4 := Int.emod_nonneg (((p : Int) + 1 - 1) * 7 + 3) (show (bs.length : Int) ≠ 0 by omega)
  have hm5 : ((p : Int) + 1 - 1) / (bs.length : Int) ≤ p := by rw [hp1]; exact hm5
  have hm6 : 0 ≤ ((p : Int) + 1 - 1) / (bs.length : Int) := by rw [hp1]; exact hm6
  focus
    have szE0 := E0.size; refine Gu<|Zv rfl<|Gn<|Gu<|Ug rfl<|Ug rfl<|Wo rfl (Yo rfl)<|Zg Jo Kl rfl<|Vk Kn hB rfl<|Zy rfl<|Wo rfl (Yo rfl)<|Zg Jo Kl rfl<|Yi (v := .int _ _) rfl Kl rfl rfl rfl hB Ki Ka E0 ?_; rintro w1 E1 hB K1 hz1; simp only [List.set] at hB; have hG := Zf hG E0 E1 K1 hz1 (by first | exact .inr rfl | omega); refine Gn<|Gs<|Gu<|Gz rfl<|Zn rfl<|Zx rfl (fun h1 => ?_) (fun h1 => ?_); refine Gp rfl<|Gp rfl<|Gp rfl<|Gp rfl<|Gp rfl<|Gp rfl<|Vz rfl<|Gn<|Yb rfl ?_; refine Gu ?_
    refine Zv rfl<|Gn<|Zk ?_; refine Zo (v := .int _ _) rfl ?_; rotate_left; refine Ug rfl<|Wo rfl (Yo rfl)<|Zg Jo Gb rfl<|Vh vb Gc hB rfl<|Zj Jk rfl hb<|Zu rfl<|Vg rfl<|Gn<|Gq rfl (fun h2 => ?_) (fun h2 => ?_); (exfalso; omega); refine Za<|Gs<|Zm<|Ug rfl<|Wo rfl (Yo rfl)<|Zg Jo Kl rfl<|Vk Kn hB rfl<|Qb rfl<|Zv rfl<|Gn<|Gs<|Gs<|Zm<|Gz rfl<|Ug rfl<|Wo rfl (Yo rfl)<|Zg Jo Gb rfl<|Vh vb Gc hB rfl<|Zj Jk rfl hb<|Zn rfl<|Gn<|Gq rfl (fun h3 => ?_) (fun h3 => ?_); refine Gu<|Ug rfl ?_
    refine Wo rfl (Yo rfl)<|Zg Jo Gb rfl<|Vh vb Gc hB rfl<|Gz rfl<|Wo_getB_z Jk Tryz.sizeOf5 Tryz.isAgg5 rfl (fun _ => rfl) rfl hb E1 rfl Kf ?_; rintro _ n1 hn1 hn1'; refine Wo rfl (Uj Jx Gd rfl Ka) ?_; refine Gz rfl<|Wo rfl (opv_rem rfl rfl Ka) ?_; refine Zv rfl<|Gn<|Zk ?_; refine Zo (v := .int _ _) rfl ?_; rotate_left; refine Za<|Gs<|Yl Ym Kb rfl ?_; refine WqmP rfl<|Yd rfl (fun _ _ => Yo rfl) ?_; refine Xb Jo Gb rfl<|Yd (v := vb) rfl (fun w' hw' => Zz Gc rfl ((hB.ext hw').cell rfl)) ?_; refine Qm rfl<|WqmP rfl ?_
    refine Yd rfl (fun _ _ => Yo rfl) ?_; refine Xb Jo Gb rfl<|Yd (v := vb) rfl (fun w' hw' => Zz Gc rfl ((hB.ext hw').cell rfl)) ?_; refine Yd rfl (fun _ _ => Xo Jk rfl hb) ?_; refine Yd rfl (fun _ _ => opv_rem rfl rfl Ka) ?_; refine Wq_getB_z Jk Tryz.sizeOf5 Tryz.isAgg5 rfl (fun _ => rfl) rfl hb E1 rfl Kf ?_; rintro _ n1 hn1 hn1'; refine Yd rfl (fun _ _ => Uj Jx Gd rfl Ka) ?_; refine Yd rfl (fun _ _ => Yv rfl rfl Ka) ?_; refine WqmP rfl<|Yd rfl (fun _ _ => Yo rfl) ?_; refine Xb Jo Gb rfl ?_
    refine Yd (v := vb) rfl (fun w' hw' => Zz Gc rfl ((hB.ext hw').cell rfl)) ?_; refine Qm rfl<|Yd rfl (fun _ _ => Yv rfl rfl Ka) ?_; refine Yd rfl (fun _ _ => Ye rfl rfl Ka) ?_; refine WqmP rfl<|Yd rfl (fun _ _ => Yo rfl) ?_; refine Xb Jo Gb rfl<|Yd (v := vb) rfl (fun w' hw' => Zz Gc rfl ((hB.ext hw').cell rfl)) ?_; refine Yd rfl (fun _ _ => Xo Jk rfl hb) ?_; refine Yd rfl (fun _ _ => opv_rem rfl rfl Ka) ?_; refine Wq_getB_z Jk Tryz.sizeOf5 Tryz.isAgg5 rfl (fun _ => rfl) rfl hb E1 rfl Kf ?_; rintro _ n2 hn2 hn2'
    refine Yd rfl (fun _ _ => Uj Jx Gd rfl Ka) ?_; refine Yd rfl (fun _ _ => Yv rfl rfl Ka) ?_; refine Yd rfl (fun _ _ => Ye rfl rfl Ka) ?_; refine Qm rfl<|Yd rfl (fun _ _ => Yv rfl rfl Ka) ?_; refine Yd rfl (fun _ _ => Ye rfl rfl Ka) ?_; refine Qm rfl<|WqmP rfl<|Yd rfl (fun _ _ => Yo rfl) ?_; refine Xb Jo Gb rfl<|Yd (v := vb) rfl (fun w' hw' => Zz Gc rfl ((hB.ext hw').cell rfl)) ?_; refine Yd rfl (fun _ _ => Xo Jk rfl hb) ?_; refine Yd rfl (fun _ _ => Xa rfl rfl Ka) ?_; refine Yd rfl (fun _ _ => Yv rfl rfl Ka) ?_
    refine Yd rfl (fun _ _ => Ye rfl rfl Ka) ?_; refine WqaI rfl<|Yk (fun w2 E2 => ?_); have hG := Zc hG E2; have hs1 := E2.size; refine Gs<|Zm<|Gz rfl<|Gz rfl<|Wo rfl (Xa rfl rfl Ka) ?_; refine Wo rfl (opv_xor rfl rfl Ka) ?_; refine Zv rfl<|Gn<|Gu<|Gz rfl<|Gz rfl<|Wo rfl (opv_rem rfl rfl Ka) ?_; refine Zv rfl<|Gn<|Zk ?_; refine Zo (v := .int _ _) rfl ?_; rotate_left
  · exact ⟨0, rfl, hG, ⟨Kd, hge, hB.lt, vb, bs, p + 1, hb, hlen, hB, Ka⟩, fun h => Ka⟩
  · have e := Int.emod_nonneg (n1 : Int) (show n ≠ 0 by omega)
    refine ⟨((n1 : Int) % n).toNat, by simp only [Int.toNat_of_nonneg e], hG, ⟨Kd, hge, hB.lt, vb, bs, p + 1, hb, hlen, hB, Ka⟩, fun h => ?_⟩
    simp only [Int.toNat_of_nonneg e]
    exact Int.emod_lt_of_pos _ Ka
  · refine Zo (v := .int .i64 _) rfl ?_
    generalize hz : ((((n1 * 131 : Int) + n2 * 1117 + ((p : Int) + 1 - 1) * 29 + ((p : Int) + 1 - 1) / (bs.length : Int) * 53).toNat ^^^ (((n1 * 131 : Int) + n2 * 1117 + ((p : Int) + 1 - 1) * 29 + ((p : Int) + 1 - 1) / (bs.length : Int) * 53) / 64).toNat : Nat) : Int) = z
    have hz0 : 0 ≤ z := by rw [← hz]; omega
    have hB := hB.ext (show Ext w1 w2 by assumption)
    have e := Int.emod_nonneg z (show n ≠ 0 by omega)
    refine ⟨(z % n).toNat, by simp only [Int.toNat_of_nonneg e], hG, ⟨E1.trans Kd, hge, hB.lt, vb, bs, p + 1, hb, hlen, hB, Ka⟩, fun h => ?_⟩
    simp only [Int.toNat_of_nonneg e]
    exact Int.emod_lt_of_pos _ Ka
theorem odd_ok {w0 : World} (w : World) {br m : Nat} (n : Int) (hr : Rdr w0 w br m) (hm : m ≤ 1000000000) (hn : -1000000 ≤ n ∧ n ≤ 1000000) :
    Does Tryz.prog 76 [.pointer (some ⟨br, 0, none⟩), .int .i64 n] w (RetD w0 w br (m + 1) Value.bool (fun _ _ => True)) := by
  refine Zt Tryz.func76 rfl Tryz.results76 Tryz.ntmps76 rfl ?_
  have hG : w.grownBy w (some br) := Uu _ _
  focus
    refine Gu<|Zh rfl<|Gn<|Gu<|Gz rfl<|Yx rfl<|Zx rfl (fun h1 => ?_) (fun h1 => ?_); refine Ug rfl<|Gz rfl<|Gv rfl (Zw (a := .pointer _) (b := .int _ _) Jc rfl rfl) (Vs _ _ Kd Kd) ?_; rintro _ w1 ⟨y1, rfl, E1, hr1, hy1⟩; (try dsimp only at hy1); have hlhr1 := hr1.lt; have Ehr1 := hr1.old; have hG := Zi hG E1; have hs1 := E1.size; refine Gz rfl<|Qb rfl<|Zu rfl<|Vz rfl<|Zh rfl<|Gn<|Zk ?_; refine Zo (v := .bool _) rfl ?_; rotate_left; refine Gp rfl<|Gp rfl<|Gp rfl<|Gp rfl<|Gp rfl<|Gp rfl<|Vg rfl<|Zh rfl<|Gn<|Zk ?_; refine Zo (v := .bool _) rfl ?_; rotate_left
  all_goals first | exact ⟨_, rfl, hG, hr1, trivial⟩ | exact ⟨_, rfl, hG, hr.le Ka, trivial⟩
theorem flat112 : Flat Tryz.prog 112 [.slice none 0 0, .int .i64 0] := ⟨_, Tryz.underlying112, fun _ => Kb, fun _ => Kb⟩
theorem open_ok (w : World) (v : Value) (xs : List UInt8) (h : Bytes w v xs) (hc : CapOk v) :
    Does Tryz.prog 55 [v] w (RetX w (fun br : Nat => .pointer (some ⟨br, 0, none⟩)) (fun br w' => Rdr w w' br 0)) := by
  refine Zt Tryz.func55 rfl Tryz.results55 Tryz.ntmps55 rfl ?_
  have hl := h.le
  obtain ⟨a, c, rfl, hR⟩ := id h
  obtain ⟨a', l', c', e, hcap⟩ := hc
  cases e
  by_cases h2 : 2000 < xs.length
  · obtain ⟨b, o, u, rfl, _⟩ := hR.at (show 0 < xs.length by omega)
    have hT := h.take (cap' := c) 2000 Ka
    focus
      refine Gu<|WsaP rfl<|Gn<|Gs<|Gu<|Xi rfl<|Zj Jk rfl h<|Yx rfl<|Gn<|Gq rfl (fun h1 => ?_) (fun h1 => ?_); refine Zm<|Xi rfl<|Wo rfl (Xw Jk Tryz.sizeOf5 rfl rfl Ka) ?_; refine Vp rfl<|Gn<|Gs<|Zm<|Xi rfl<|Wo rfl (Vi (ps := [(0, .slice _ _ _)]) (cs := [_, _]) flat112 rfl rfl)<|Vl rfl rfl rfl ?_; rintro b1 w1 hb1 E1 hB1; have hlb1 := hB1.lt; have hs1 := E1.size; refine WsaP rfl<|Gn<|Zk ?_; refine Zo (v := .pointer _) rfl ?_; refine ⟨E1, _, rfl, ?_⟩; (try dsimp only); rotate_left; (exfalso; omega)
    all_goals exact ⟨Kd, Kd, Kd, _, _, 0, hT, by simp; omega, Kd, Ka⟩
  · focus
      refine Gu<|WsaP rfl<|Gn<|Gs<|Gu<|Xi rfl<|Zj Jk rfl h<|Yx rfl<|Gn<|Gq rfl (fun h1 => ?_) (fun h1 => ?_); (exfalso; omega); refine Za<|Gs<|Zm<|Xi rfl<|Wo rfl (Vi (ps := [(0, .slice _ _ _)]) (cs := [_, _]) flat112 rfl rfl)<|Vl rfl rfl rfl ?_; rintro b1 w1 hb1 E1 hB1; have hlb1 := hB1.lt; have hs1 := E1.size; refine WsaP rfl<|Gn<|Zk ?_; refine Zo (v := .pointer _) rfl ?_; refine ⟨E1, _, rfl, ?_⟩; (try dsimp only)
    all_goals exact ⟨Kd, Kd, Kd, _, _, 0, h, Ka, Kd, Ka⟩
end Go.Proofs.YtbgpppaljpngmaaGreatDoor
namespace Go.Proofs.YtbgpppaljpngmaaGreatDoor
open Go.Hs
set_option maxRecDepth 10000
set_option maxHeartbeats 4000000
set_option linter.unusedVariables false
set_option linter.unusedSimpArgs false
theorem Picture_ok {w0 : World} (w : World) {br m : Nat} (n : Int) (hr : Rdr w0 w br m) (hm : m ≤ 100000000) (hn : 0 ≤ n ∧ n ≤ 1000) :
    Does Tryz.prog 151 [.pointer (some ⟨br, 0, none⟩), .int .i64 n] w (RetDO w0 w br (m + 60) XR (fun p => p.length ≤ 5 ∧ ∀ r ∈ p, r.length ≤ 6)) := by
  refine Zt Tryz.func151 rfl Tryz.results151 Tryz.ntmps151 rfl ?_
  have hG : w.grownBy w (some br) := Uu _ _
  have hlr := hr.lt
  have hgr := hr.ge
  have E0 := hr.old
  focus
    refine Gu<|Vp rfl<|Gn<|Gu<|Ug rfl<|Gv rfl (Zw (a := .pointer _) (b := .int _ _) Jc rfl rfl) (Vs _ _ Kd Ka) ?_; rintro _ w1 ⟨y1, rfl, E1, hr1, hy1⟩; (try dsimp only at hy1); have hlhr1 := hr1.lt; have hG := Zi hG E1; have hs1 := E1.size; refine Zy rfl<|Zv rfl<|Gn<|Gu<|Vu (XSl 3 XInt) rfl Xq Kt ?_; rintro b1 w2 hb1 b1lt E2 hO1; have hr1 := hr1.ext E2; have hG := Zc hG E2; refine Vp rfl<|Gn<|Gu<|Ug rfl<|Gv rfl (Zw (a := .pointer _) (b := .int _ _) Jc rfl rfl) (Vs _ _ Kd Ka) ?_; rintro _ w3 ⟨y2, rfl, E3, hr2, hy2⟩; (try dsimp only at hy2); have hO1 := hO1.toB.grown E3 Ka; have hG := Zi hG E3; refine Zv rfl<|Gn<|Gs<|Gu<|Zv rfl<|Gn<|Gy ?_
  have hy1' := hy1 Ka
  have hn5 : (1 + (y1 : Int)).toNat = 1 + y1 := Ka
  refine Vc [6, 8, 9, 10, 17, 18, 19, 20, 21, 22, 23, 24, 25, 26, 27, 28, 29, 30, 31, 32, 33, 34, 35, 36, 37, 38, 39, 40, 41, 42, 43, 44, 45, 46, 47, 48, 49, 50, 51, 52, 53, 54, 55, 56, 57, 58, 59, 60, 61, 62] (fun (k, u, rows) => [(8, .int .i64 (k : Nat)), (6, u)]) (fun (k, u, rows) w' => w.grownBy w' (some br) ∧ Rdr w0 w' br (m + 2 + 6 * k) ∧ k ≤ 1 + y1 ∧ Owned w.heap.size XR w' u rows ∧ rows.length = k ∧ ∀ r ∈ rows, r.length = 1 + y1) (fun x => 1 + y1 - x.1) (0, .slice (some ⟨b1, 0, none⟩) 0 0, []) Kg ?_ ?_
  · exact ⟨hG, hr2, Nat.zero_le _, hO1.o.mono Ka, rfl, Ki⟩
  rintro ⟨k, u, rows⟩ ρj w4 ⟨hG4, hr4, hk, hO4, hrl, hrr⟩
  have hg4 := hG4.size
  by_cases hlt : k < 1 + y1
  · focus
      refine Gs<|Gu<|Gz rfl<|Gz rfl<|Zn rfl<|Gn<|Gq rfl (fun h1 => ?_) (fun h1 => ?_); refine Za<|Gs<|Gy<|Gs<|Zm<|Gz rfl<|Rk rfl Xn (int_z Ka rfl) Ka ?_; rintro b2 w5 hb2 b2lt E5 hO2; have hG4 := Zc hG4 E5; have hr4 := hr4.ext E5; refine Vp rfl<|Gn<|Gs<|Gu<|Zv rfl<|Gn<|Gy ?_; rotate_left; (exfalso; omega)
    refine Vc [10, 24, 25, 26, 27, 28, 29, 30, 31, 32, 33, 34, 35, 36, 37, 38, 39, 40, 41, 42, 43, 44, 45] (fun (j, row) => [(10, .int .i64 (j : Nat))]) (fun (j, row) w' => w.grownBy w' (some br) ∧ Rdr w0 w' br (m + 2 + 6 * k + j) ∧ j ≤ 1 + y1 ∧ OwnedB w.heap.size w4.heap.size XR w' u rows ∧ Owned w4.heap.size XI w' (.slice (some ⟨b2, 0, none⟩) (1 + (y1 : Int)).toNat (1 + (y1 : Int)).toNat) row ∧ row.length = 1 + y1) (fun x => 1 + y1 - x.1) (0, List.replicate (1 + (y1 : Int)).toNat 0) Kg ?_ ?_
    · exact ⟨hG4, hr4, Nat.zero_le _, hO4.toB.ext E5, hO2, by simp; omega⟩
    rintro ⟨j, row⟩ ρi w6 ⟨hG6, hr6, hj, hO6, hR6, hrow⟩
    have E6 := hr6.old
    have hb6 := hR6.lt_own (k := b2) rfl
    have hs6 : w4.heap.size ≤ w6.heap.size := Ka
    by_cases hjl : j < 1 + y1
    · focus
        refine Gs<|Gu<|Gz rfl<|Gz rfl<|Zn rfl<|Gn<|Gq rfl (fun h2 => ?_) (fun h2 => ?_); refine Za<|Gs<|Gy<|Gu<|Gz rfl<|Zu rfl<|Zx rfl (fun h3 => ?_) (fun h3 => ?_); refine Gz rfl<|Gz rfl<|Yx rfl<|Vz rfl<|Zx rfl (fun h4 => ?_) (fun h4 => ?_); refine Gp rfl<|Gp rfl<|Vz rfl<|Gn<|Yb rfl ?_; refine Zm<|Xi rfl<|Gz rfl<|Ug rfl<|Gv rfl (Zw (a := .pointer _) (b := .int _ _) Jc rfl rfl) (Vs _ _ Kd Ka) ?_; rintro _ w7 ⟨y3, rfl, E7, hr3, hy3⟩; (try dsimp only at hy3); have Ehr3 := hr3.old; have hG6 := Zi hG6 E7; have hO6 := hO6.grown E7 Ka; have hR6 := hR6.toB.grown E7 Ka
        refine Wo rfl (Xa rfl rfl Ka) ?_; refine Wo rfl (Zr Km Kl rfl rfl Ka) ?_; refine Wo_set rfl Kl rfl rfl hR6 Kf Owned.int (Nat.le_refl _) Ka ?_; rintro w8 hR6 On1 K1 hz1; have E8 := On1.ext1 Ehr3 Ka; have hr3 := hr3.wrote E8 (K1 _ Ka) hz1; have hG6 := Zf hG6 Ehr3 E8 K1 hz1 (by first | exact .inr rfl | omega); have hO6 := hO6.wrote K1 Ka; refine Gn<|Zm<|Gz rfl<|Zy rfl<|Zv rfl<|Gn ?_; rotate_left; refine Gz rfl<|Yx rfl<|Vg rfl<|Gn<|Gq rfl (fun h5 => ?_) (fun h5 => ?_); (exfalso; omega); refine Za<|Zm<|Gz rfl<|Zy rfl<|Zv rfl<|Gn ?_; rotate_left; refine Gp rfl<|Gp rfl<|Gp rfl<|Vg rfl<|Vr rfl<|Gz rfl<|Yx rfl ?_
        refine Vg rfl<|Gn<|Gq rfl (fun h4 => ?_) (fun h4 => ?_); refine Zm<|Xi rfl<|Gz rfl<|Ug rfl<|Gv rfl (Zw (a := .pointer _) (b := .int _ _) Jc rfl rfl) (Vs _ _ Kd Ka) ?_; rintro _ w7 ⟨y3, rfl, E7, hr3, hy3⟩; (try dsimp only at hy3); have Ehr3 := hr3.old; have hG6 := Zi hG6 E7; have hO6 := hO6.grown E7 Ka; have hR6 := hR6.toB.grown E7 Ka; refine Wo rfl (Xa rfl rfl Ka) ?_; refine Wo rfl (Zr Km Kl rfl rfl Ka) ?_; refine Wo_set rfl Kl rfl rfl hR6 Kf Owned.int (Nat.le_refl _) Ka ?_; rintro w8 hR6 On1 K1 hz1; have E8 := On1.ext1 Ehr3 Ka; have hr3 := hr3.wrote E8 (K1 _ Ka) hz1
        have hG6 := Zf hG6 Ehr3 E8 K1 hz1 (by first | exact .inr rfl | omega); have hO6 := hO6.wrote K1 Ka; refine Gn<|Zm<|Gz rfl<|Zy rfl<|Zv rfl<|Gn ?_; rotate_left; (exfalso; omega); (exfalso; omega)
      · refine ⟨((j + 1, row.set j ((y3 : Int) / 2))), Kg, Kh, ?_, ?_⟩
        · exact ⟨Kd, Rdr.le Kd Ka, Ka, Kd, Kd, by simp [hrow]⟩
        · simp only; omega
      · refine ⟨((j + 1, row)), Kg, Kh, ?_, ?_⟩
        · exact ⟨Kd, Rdr.le Kd Ka, Ka, Kd, Kd, hrow⟩
        · simp only; omega
      · refine ⟨((j + 1, row.set j ((y3 : Int) / 2))), Kg, Kh, ?_, ?_⟩
        · exact ⟨Kd, Rdr.le Kd Ka, Ka, Kd, Kd, by simp [hrow]⟩
        · simp only; omega
    · obtain rfl : j = 1 + y1 := by omega
      have hrs : ∀ (rw' : List Int), rw'.length = 1 + y1 → ∀ r ∈ rows ++ [rw'], r.length = 1 + y1 := by
        intro rw' h9 r hr9
        rcases List.mem_append.1 hr9 with h | h
        · exact hrr r h
        · rw [List.mem_singleton.1 h]; exact h9
      focus
        have szE0 := E0.size; refine Gs<|Gu<|Gz rfl<|Gz rfl<|Zn rfl<|Gn<|Gq rfl (fun h2 => ?_) (fun h2 => ?_); (exfalso; omega); refine Va ?_; refine Zd ?_; refine Gs<|Gu<|Gz rfl<|Zy rfl<|Gz rfl<|Zn rfl<|Zx rfl (fun h3 => ?_) (fun h3 => ?_); refine Ug rfl<|Gv rfl (Zw (a := .pointer _) (b := .int _ _) Jc rfl rfl) (Vs _ _ Kd Ka) ?_; rintro _ w7 ⟨y3, rfl, E7, hr3, hy3⟩; (try dsimp only at hy3); have Ehr3 := hr3.old; have hG6 := Zi hG6 E7; have hO6 := hO6.grown E7 Ka; have hR6 := hR6.toB.grown E7 Ka; have hs5 := E7.size; refine Yx rfl<|Vz rfl<|Gn<|Gq rfl (fun h4 => ?_) (fun h4 => ?_); refine Zm<|Xi rfl<|Gz rfl ?_
        refine Zy rfl<|Wo rfl (Yn Km Kl rfl rfl Ka) ?_; refine Wo_set rfl Kl rfl rfl hR6 Kf Owned.int (Nat.le_refl _) Ka ?_; rintro w8 hR6 On1 K1 hz1; have E8 := On1.ext1 Ehr3 Ka; have hr3 := hr3.wrote E8 (K1 _ Ka) hz1; have hG6 := Zf hG6 Ehr3 E8 K1 hz1 (by first | exact .inr rfl | omega); have hO6 := hO6.wrote K1 Ka; refine Gn<|Zm<|Zb u rfl<|Xi rfl<|Vx (ps := [(0, .slice _ _ _)]) (cs := [_]) rfl Kp Kt Jj rfl rfl rfl rfl ?_; rintro b3 w9 hb3 E9 hB1; have hlb3 := hB1.lt; have hr3 := hr3.ext E9; have hG6 := Zc hG6 E9
        refine Ya rfl Xq rfl rfl hB1 (hO6.ext E9) (hR6.toB.ext E9).o Ka Kf Ka Ka (E8.trans E9) Ka ?_; have hT1 := (hO6.ext E9); rintro v1 w10 hO6 E10 M1; have hr3 := hr3.moves E10 M1 hT1 Ka; have hG6 := Qs hG6 M1 hT1 Ka; refine Vm v1 rfl<|Gn<|Zm<|Gz rfl<|Zy rfl<|Zv rfl<|Gn ?_; rotate_left; refine Za<|Zm<|Zb u rfl<|Xi rfl<|Vx (ps := [(0, .slice _ _ _)]) (cs := [_]) rfl Kp Kt Jj rfl rfl rfl rfl ?_; rintro b3 w8 hb3 E8 hB1; have hlb3 := hB1.lt; have hr3 := hr3.ext E8; have hG6 := Zc hG6 E8; refine Ya rfl Xq rfl rfl hB1 (hO6.ext E8) (hR6.ext E8).o Ka Kf Ka Ka (Ehr3.trans E8) Ka ?_
        have hT1 := (hO6.ext E8); rintro v1 w9 hO6 E9 M1; have hr3 := hr3.moves E9 M1 hT1 Ka; have hG6 := Qs hG6 M1 hT1 Ka; refine Vm v1 rfl<|Gn<|Zm<|Gz rfl<|Zy rfl<|Zv rfl<|Gn ?_; rotate_left; refine Gp rfl<|Gp rfl<|Gp rfl<|Vg rfl<|Gn<|Ze rfl ?_; refine Za<|Zm<|Zb u rfl<|Xi rfl<|Vx (ps := [(0, .slice _ _ _)]) (cs := [_]) rfl Kp Kt Jj rfl rfl rfl rfl ?_; rintro b3 w7 hb3 E7 hB1; have hlb3 := hB1.lt; have hG6 := Zc hG6 E7; have hr6 := hr6.ext E7; refine Ya rfl Xq rfl rfl hB1 (hO6.ext E7) (hR6.toB.ext E7).o Ka Kf Ka Ka (E6.trans E7) Ka ?_; have hT1 := (hO6.ext E7); rintro v1 w8 hO6 E8 M1; have hG6 := Qs hG6 M1 hT1 Ka
        have hr6 := hr6.moves E8 M1 hT1 Ka; refine Wo rfl (Yf (v := v1) rfl)<|Gn<|Yw rfl<|Wo rfl (Zs (v := .int _ _) rfl)<|Zy rfl<|Zv rfl<|Gn ?_; rotate_left
      · refine ⟨((k + 1, v1, rows ++ [row.set ((k : Int) + 1).toNat 1])), Kg, Kh, ?_, ?_⟩
        · exact ⟨Kd, Rdr.le Kd Ka, Ka, Kd, by simp [hrl], hrs _ (by simp [hrow])⟩
        · simp only; omega
      · refine ⟨((k + 1, v1, rows ++ [row])), Kg, Kh, ?_, ?_⟩
        · exact ⟨Kd, Rdr.le Kd Ka, Ka, Kd, by simp [hrl], hrs _ hrow⟩
        · simp only; omega
      · refine ⟨((k + 1, v1, rows ++ [row])), Kg, Kh, ?_, ?_⟩
        · exact ⟨Kd, Rdr.le Kd Ka, Ka, Kd, by simp [hrl], hrs _ hrow⟩
        · simp only; omega
  · obtain rfl : k = 1 + y1 := by omega
    obtain ⟨ub, uc, rfl, _⟩ := hO4.lit Ka
    have hub := hO4.lt_own (k := ub) rfl
    have hrow := hrr rows[0] (List.getElem_mem Ka)
    obtain ⟨brw, crw, hRow, hbw1, hbw2⟩ := hO4.rowAt (i := 0) Ka Ka
    focus
      refine Gs<|Gu<|Gz rfl<|Gz rfl<|Zn rfl<|Gn<|Gq rfl (fun h1 => ?_) (fun h1 => ?_); (exfalso; omega); refine Va ?_; refine Zd ?_; refine Gs<|Gu<|Ug rfl<|Gz rfl<|Gv rfl (Zw (a := .pointer _) (b := .int _ _) Tryz.call76 rfl rfl) (odd_ok _ _ Kd Ka Ka) ?_; rintro _ w5 ⟨y3, rfl, E5, hr3, hy3⟩; (try dsimp only at hy3); have hG4 := Zi hG4 E5; have hO4 := hO4.toB.grown E5 Ka; have hRow := hRow.grown E5 (by simp [Value.ownBlock]; omega); have hs4 := E5.size; refine Gn<|Vt rfl (fun h2 => ?_) (fun h2 => ?_); refine Gu<|Ug rfl<|Gv rfl (Zw (a := .pointer _) (b := .int _ _) Jc rfl rfl) (Vs _ _ Kd Ka) ?_; rintro _ w6 ⟨y4, rfl, E6, hr5, hy4⟩; (try dsimp only at hy4); have Ehr5 := hr5.old
      have hG4 := Zi hG4 E6; have hO4 := hO4.grown E6 Ka; have hRow := hRow.grown E6 (by simp [Value.ownBlock]; omega); have hs5 := E6.size; refine Gn<|Gy<|Gu<|Zu rfl<|Zh rfl<|Gn<|Gq rfl (fun h3 => ?_) (fun h3 => ?_); refine Gu<|Vu (XSl 3 XInt) rfl Xq Kt ?_; rintro b2 w7 hb2 b2lt E7 hO2; have hr5 := hr5.ext E7; have hG4 := Zc hG4 E7; refine Vp rfl<|Gn<|Zk ?_; refine Zo (v := .slice _ _ _) rfl ?_; rotate_left; refine Gu<|Zu rfl<|Zh rfl<|Gn<|Gq rfl (fun h4 => ?_) (fun h4 => ?_); refine Zm<|Xi rfl<|Qx Kp Kt Kx rfl (fun _ => rfl) rfl ⟨_, _, rfl⟩ rfl hRow Kf ?_; rintro _
      refine Wo rfl (Zr (k := 0) Km Kl rfl rfl Ka) ?_; refine Uv rfl Kl rfl rfl hO4 hRow Kf Kf ?_; rintro w7 hO4 hRow On1 K1 hz1; have E7 := On1.ext1 Ehr5 Ka; have hr5 := hr5.wrote E7 (K1 _ Ka) hz1; have hG4 := Zf hG4 Ehr5 E7 K1 hz1 (by first | exact .inr rfl | omega); refine Gn<|Gu<|Xi rfl<|Vp rfl<|Gn<|Zk ?_; refine Zo (v := .slice _ _ _) rfl ?_; rotate_left; refine Zm<|Xi rfl<|Xi rfl<|Qx Kp Kt Kx rfl (fun _ => rfl) rfl ⟨_, _, rfl⟩ rfl hRow Kf ?_; rintro _
      refine Zp (ps := [(0, .int _ _)]) (cs := [_]) rfl Km Kl Je rfl rfl rfl rfl ?_; rintro b2 w7 hb2 E7 hB1 hHb2; have hlb2 := hB1.lt; have hr5 := hr5.ext E7; have hG4 := Zc hG4 E7; rotate_left; refine Za<|Gu<|Xi rfl<|Vp rfl<|Gn<|Zk ?_; refine Zo (v := .slice _ _ _) rfl ?_; rotate_left
    · exact ⟨Kd, Rdr.le Kd Ka, [], Owned.mono Kd Ka, Ki⟩
    · refine ⟨Kd, Rdr.le Kd Ka, _, Kd, by simp; omega, fun r hr9 => ?_⟩
      rcases List.mem_or_eq_of_mem_set hr9 with h | h
      · have := hrr r h; omega
      · rw [h]; simp; omega
    · have hO7 := hO4.ext (show Ext w6 w7 by assumption)
      have hR7 := hRow.ext (show Ext w6 w7 by assumption)
      obtain ⟨hme, hRO⟩ := hO7.rowOwn hR7 Ka
      focus
        refine Ya rfl Xn rfl rfl hB1 hRO Owned.int (Nat.le_refl _) Kf Ka Ka (Ehr5.trans E7) Ka ?_; have hT1 := hRO; rintro v1 w8 hRO E8 M1; have hr5 := hr5.moves E8 M1 hT1 Ka; have hG4 := Qs hG4 M1 hT1 Ka; refine Wo rfl (Zr (k := 0) Kp Kt rfl rfl Ka) ?_
      obtain ⟨q1, q2, ⟨q3, q4⟩, q5⟩ := hO7.rowBack hR7 Ka (show Moves w7 (.slice (some ⟨brw, 0, none⟩) rows[0].length crw) w8 v1 from M1) hRO Ka
      refine Ru (w' := w8.setCell ⟨ub, 0, none⟩ v1) rfl (ops_store Kt rfl rfl q2 q4 q5) ?_
      have E9 : Ext w0 (w8.setCell ⟨ub, 0, none⟩ v1) := E8.setCell Kj v1
      have hr9 := hr5.wrote E9 (Hs.heap_setCell_other v1 (show br ≠ ub by omega)) (size_setCell _ _)
      have hG9 := Zf (b := ub) hG4 E8 E9 (fun k hk => Hs.heap_setCell_other v1 hk) (size_setCell _ _) (.inl hub.1)
      generalize w8.setCell ⟨ub, 0, none⟩ v1 = w9 at q1 hr9 hG9 E9
      focus
        refine Gn<|Gu<|Xi rfl<|Vp rfl<|Gn<|Zk ?_; refine Zo (v := .slice _ _ _) rfl ?_
      refine ⟨hG9, hr9.le Ka, _, q1, by simp; omega, fun r hr' => ?_⟩
      rcases List.mem_or_eq_of_mem_set hr' with h | h
      · have := hrr r h; omega
      · rw [h]; simp; omega
    · refine ⟨Kd, Rdr.le Kd Ka, _, OwnedB.o Kd, Ka, fun r hr9 => ?_⟩
      have := hrr r hr9; omega
end Go.Proofs.YtbgpppaljpngmaaGreatDoor
namespace Go.Proofs.YtbgpppaljpngmaaGreatDoor
open Go.Hs
set_option maxRecDepth 10000
set_option maxHeartbeats 4000000
set_option linter.unusedVariables false
set_option linter.unusedSimpArgs false
theorem Twin_ok {w0 : World} (w : World) {br m : Nat} (n : Int) (hr : Rdr w0 w br m) (hm : m ≤ 10000000) (hn : 0 ≤ n ∧ n ≤ 1000) :
    Does Tryz.prog 105 [.pointer (some ⟨br, 0, none⟩), .int .i64 n] w (RetDO w0 w br (m + 63) XR (fun p => p.length ≤ 5 ∧ ∀ r ∈ p, r.length ≤ 6)) := by
  refine Zt Tryz.func105 rfl Tryz.results105 Tryz.ntmps105 rfl ?_
  have hG : w.grownBy w (some br) := Uu _ _
  have hlr := hr.lt
  have hgr := hr.ge
  focus
    refine Gu<|Vp rfl<|Gn<|Gu<|Ug rfl<|Gz rfl<|Gv rfl (Zw (a := .pointer _) (b := .int _ _) Tryz.call151 rfl rfl) (Picture_ok _ _ Kd Ka Kd) ?_; rintro u1 w1 ⟨E1, hr1, x1, hO1, hy1⟩; (try dsimp only at hy1); have hG := Zi hG E1; refine Vm u1 rfl<|Gn<|Gs<|Gs<|Zm<|Zb u1 rfl ?_
  by_cases hp : Pic x1
  · have hk : ∀ w u, ESl Ints w u x1 → Does Tryz.prog 115 [u] w (Ret w (.bool true)) := fun w u h => by
      have := Yq w u x1 h
      rw [decide_eq_true hp] at this; exact this
    focus
      refine Gv rfl (Vq (a := u1) Jm rfl) (hk _ _ ((Owned.read hO1))) ?_; rintro _ w2 ⟨rfl, E2⟩; have hr1 := hr1.ext E2; have hG := Zc hG E2; refine Vr rfl<|Zb u1 rfl<|Zj Kp rfl (Owned.read hO1)<|Yx rfl<|Vz rfl<|Zx rfl (fun h1 => ?_) (fun h1 => ?_); refine Ug rfl<|Gv rfl (Zw (a := .pointer _) (b := .int _ _) Jc rfl rfl) (Vs _ _ Kd Ka) ?_; rintro _ w3 ⟨y1, rfl, E3, hr2, hy2⟩; (try dsimp only at hy2); have hO1 := (hO1.toB.ext E2).grown E3 Ka; have hG := Zi hG E3; refine Zu rfl<|Vz rfl<|Gn<|Gq rfl (fun h2 => ?_) (fun h2 => ?_); refine Gu<|Ug rfl<|Zb u1 rfl ?_
      refine Zj Kp rfl (OwnedB.read hO1)<|Gv rfl (Zw (a := .pointer _) (b := .int _ _) Jc rfl rfl) (Vs _ _ Kd Ka) ?_; rintro _ w4 ⟨y2, rfl, E4, hr3, hy3⟩; (try dsimp only at hy3); have hO1 := hO1.grown E4 Ka; have hG := Zi hG E4; refine Zv rfl<|Gn<|Gu<|Ug rfl<|Zb u1 rfl<|Zj Kp rfl (OwnedB.read hO1)<|Gv rfl (Zw (a := .pointer _) (b := .int _ _) Jc rfl rfl) (Vs _ _ Kd Ka) ?_; rintro _ w5 ⟨y3, rfl, E5, hr4, hy4⟩; (try dsimp only at hy4); have hO1 := hO1.grown E5 Ka; have hG := Zi hG E5; refine Zv rfl<|Gn<|Gu<|Zv rfl<|Gn<|Gy ?_; rotate_left; refine Za<|Gu<|Zb u1 rfl ?_
      refine Vm u1 rfl<|Gn<|Zk ?_; refine Zo (v := u1) rfl ?_; rotate_left; refine Gp rfl<|Gp rfl<|Gp rfl<|Vg rfl<|Gn<|Ze rfl ?_; refine Za<|Gu<|Zb u1 rfl<|Vm u1 rfl<|Gn<|Zk ?_; refine Zo (v := u1) rfl ?_; rotate_left
    · have hy3' := hy3 Ka
      have hy4' := hy4 Ka
      have hlen : ∀ r ∈ x1, r.length = x1.length := fun r hr => (hp.2.2 r hr).1
      clear hp hk
      refine Vc [8, 32, 33, 34, 35, 36, 37, 38, 39, 40, 41, 42, 43, 44, 45, 46, 47, 48, 49, 50] (fun (j, rows) => [(8, .int .i64 (j : Nat))]) (fun (j, rows) w' => w.grownBy w' (some br) ∧ Rdr w0 w' br (m + 63) ∧ j ≤ x1.length ∧ Owned w.heap.size XR w' u1 rows ∧ rows.length = x1.length ∧ ∀ r ∈ rows, r.length = x1.length) (fun x => x1.length - x.1) (0, x1) Kg ?_ ?_
      · exact ⟨hG, hr4, Nat.zero_le _, hO1.o, rfl, hlen⟩
      rintro ⟨j, rows⟩ ρj w6 ⟨hG6, hr6, hj, hO6, hrl, hrr⟩
      have E6 := hr6.old
      by_cases hlt : j < x1.length
      · obtain ⟨ub, uc, rfl, _⟩ := hO6.lit Ka
        have hrb := hrr rows[y3] (List.getElem_mem Ka)
        have hra := hrr rows[y2] (List.getElem_mem Ka)
        have hset : ∀ r' : List Int, r'.length = x1.length → ∀ r ∈ rows.set y3 r', r.length = x1.length := by
          intro r' h9 r hr9
          rcases List.mem_or_eq_of_mem_set hr9 with h | h
          · exact hrr r h
          · rw [h]; exact h9
        focus
          refine Gs<|Gu<|Gz rfl<|Xi rfl<|Zj Kp rfl (Owned.read hO6)<|Zn rfl<|Gn<|Gq rfl (fun h3 => ?_) (fun h3 => ?_); refine Za<|Gs<|Gy<|Qq (fun _ => True) Ym rfl Kb ?_; intro w7 E7 K1 hz1; have hG6 := Zc hG6 E7; have hr6 := hr6.ext E7; refine WtmS 0 rfl rfl trivial<|WtmI 1 rfl rfl trivial<|Zl 2 rfl Kb Kb rfl (fun _ _ => Zr Kp Kt rfl rfl Ka) trivial ?_; refine WtmI 4 rfl rfl trivial<|WtmS 5 rfl rfl trivial<|WtmI 6 rfl rfl trivial<|Zl 7 rfl Kb Kb rfl (fun _ _ => Zr Kp Kt rfl rfl Ka) trivial ?_; refine WtmI 9 rfl rfl trivial<|Wha [3, 8]<|Gt rfl ?_ ?_; rotate_left
          refine Gt rfl ?_ ?_; rotate_left; exact Gw; (exfalso; omega)
        all_goals
          have hO7 := hO6.ext E7
          obtain ⟨bra, cra, hRa, ha1, ha2, ha3, ha4⟩ := rowCell hO7 (i := y2) (j := j) Ka Ka
          obtain ⟨brb, crb, hRb, hb1, hb2, hb3, hb4⟩ := rowCell hO7 (i := y3) (j := j) Ka Ka
        · focus
            refine Wo rfl (Zz Kx rfl Kd) ?_; refine Gn ?_; refine ⟨trivial, ?_⟩; refine Wha [8]<|Gt rfl ?_ ?_; refine Wo rfl (Zz Kx rfl Kd) ?_; refine Gn ?_; refine ⟨trivial, ?_⟩; refine Zl 10 rfl Kb Kb rfl (fun _ _ => Zr Km Kl rfl rfl Ka) trivial ?_; refine Wha [11]<|Gt rfl ?_ ?_; refine Wo rfl (Zz Kn rfl Kd) ?_; refine Gn ?_; refine ⟨trivial, ?_⟩; refine Zl 12 rfl Kb Kb rfl (fun _ _ => Zr Km Kl rfl rfl Ka) trivial ?_; refine Wha [13]<|Gt rfl ?_ ?_
            refine Uv rfl Kl rfl rfl (hO6.toB.ext E7) hRb Kf Kf ?_; rintro w8 hO6 hRb On1 K2 hz2; have E8 := On1.ext1 (E6.trans E7) Ka; have hG6 := Zf hG6 (E6.trans E7) E8 K2 hz2 (by first | exact .inr rfl | omega); have hr6 := hr6.wrote E8 (K2 _ Ka) hz2; refine Gn ?_; refine ⟨trivial, ?_⟩; refine Vn Kb ?_; refine Zm<|Gz rfl<|Zy rfl<|Zv rfl<|Gn ?_; rotate_left; exact Gw; exact Gw; exact Gw
          refine ⟨((j + 1, rows.set y3 (rows[y3].set j rows[y2][j]))), Kg, Kh, ?_, ?_⟩
          · exact ⟨hG6, hr6, Ka, hO6, by simp [hrl], hset _ (by simp [hrb])⟩
          · simp only; omega
        · focus
            refine Wo rfl (Zz Kx rfl Kd) ?_; refine Gn ?_; refine ⟨trivial, ?_⟩; refine Zl 10 rfl Kb Kb rfl (fun _ _ => Zr Km Kl rfl rfl Ka) trivial ?_; refine Wha [3, 11]<|Gt rfl ?_ ?_; refine Wo rfl (Zz Kx rfl Kd) ?_; refine Gn ?_; refine ⟨trivial, ?_⟩; refine Wha [11]<|Gt rfl ?_ ?_; refine Wo rfl (Zz Kn rfl Kd) ?_; refine Gn ?_; refine ⟨trivial, ?_⟩; refine Zl 12 rfl Kb Kb rfl (fun _ _ => Zr Km Kl rfl rfl Ka) trivial ?_; refine Wha [13]<|Gt rfl ?_ ?_
            refine Uv rfl Kl rfl rfl (hO6.toB.ext E7) hRb Kf Kf ?_; rintro w8 hO6 hRb On1 K2 hz2; have E8 := On1.ext1 (E6.trans E7) Ka; have hG6 := Zf hG6 (E6.trans E7) E8 K2 hz2 (by first | exact .inr rfl | omega); have hr6 := hr6.wrote E8 (K2 _ Ka) hz2; refine Gn ?_; refine ⟨trivial, ?_⟩; refine Vn Kb ?_; refine Zm<|Gz rfl<|Zy rfl<|Zv rfl<|Gn ?_; rotate_left; exact Gw; exact Gw; refine Gt rfl ?_ ?_; refine Wo rfl (Zz Kn rfl Kd) ?_; refine Gn ?_; refine ⟨trivial, ?_⟩; refine Wha [3]<|Gt rfl ?_ ?_; refine Wo rfl (Zz Kx rfl Kd) ?_; refine Gn ?_; refine ⟨trivial, ?_⟩
            refine Zl 12 rfl Kb Kb rfl (fun _ _ => Zr Km Kl rfl rfl Ka) trivial ?_; refine Wha [13]<|Gt rfl ?_ ?_; refine Uv rfl Kl rfl rfl (hO6.toB.ext E7) hRb Kf Kf ?_; rintro w8 hO6 hRb On1 K2 hz2; have E8 := On1.ext1 (E6.trans E7) Ka; have hG6 := Zf hG6 (E6.trans E7) E8 K2 hz2 (by first | exact .inr rfl | omega); have hr6 := hr6.wrote E8 (K2 _ Ka) hz2; refine Gn ?_; refine ⟨trivial, ?_⟩; refine Vn Kb ?_; refine Zm<|Gz rfl<|Zy rfl<|Zv rfl<|Gn ?_; rotate_left; exact Gw; exact Gw; exact Gw
          · refine ⟨((j + 1, rows.set y3 (rows[y3].set j rows[y2][j]))), Kg, Kh, ?_, ?_⟩
            · exact ⟨hG6, hr6, Ka, hO6, by simp [hrl], hset _ (by simp [hrb])⟩
            · simp only; omega
          · refine ⟨((j + 1, rows.set y3 (rows[y3].set j rows[y2][j]))), Kg, Kh, ?_, ?_⟩
            · exact ⟨hG6, hr6, Ka, hO6, by simp [hrl], hset _ (by simp [hrb])⟩
            · simp only; omega
      · obtain rfl : j = x1.length := by omega
        focus
          refine Gs<|Gu<|Gz rfl<|Zb u1 rfl<|Zj Kp rfl (Owned.read hO6)<|Zn rfl<|Gn<|Gq rfl (fun h3 => ?_) (fun h3 => ?_); (exfalso; omega); refine Va ?_; refine Zd ?_; refine Gu<|Zb u1 rfl<|Vm u1 rfl<|Gn<|Zk ?_; refine Zo (v := u1) rfl ?_
        exact ⟨hG6, hr6, _, hO6, Ka, fun r h => by have := hrr r h; omega⟩
    · exact ⟨hG, hr2.le Ka, _, hO1.o, hy1⟩
    · exact ⟨hG, hr1.le Ka, _, hO1.ext E2, hy1⟩
  · have hk : ∀ w u, ESl Ints w u x1 → Does Tryz.prog 115 [u] w (Ret w (.bool false)) := fun w u h => by
      have := Yq w u x1 h
      rw [decide_eq_false hp] at this; exact this
    focus
      refine Gv rfl (Vq (a := u1) Jm rfl) (hk _ _ ((Owned.read hO1))) ?_; rintro _ w2 ⟨rfl, E2⟩; have hr1 := hr1.ext E2; have hG := Zc hG E2; refine Vr rfl<|Gp rfl<|Gp rfl<|Gp rfl<|Vg rfl<|Vr rfl<|Gp rfl<|Gp rfl<|Gp rfl<|Vg rfl<|Gn<|Ze rfl ?_; refine Za<|Gu<|Zb u1 rfl<|Vm u1 rfl<|Gn<|Zk ?_; refine Zo (v := u1) rfl ?_
    exact ⟨hG, hr1.le Ka, _, hO1.ext E2, hy1⟩
end Go.Proofs.YtbgpppaljpngmaaGreatDoor
