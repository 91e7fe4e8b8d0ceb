/- Lemmas for FnDeskRun. -/
import Derived.Test.YtbgpppaljpngmaaGreatDoorMFnDeskRun3
namespace Go.Proofs.YtbgpppaljpngmaaGreatDoor
open Go.Hs
set_option maxRecDepth 10000
set_option maxHeartbeats 4000000
set_option linter.unusedVariables false
set_option linter.unusedSimpArgs false
def ptR (p : List (List Int)) (K : List Int) (x : Int) (j : Nat) (y : Int) : Int := b01 ((List.range j).any (ptF p K x y))
def ptM (p : List (List Int)) (K L : List Int) (x : Int) (j m : Nat) : List Int := (L.take m).map (ptR p K x (j + 1)) ++ (L.drop m).map (ptR p K x j)
theorem ptM_len {p : List (List Int)} {K L : List Int} {x : Int} {j m : Nat} : (ptM p K L x j m).length = L.length := by
  unfold ptM
  rw [List.length_append, List.length_map, List.length_map, ← List.length_append, List.take_append_drop]
theorem ptR_succ {p : List (List Int)} {K : List Int} {x y : Int} {j : Nat} : ptR p K x (j + 1) y = if ptF p K x y j then 1 else ptR p K x j y := by
  unfold ptR
  rw [any_range_succ']
  cases ptF p K x y j <;> cases (List.range j).any (ptF p K x y) <;> rfl
theorem ptM_yes {p : List (List Int)} {K L : List Int} {x : Int} {j m : Nat} (hm : m < L.length) (hf : ptF p K x L[m] j = true) : (ptM p K L x j m).set m 1 = ptM p K L x j (m + 1) := by
  have hl : ((L.take m).map (ptR p K x (j + 1))).length = m := by simp; omega
  unfold ptM
  rw [List.set_append_right _ _ Ka, hl, Nat.sub_self, List.drop_eq_getElem_cons hm, List.map_cons, List.set_cons_zero, Vb _ _ hm, List.map_append, List.append_assoc]
  congr 1
  rw [List.map_cons, List.map_nil, ptR_succ, hf]
  rfl
theorem ptM_no {p : List (List Int)} {K L : List Int} {x : Int} {j m : Nat} (hm : m < L.length) (hf : ptF p K x L[m] j = false) : ptM p K L x j m = ptM p K L x j (m + 1) := by
  unfold ptM
  rw [List.drop_eq_getElem_cons hm, List.map_cons, Vb _ _ hm, List.map_append, List.append_assoc]
  congr 1
  rw [List.map_cons, List.map_nil, ptR_succ, hf]
  rfl
theorem ptM_zero {p : List (List Int)} {K L : List Int} {x : Int} {j : Nat} : ptM p K L x j 0 = L.map (ptR p K x j) := by simp [ptM]
theorem ptM_all {p : List (List Int)} {K L : List Int} {x : Int} {j : Nat} : ptM p K L x j L.length = L.map (ptR p K x (j + 1)) := by simp [ptM]
theorem ptR_none {p : List (List Int)} {K L : List Int} {x : Int} : L.map (ptR p K x 0) = List.replicate L.length 0 := by
  rw [← List.map_const']
  exact List.map_congr_left fun y _ => rfl
theorem l4Part_ok (w : World) (v u t : Value) (p : List (List Int)) (K L : List Int) (h : ESl Ints w v p) (hK : Ints w u K) (hL : Ints w t L) (hp : Gr p) (hk : K.length = p.length) (hl : ∀ x ∈ L, 0 ≤ x ∧ x < p.length) (hn : L.length ≤ 1000) :
    Does Tryz.prog 195 [v, u, t] w (RetO w XR (ptV p K L)) := by
  have hp5 := hp.2.1
  have hpl := ptV_len (p := p) (K := K) (L := L)
  refine Zr Tryz.func195 rfl Tryz.results195 Tryz.ntmps195 rfl ?_
  focus
    refine Gq<|Vk rfl<|Gk<|Gq<|Vq (XSl 3 XInt) rfl Xn Kt ?_; rintro b1 w1 hb1 b1lt E1 hO1; refine Vk rfl<|Gk<|Gp<|Gq<|Zp rfl<|Gk<|Gv ?_
  refine Zy [7, 8, 9, 10, 11, 13, 14, 15, 16, 17, 18, 19, 20, 21, 22, 23, 24, 25, 26, 27, 28, 29, 30, 31, 32, 33, 34, 35, 36, 37, 38, 39, 40, 41, 42, 43, 44, 45, 46, 47, 48, 49, 50, 51, 52, 53, 54, 55, 56, 57, 58, 59, 60, 61, 62, 63, 64, 65] (fun ((k, o) : Nat × Value) => [(8, .int .i64 (k : Nat)), (7, o)]) (fun (k, o) w' => Ext w w' ∧ k ≤ L.length ∧ Owned w.heap.size XR w' o ((ptV p K L).take k)) (fun x => L.length - x.1) (0, .slice (some ⟨b1, 0, none⟩) 0 0) Kg ?_ ?_
  · exact ⟨Kd, Nat.zero_le _, by simpa using hO1⟩
  clear hO1
  rintro ⟨k, o⟩ ρj w2 ⟨E2, hkl, hO1⟩
  by_cases hlt : k < L.length
  · have hLk := hl L[k] (List.getElem_mem hlt)
    have hrow := hp.row (i := L[k].toNat) Ka
    have htl : ((ptV p K L).take k).length = k := by simp; omega
    focus
      have szE2 := E2.size; refine Gp<|Gq<|Gw rfl<|Gz t rfl<|Ze Km rfl hL<|Zk rfl<|Gk<|Gl rfl (fun h1 => ?_) (fun h1 => ?_); refine Gx<|Gp<|Gv<|Gp<|Zj<|Gz t rfl<|Ze Km rfl hL<|Rg rfl Xk rfl Ka ?_; rintro b2 w3 hb2 b2lt E3 hO2; refine Vk rfl<|Gk<|Gp<|Gq<|Zp rfl<|Gk<|Gv ?_; rotate_left; (exfalso; omega)
    refine Zy [10, 11, 22, 23, 24, 25, 26, 27, 28, 29, 30, 31, 32, 33, 34, 35, 36, 37, 38, 39, 40, 41, 42, 43, 44, 45, 46, 47, 48, 49, 50, 51, 52, 53, 54, 55, 56, 57, 58, 59, 60, 61] (fun (j : Nat) => [(10, .int .i64 (j : Nat))]) (fun j w' => Ext w w' ∧ w2.heap.size ≤ w'.heap.size ∧ j ≤ p.length ∧ OwnedB w.heap.size w2.heap.size XR w' o ((ptV p K L).take k) ∧ Owned w2.heap.size XI w' (.slice (some ⟨b2, 0, none⟩) L.length L.length) (L.map (ptR p K L[k] j))) (fun j => p.length - j) 0 Kg ?_ ?_
    · exact ⟨E2.trans E3, E3.size, Nat.zero_le _, hO1.toB.ext E3, by rw [ptR_none]; exact hO2⟩
    clear hO1 hO2
    rintro j ρk w4 ⟨E4, hs4, hj, hO1, hO2⟩
    by_cases hjl : j < p.length
    · focus
        refine Gp<|Gq<|Gw rfl<|Gz v rfl<|Ze Kp rfl h<|Zk rfl<|Gk<|Gl rfl (fun h2 => ?_) (fun h2 => ?_); refine Gx<|Gp<|Gv<|Gq<|Zp rfl<|Gk<|Gv ?_; rotate_left; (exfalso; omega)
      refine Zy [11, 28, 29, 30, 31, 32, 33, 34, 35, 36, 37, 38, 39, 40, 41, 42, 43, 44, 45, 46, 47, 48, 49, 50, 51, 52, 53, 54, 55, 56, 57, 58, 59, 60, 61] (fun (m : Nat) => [(11, .int .i64 (m : Nat))]) (fun m w' => Ext w w' ∧ w2.heap.size ≤ w'.heap.size ∧ m ≤ L.length ∧ OwnedB w.heap.size w2.heap.size XR w' o ((ptV p K L).take k) ∧ Owned w2.heap.size XI w' (.slice (some ⟨b2, 0, none⟩) L.length L.length) (ptM p K L L[k] j m)) (fun m => L.length - m) 0 Kg ?_ ?_
      · exact ⟨E4, hs4, Nat.zero_le _, hO1, by rw [ptM_zero]; exact hO2⟩
      clear hO1 hO2
      rintro m ρl w5 ⟨E5, hs5, hm, hO1, hO2⟩
      have hpm := ptM_len (p := p) (K := K) (L := L) (x := L[k]) (j := j) (m := m)
      by_cases hml : m < L.length
      · have hLm := hl L[m] (List.getElem_mem hml)
        have eF : ptF p K L[k] L[m] j = (decide (p[L[k].toNat][j] = 1) && decide (K[j] = K[L[m].toNat])) := by
          unfold ptF
          rw [Zz (show L[k].toNat < p.length by omega), Zz (show j < p[L[k].toNat].length by omega), Zz (show j < K.length by omega), Zz (show L[m].toNat < K.length by omega)]
        by_cases c1 : p[L[k].toNat][j] = 1
        · by_cases c2 : K[j] = K[L[m].toNat]
          · focus
              refine Gp<|Gq<|Gw rfl<|Gz t rfl<|Ze Km rfl hL<|Zk rfl<|Gk<|Gl rfl (fun h3 => ?_) (fun h3 => ?_); refine Gx<|Gp<|Gv<|Gp<|Yj Yg Kb rfl ?_; refine Xw v rfl<|Xw t rfl<|Qj rfl<|Ys Km Kl Kn rfl (fun _ => rfl) rfl hL E5 rfl Kf ?_; rintro _ _ rfl; refine Qd Kp Kt Kx rfl (fun _ => rfl) rfl h E5 rfl Kf ?_; rintro _ u1 hu1; refine Qj rfl<|Ys Km Kl Kn rfl (fun _ => rfl) rfl hu1 E5 rfl Kf ?_; rintro _ _ rfl; refine Ua rfl<|Xc rfl (fun h4 => ?_) (fun h4 => ?_); refine Xw u rfl<|Qj rfl ?_
              refine Ys Km Kl Kn rfl (fun _ => rfl) rfl hK E5 rfl Kf ?_; rintro _ _ rfl; refine Xw u rfl<|Xw t rfl<|Qj rfl<|Ys Km Kl Kn rfl (fun _ => rfl) rfl hL E5 rfl Kf ?_; rintro _ _ rfl; refine Qd Km Kl Kn rfl (fun _ => rfl) rfl hK E5 rfl Kf ?_; rintro _ _ rfl; refine Ua rfl<|Rj rfl<|Yh (fun w6 E6 => ?_); have hs3 := E6.size; refine Gl rfl (fun h5 => ?_) (fun h5 => ?_); refine Zj<|Yw rfl<|Gw rfl<|Wo rfl (Zo Km Kl rfl rfl Ka) ?_
              refine Wo_set rfl Kl rfl rfl (hO2.toB.ext E6) Kf Owned.int (Nat.le_refl _) Ka ?_; rintro w7 hO2 On1 K1 hz1; have E7 := On1.ext1 (E5.trans E6) Ka; have hO1 := (hO1.ext E6).wrote K1 Ka; refine Gk<|Zj<|Gw rfl<|Zt rfl<|Zp rfl<|Gk ?_; rotate_left; contradiction; contradiction; (exfalso; omega)
            refine ⟨(m + 1), Kg, Kh, ?_, ?_⟩
            · refine ⟨Kd, Ka, Ka, Kd, ?_⟩
              rw [← ptM_yes hml (by rw [eF, decide_eq_true c1, decide_eq_true c2]; rfl)]
              assumption
            · omega
          · focus
              refine Gp<|Gq<|Gw rfl<|Gz t rfl<|Ze Km rfl hL<|Zk rfl<|Gk<|Gl rfl (fun h3 => ?_) (fun h3 => ?_); refine Gx<|Gp<|Gv<|Gp<|Yj Yg Kb rfl ?_; refine Xw v rfl<|Xw t rfl<|Qj rfl<|Ys Km Kl Kn rfl (fun _ => rfl) rfl hL E5 rfl Kf ?_; rintro _ _ rfl; refine Qd Kp Kt Kx rfl (fun _ => rfl) rfl h E5 rfl Kf ?_; rintro _ u1 hu1; refine Qj rfl<|Ys Km Kl Kn rfl (fun _ => rfl) rfl hu1 E5 rfl Kf ?_; rintro _ _ rfl; refine Ua rfl<|Xc rfl (fun h4 => ?_) (fun h4 => ?_); refine Xw u rfl<|Qj rfl ?_
              refine Ys Km Kl Kn rfl (fun _ => rfl) rfl hK E5 rfl Kf ?_; rintro _ _ rfl; refine Xw u rfl<|Xw t rfl<|Qj rfl<|Ys Km Kl Kn rfl (fun _ => rfl) rfl hL E5 rfl Kf ?_; rintro _ _ rfl; refine Qd Km Kl Kn rfl (fun _ => rfl) rfl hK E5 rfl Kf ?_; rintro _ _ rfl; refine Ua rfl<|Rj rfl<|Yh (fun w6 E6 => ?_); have hs3 := E6.size; refine Gl rfl (fun h5 => ?_) (fun h5 => ?_); contradiction; refine Gx<|Zj<|Gw rfl<|Zt rfl<|Zp rfl<|Gk ?_; rotate_left; contradiction; (exfalso; omega)
            refine ⟨(m + 1), Kg, Kh, ?_, ?_⟩
            · refine ⟨by first | assumption | exact E5.trans Kd, Ka, Ka, by first | assumption | exact hO1.ext Kd, ?_⟩
              rw [← ptM_no hml (by rw [eF, decide_eq_false c2]; simp)]
              first | assumption | exact hO2.ext Kd
            · omega
        · focus
            refine Gp<|Gq<|Gw rfl<|Gz t rfl<|Ze Km rfl hL<|Zk rfl<|Gk<|Gl rfl (fun h3 => ?_) (fun h3 => ?_); refine Gx<|Gp<|Gv<|Gp<|Yj Yg Kb rfl ?_; refine Xw v rfl<|Xw t rfl<|Qj rfl<|Ys Km Kl Kn rfl (fun _ => rfl) rfl hL E5 rfl Kf ?_; rintro _ _ rfl; refine Qd Kp Kt Kx rfl (fun _ => rfl) rfl h E5 rfl Kf ?_; rintro _ u1 hu1; refine Qj rfl<|Ys Km Kl Kn rfl (fun _ => rfl) rfl hu1 E5 rfl Kf ?_; rintro _ _ rfl; refine Ua rfl ?_
            refine Xc rfl (fun h4 => ?_) (fun h4 => ?_); contradiction; refine Gu rfl<|Gu rfl<|Gu rfl<|Gu rfl<|Gu rfl<|Gu rfl<|Gu rfl<|Gu rfl<|Gu rfl<|Gu rfl<|Gu rfl<|Gu rfl<|Xx rfl<|Yh (fun w6 E6 => ?_); have hs3 := E6.size; refine Zb rfl ?_; refine Gx<|Zj<|Gw rfl<|Zt rfl<|Zp rfl<|Gk ?_; rotate_left; (exfalso; omega)
          refine ⟨(m + 1), Kg, Kh, ?_, ?_⟩
          · refine ⟨by first | assumption | exact E5.trans Kd, Ka, Ka, by first | assumption | exact hO1.ext Kd, ?_⟩
            rw [← ptM_no hml (by rw [eF, decide_eq_false c1]; simp)]
            first | assumption | exact hO2.ext Kd
          · omega
      · obtain rfl : m = L.length := by omega
        focus
          refine Gp<|Gq<|Gw rfl<|Gz t rfl<|Ze Km rfl hL<|Zk rfl<|Gk<|Gl rfl (fun h3 => ?_) (fun h3 => ?_); (exfalso; omega); refine Zu ?_; refine Za ?_; refine Zj<|Gw rfl<|Zt rfl<|Zp rfl<|Gk ?_
        refine ⟨(j + 1), Kg, Kh, ?_, ?_⟩
        · refine ⟨Kd, Ka, Ka, Kd, ?_⟩
          rw [← ptM_all]; assumption
        · omega
    · obtain rfl : j = p.length := by omega
      have hrl : (L.map (ptR p K L[k] p.length)).length = L.length := Ki
      focus
        have szE4 := E4.size; have szE2 := E2.size; refine Gp<|Gq<|Gw rfl<|Gz v rfl<|Ze Kp rfl h<|Zk rfl<|Gk<|Gl rfl (fun h2 => ?_) (fun h2 => ?_); (exfalso; omega); refine Zu ?_; refine Za ?_; refine Zj<|Gz o rfl<|Yw rfl<|Vt (ps := [(0, .slice _ _ _)]) (cs := [_]) rfl Kp Kt Ji rfl rfl rfl rfl ?_; rintro b3 w5 hb3 E5 hB1; have hs3 := E5.size; refine Vv rfl Xn rfl rfl hB1 (hO1.ext E5) (hO2.toB.ext E5).o Ka Kf Ka Ka (E4.trans E5) Ka ?_; rintro v1 w6 hO1 E6 M1; refine Vj v1 rfl<|Gk<|Zj<|Gw rfl<|Zt rfl<|Zp rfl<|Gk ?_
      refine ⟨((k + 1, v1)), Kg, Kh, ?_, ?_⟩
      · refine ⟨Kd, Ka, ?_⟩
        rw [Vb _ _ Ka]
        have e : (ptV p K L)[k]'Ka = L.map (ptR p K L[k] p.length) := by simp only [ptV, List.getElem_map]; rfl
        rw [e]
        assumption
      · simp only; omega
  · obtain rfl : k = L.length := by omega
    focus
      refine Gp<|Gq<|Gw rfl<|Gz t rfl<|Ze Km rfl hL<|Zk rfl<|Gk<|Gl rfl (fun h1 => ?_) (fun h1 => ?_); (exfalso; omega); refine Zu ?_; refine Za ?_; refine Gq<|Gz o rfl<|Vj o rfl<|Gk<|Zi ?_; refine ⟨E2, (congrArg (Owned _ _ _ _) ?_).mp (hO1.toB.o.mono Ka)⟩
    rw [List.take_of_length_le Ka]
theorem JoinedOf_ok (w : World) (v : Value) (p : List (List Int)) (h : ESl Ints w v p) (z : Int) : Does Tryz.prog 165 [v, .int .i64 z] w (RetDX w XR (fun c => (Nod p z → Cand p z.toNat c) ∧ (¬ Nod p z → c = []))) := by
  by_cases hz : Nod p z
  · obtain ⟨hp, hz0, hz1⟩ := id hz
    obtain ⟨i, rfl⟩ := Int.eq_ofNat_of_zero_le hz0
    have hi : i < p.length := Ka
    have hp5 := hp.2.1
    have k1 : ∀ (w : World) (v : Value), ESl Ints w v p → Does Tryz.prog 161 [v, .int .i64 (i : Int)] w (RetO w XI (ints (rf p i))) := fun w v h => by
      have := Ra w v p i h
      rw [show rfV p (i : Int) = rf p i from if_pos hz] at this; exact this
    have k2 : ∀ (w : World) (v : Value), ESl Ints w v p → Does Tryz.prog 194 [v] w (RetO w XI (ints (kndL p))) := fun w v h => by
      have := spec_KindsOf_ok w v p h
      rw [if_pos hp] at this; exact this
    have hrl := rf_len (p := p) (i := i)
    have hril := Vw (rf p i)
    have hr0 : 0 < (rf p i).length := List.length_pos_iff.2 fun e => by
      have := (Sb hp.gr hi).2 (Rch.refl i)
      rw [e] at this; cases this
    have hkl := Qg (p := p)
    have k4 : ∀ (w : World) (v u t : Value) (L : List Nat), ESl Ints w v p → Ints w u (ints (kndL p)) → Ints w t (ints L) → (∀ x ∈ L, x < p.length) → L.length ≤ p.length → Does Tryz.prog 195 [v, u, t] w (RetO w XR (qp p (L.map (knd p)))) := fun w v u t L h1 h2 h3 h4 h5 => by
      rw [← ptV_qp hp.gr h4]
      refine l4Part_ok w v u t p _ _ h1 h2 h3 hp.gr hkl (fun x hx => ?_) (by rw [Vw]; omega)
      obtain ⟨y, hy, rfl⟩ := List.mem_map.1 hx
      have := h4 y hy
      omega
    refine Zr Tryz.func165 rfl Tryz.results165 Tryz.ntmps165 rfl ?_
    focus
      refine Gq<|Vk rfl<|Gk<|Gq<|Gz v rfl<|Gw rfl<|Gs rfl (Zv (a := v) (b := .int _ _) Tryz.call161 rfl rfl) (k1 _ _ (h)) ?_; rintro u1 w1 ⟨E1, hO1⟩; have hs1 := E1.size; refine Vj u1 rfl<|Gk<|Gq<|Gz v rfl<|Gs rfl (Vl (a := v) Tryz.call194 rfl) (k2 _ _ ((Mono.mono E1 h))) ?_; rintro u2 w2 ⟨E2, hO2⟩; have hs2 := E2.size; refine Vj u2 rfl<|Gk<|Gp<|Gq<|Gz u1 rfl<|Ze Km rfl (Owned.read hO1)<|Zs rfl<|Gk<|Gl rfl (fun h1 => ?_) (fun h1 => ?_); (exfalso; omega); refine Gx<|Gq<|Gw rfl<|Zm (ps := [(0, .int _ _)]) (cs := [_]) rfl Km Kl Je rfl rfl rfl rfl ?_; rintro b1 w3 hb1 E3 hB1 hHb1; refine Vk rfl<|Gk<|Gp<|Gq<|Zp rfl<|Gk<|Gv ?_
    have hO3 : Owned w2.heap.size XI w3 (.slice (some ⟨b1, 0, none⟩) 1 1) (ints [i]) := Owned.block hHb1 hb1 rfl Kc ⟨⟨rfl, rfl⟩, trivial⟩
    have r1 := hO1.read
    have r2 := hO2.read
    clear hHb1 hB1 hO1 hO2
    refine Zy [7, 8, 9, 10, 22, 23, 24, 25, 26, 27, 28, 29, 30, 31, 32, 33, 34, 35, 36, 37, 38, 39, 40, 41, 42, 43, 44, 45, 46, 47, 48, 49, 50, 51, 52, 53, 54, 55, 56, 57, 58, 59] (fun ((k, u, L) : Nat × Value × List Nat) => [(8, .int .i64 (k : Nat)), (7, u)]) (fun (k, u, L) w' => Ext w2 w' ∧ Owned w2.heap.size XI w' u (ints L) ∧ k ≤ (rf p i).length ∧ Fnd p i k L) (fun x => (rf p i).length - x.1) (0, .slice (some ⟨b1, 0, none⟩) 1 1, [i]) Kg ?_ ?_
    · exact ⟨Kd, hO3, Nat.zero_le _, Fnd.zero⟩
    clear hO3
    rintro ⟨k, u, L⟩ ρj w4 ⟨E4, hO3, hk, hF⟩
    have hLl := hF.len hp.gr hi
    have hLil := Vw L
    by_cases hlt : k < (rf p i).length
    · have hrk := (Sb hp.gr hi).1 (List.getElem_mem hlt) |>.lt hp.gr hi
      have hgk : (ints (rf p i))[k]'Ka = ((rf p i)[k] : Int) := Yz hlt
      focus
        have szE4 := E4.size; refine Gp<|Gq<|Gw rfl<|Gz u1 rfl<|Ze Km rfl r1<|Zk rfl<|Gk<|Gl rfl (fun h2 => ?_) (fun h2 => ?_); refine Gx<|Gp<|Gv<|Gq<|Zg rfl<|Gk<|Gp<|Gq<|Zp rfl<|Gk<|Gv ?_; rotate_left; (exfalso; omega)
      refine Zy [9, 10, 28, 29, 30, 31, 32, 33, 34, 35, 36, 37, 38, 39, 40, 41, 42, 43, 44, 45, 46, 47, 48, 49, 50, 51] (fun ((j, f) : Nat × Bool) => [(10, .int .i64 (j : Nat)), (9, .bool f)]) (fun (j, f) w' => Ext w4 w' ∧ j ≤ L.length ∧ (f = true ↔ knd p (rf p i)[k] ∉ (L.take j).map (knd p))) (fun x => L.length - x.1) (0, true) Kg ?_ ?_
      · exact ⟨Ext.refl _, Nat.zero_le _, Ki⟩
      rintro ⟨j, f⟩ ρk w5 ⟨E5, hj, hf⟩
      by_cases hjl : j < L.length
      · have hLj := hF.lt hp.gr hi (List.getElem_mem hjl)
        have hgj : (ints L)[j]'Ka = (L[j] : Int) := Yz hjl
        have hkj : (ints (kndL p))[((ints L)[j]'Ka).toNat]'Ka = (knd p L[j] : Int) := by
          simp only [hgj, Int.toNat_natCast]; exact Ui _
        have hkk : (ints (kndL p))[((ints (rf p i))[k]'Ka).toNat]'Ka = (knd p (rf p i)[k] : Int) := by
          simp only [hgk, Int.toNat_natCast]; exact Ui _
        have hts := Vb _ _ hjl
        have bj : ((ints L)[j]'Ka).toNat < (ints (kndL p)).length := by rw [hkl, hgj]; omega
        have bk : ((ints (rf p i))[k]'Ka).toNat < (ints (kndL p)).length := by rw [hkl, hgk]; omega
        cases f
        · focus
            refine Gp<|Gq<|Gw rfl<|Gz u rfl<|Ze Km rfl (Owned.read hO3)<|Zk rfl<|Gk<|Gl rfl (fun h3 => ?_) (fun h3 => ?_); refine Gx<|Gp<|Gv<|Yj Yg Kb rfl ?_; refine Uh rfl<|Uh rfl<|Gu rfl<|Gu rfl<|Gu rfl<|Gu rfl<|Gu rfl<|Gu rfl<|Gu rfl<|Gu rfl<|Gu rfl<|Gu rfl<|Gu rfl<|Gu rfl<|Gu rfl<|Gu rfl<|Gu rfl<|Xx rfl<|WqaB rfl<|Yh (fun w6 E6 => ?_); refine Zj<|Gw rfl<|Zt rfl<|Zp rfl<|Gk ?_; rotate_left; (exfalso; omega)
          refine ⟨((j + 1, false)), Kg, Kh, ?_, ?_⟩
          · refine ⟨by exact exq, Ka, ⟨fun h => (by cases h), fun h => ?_⟩⟩
            rw [hts, List.map_append, List.mem_append, not_or] at h
            exact absurd (hf.2 h.1) Ki
          · simp only; omega
        · focus
            refine Gp<|Gq<|Gw rfl<|Gz u rfl<|Ze Km rfl (Owned.read hO3)<|Zk rfl<|Gk<|Gl rfl (fun h3 => ?_) (fun h3 => ?_); refine Gx<|Gp<|Gv<|Yj Yg Kb rfl ?_; refine Uh rfl<|Uh rfl<|Xw u2 rfl<|Xw u rfl<|Qj rfl<|Ys Km Kl Kn rfl (fun _ => rfl) rfl (Owned.read hO3) E5 rfl Kf ?_; rintro _ _ rfl; refine Qd Km Kl Kn rfl (fun _ => rfl) rfl r2 exq rfl Kf ?_; rintro _ _ rfl; refine Xw u2 rfl<|Xw u1 rfl<|Qj rfl<|Ys Km Kl Kn rfl (fun _ => rfl) rfl r1 exq rfl Kf ?_; rintro _ _ rfl
            refine Qd Km Kl Kn rfl (fun _ => rfl) rfl r2 exq rfl Kf ?_; rintro _ _ rfl; refine Wqneq rfl<|Rj rfl<|WqaB rfl<|Yh (fun w6 E6 => ?_); refine Zj<|Gw rfl<|Zt rfl<|Zp rfl<|Gk ?_; rotate_left; (exfalso; omega)
          refine ⟨((j + 1, !decide ((ints (kndL p))[((ints L)[j]'Ka).toNat]'bj = (ints (kndL p))[((ints (rf p i))[k]'Ka).toNat]'bk))), Kg, Kh, ?_, ?_⟩
          · refine ⟨by exact exq, Ka, ?_⟩
            rw [hkj, hkk, hts, List.map_append, List.mem_append, not_or]
            have hf' := hf.1 rfl
            simp only [List.map_cons, List.map_nil, List.mem_singleton, Bool.not_eq_true', decide_eq_false_iff_not]
            constructor
            · intro h; exact ⟨hf', fun e => h (by rw [e])⟩
            · intro h e; exact h.2 Ka
          · simp only; omega
      · obtain rfl : j = L.length := by omega
        rw [List.take_length] at hf
        cases f
        · focus
            refine Gp<|Gq<|Gw rfl<|Gz u rfl<|Ze Km rfl (Owned.read hO3)<|Zk rfl<|Gk<|Gl rfl (fun h3 => ?_) (fun h3 => ?_); (exfalso; omega); refine Zu ?_; refine Za ?_; refine Gq<|Vx rfl<|Gk<|Zb rfl ?_; refine Gx<|Zj<|Gw rfl<|Zt rfl<|Zp rfl<|Gk ?_
          refine ⟨((k + 1, u, L)), Kg, Kh, ?_, ?_⟩
          · refine ⟨by exact exq, by exact (Mono.mono E5 hO3), Ka, hF.skip hlt ?_⟩
            exact Classical.byContradiction fun h => absurd (hf.2 h) Ki
          · simp only; omega
        · focus
            have szE5 := E5.size; have szE4 := E4.size; refine Gp<|Gq<|Gw rfl<|Gz u rfl<|Ze Km rfl (Owned.read hO3)<|Zk rfl<|Gk<|Gl rfl (fun h3 => ?_) (fun h3 => ?_); (exfalso; omega); refine Zu ?_; refine Za ?_; refine Gq<|Vx rfl<|Gk<|Vp rfl ?_; refine Zj<|Gz u rfl<|Gz u1 rfl<|Gw rfl<|Vc Km Kl Kn rfl (fun _ => rfl) rfl r1 exq rfl Kf ?_; rintro _ _ rfl; refine Zm (ps := [(0, .int _ _)]) (cs := [_]) rfl Km Kl Je rfl rfl rfl rfl ?_; rintro b2 w6 hb2 E6 hB1 hHb2; have hs4 := E6.size
            refine Vv rfl Xk rfl rfl hB1 (hO3.toB.ext (E5.trans E6)) Owned.int (Nat.le_refl _) Kf Ka Ka ((((E1.trans E2).trans E4).trans E5).trans E6) Ka ?_; have hT1 := (hO3.toB.ext (E5.trans E6)); rintro v1 w7 hO3 E7 M1; have E9 := M1.ext hT1 ((E4.trans E5).trans E6) Ka; refine Vj v1 rfl<|Gk<|Zj<|Gw rfl<|Zt rfl<|Zp rfl<|Gk ?_
          refine ⟨((k + 1, v1, L ++ [(rf p i)[k]])), Kg, Kh, ?_, ?_⟩
          · refine ⟨Kd, ?_, Ka, hF.step hp.gr hi hlt (hf.1 rfl)⟩
            rw [ints_append, show ints [(rf p i)[k]] = [(ints (rf p i))[k]'Ka] by rw [hgk]; rfl]
            assumption
          · simp only; omega
    · have hK := hF.kds hp.gr hi Ka
      have hLt : ∀ x ∈ L, x < p.length := fun x hx => hF.lt hp.gr hi hx
      focus
        have szE4 := E4.size; refine Gp<|Gq<|Gw rfl<|Gz u1 rfl<|Ze Km rfl r1<|Zk rfl<|Gk<|Gl rfl (fun h2 => ?_) (fun h2 => ?_); (exfalso; omega); refine Zu ?_; refine Za ?_; refine Gq<|Gz v rfl<|Gz u2 rfl<|Gz u rfl<|Gs rfl (opc3 (a := v) (b := u2) (c := u) Tryz.call195 rfl rfl rfl) (k4 _ _ _ _ _ ((Mono.mono exq h)) ((Mono.mono E4 r2)) ((Owned.read hO3)) Kd Kd) ?_; rintro u3 w5 ⟨E5, hO1⟩; refine Vj u3 rfl<|Gk<|Zi ?_; refine Zl (v := u3) rfl ?_
      refine ⟨_, by exact (((E1.trans E2).trans E4).trans E5), hO1.mono Ka, fun _ => ⟨_, hK, rfl⟩, fun h => absurd hz h⟩
  · have k1 : ∀ (w : World) (v : Value), ESl Ints w v p → Does Tryz.prog 161 [v, .int .i64 z] w (RetO w XI []) := fun w v h => by
      have := Ra w v p z h
      rw [show rfV p z = [] from if_neg hz] at this; exact this
    have k2 : ∀ (w : World) (v : Value), ESl Ints w v p → Does Tryz.prog 194 [v] w (RetO w XI (if Pic p then ints (kndL p) else [])) := fun w v h => spec_KindsOf_ok w v p h
    have hnil : (([] : List Int).length : Int) = 0 := rfl
    refine Zr Tryz.func165 rfl Tryz.results165 Tryz.ntmps165 rfl ?_
    focus
      refine Gq<|Vk rfl<|Gk<|Gq<|Gz v rfl<|Gw rfl<|Gs rfl (Zv (a := v) (b := .int _ _) Tryz.call161 rfl rfl) (k1 _ _ (h)) ?_; rintro u1 w1 ⟨E1, hO1⟩; have hs1 := E1.size; refine Vj u1 rfl<|Gk<|Gq<|Gz v rfl<|Gs rfl (Vl (a := v) Tryz.call194 rfl) (k2 _ _ ((Mono.mono E1 h))) ?_; rintro u2 w2 ⟨E2, hO2⟩; have hs2 := E2.size; refine Vj u2 rfl<|Gk<|Gp<|Gq<|Gz u1 rfl<|Ze Km rfl (Owned.read hO1)<|Zs rfl<|Gk<|Gl rfl (fun h1 => ?_) (fun h1 => ?_); refine Gq<|Vq (XSl 3 XInt) rfl Xn Kt ?_; rintro b1 w3 hb1 b1lt E3 hO3; refine Vk rfl<|Gk<|Zi ?_; refine Zl (v := .slice _ _ _) rfl ?_; rotate_left; contradiction
    exact ⟨_, by exact ((E1.trans E2).trans E3), hO3.mono Ka, fun h => absurd h hz, fun _ => rfl⟩
end Go.Proofs.YtbgpppaljpngmaaGreatDoor
set_option linter.unusedVariables false
set_option linter.unusedSimpArgs false
namespace Go.Hs
def oxt (x : Nat) (o : List Nat) : List (List Nat) := ((List.range x).filter fun y => decide (1 ≤ y) && !o.contains y).map fun y => o ++ [y]
theorem ordS_succ (n k : Nat) : ordS n (k + 1) = (ordS n k).flatMap (oxt n) := rfl
theorem oxt_one (o : List Nat) : oxt 1 o = [] := rfl
theorem oxt_yes {x : Nat} {o : List Nat} (hx : 1 ≤ x) (h : o.contains x = false) : oxt (x + 1) o = oxt x o ++ [o ++ [x]] := by
  unfold oxt
  rw [Yv, decide_eq_true hx, h]
  simp
theorem oxt_no {x : Nat} {o : List Nat} (h : o.contains x = true) : oxt (x + 1) o = oxt x o := by
  unfold oxt
  rw [Yv, h]
  simp
theorem oxt_len (x : Nat) (o : List Nat) : (oxt x o).length ≤ x := by
  unfold oxt
  rw [List.length_map]
  exact Nat.le_trans (List.length_filter_le _ _) Ki
theorem flatMap_len {α β : Type} (f : α → List β) (m : Nat) : ∀ (l : List α), (∀ x ∈ l, (f x).length ≤ m) → (l.flatMap f).length ≤ l.length * m
  | [], _ => by simp
  | x :: l, h => by
    rw [List.flatMap_cons, List.length_append, List.length_cons]
    have := flatMap_len f m l fun y hy => h y (by simp [hy])
    have := h x Ki
    rw [Nat.succ_mul]; omega
theorem ordS_len (n : Nat) : ∀ k, (ordS n k).length ≤ n ^ k
  | 0 => by simp [ordS]
  | k + 1 => by
    rw [ordS_succ]
    have h1 := flatMap_len (oxt n) n (ordS n k) fun x _ => oxt_len n x
    have h2 := Nat.mul_le_mul_right n (ordS_len n k)
    rw [Nat.pow_succ]; omega
theorem ordS_len5 {n k : Nat} (hn : n ≤ 5) (hk : k ≤ 5) : (ordS n k).length ≤ 3125 := by
  have h1 := ordS_len n k
  have h2 : n ^ k ≤ 5 ^ k := Nat.pow_le_pow_left hn k
  have h3 : 5 ^ k ≤ 5 ^ 5 := Nat.pow_le_pow_right Ka hk
  have : (5 : Nat) ^ 5 = 3125 := rfl
  omega
theorem iis_get {D : List (List Nat)} {i : Nat} (h : i < (D.map ints).length) : (D.map ints)[i] = ints (D[i]'(by simpa using h)) := Ki
end Go.Hs
namespace Go.Proofs.YtbgpppaljpngmaaGreatDoor
open Go.Hs
set_option maxRecDepth 10000
set_option maxHeartbeats 4000000
set_option linter.unusedVariables false
set_option linter.unusedSimpArgs false
theorem l4Orders_ok (w : World) (n : Nat) (hn : 1 ≤ n ∧ n ≤ 5) : Does Tryz.prog 166 [.int .i64 (n : Int)] w (RetO w XR ((orders n).map ints)) := by
  refine Zr Tryz.func166 rfl Tryz.results166 Tryz.ntmps166 rfl ?_
  have keepR : True := trivial
  focus
    refine Gq<|Vk rfl<|Gk<|Gq<|Zm (ps := [(0, .int _ _)]) (cs := [_]) rfl Km Kl Je rfl rfl rfl rfl ?_; rintro b1 w1 hb1 E1 hB1 hHb1; have hlb1 := hB1.lt; refine Zm (ps := [(0, .slice _ _ _)]) (cs := [_]) rfl Kp Kt Ji rfl rfl rfl rfl ?_; rintro b2 w2 hb2 E2 hB2 hHb2; refine Vk rfl<|Gk<|Gp<|Gq<|Zp rfl<|Gk<|Gv ?_
  clear keepR
  have hOr : Owned w.heap.size XI w1 (.slice (some ⟨b1, 0, none⟩) 1 1) [0] := Owned.block hHb1 hb1 rfl Kc ⟨⟨rfl, rfl⟩, trivial⟩
  have hO0 : Owned w.heap.size XR w2 (.slice (some ⟨b2, 0, none⟩) 1 1) [[0]] := Owned.single (hOr.toB.ext E2) hHb2 Ka Ka
  clear hOr hHb1 hHb2 hB1 hB2
  refine Zy [3, 4, 5, 6, 7, 8, 9, 12, 13, 14, 15, 16, 17, 18, 19, 20, 21, 22, 23, 24, 25, 26, 27, 28, 29, 30, 31, 32, 33, 34, 35, 36, 37, 38, 39, 40, 41, 42, 43, 44, 45, 46, 47, 48, 49, 50, 51, 52, 53, 54, 55, 56, 57, 58, 59, 60, 61, 62, 63, 64] (fun ((k, u) : Nat × Value) => [(4, .int .i64 (k : Nat)), (3, u)]) (fun (k, u) w' => Ext w w' ∧ 1 ≤ k ∧ k ≤ n ∧ Owned w.heap.size XR w' u ((ordS n (k - 1)).map ints)) (fun x => n - x.1) (1, .slice (some ⟨b2, 0, none⟩) 1 1) Kg ?_ ?_
  · exact ⟨by first | assumption | exact E1.trans E2, Nat.le_refl _, hn.1, hO0⟩
  clear hO0
  rintro ⟨k, u⟩ ρj w3 ⟨E3, hk1, hkn, hO1⟩
  by_cases hlt : k < n
  · obtain ⟨D, hD⟩ : ∃ D, D = ordS n (k - 1) := ⟨_, rfl⟩
    have hDl : D.length ≤ 3125 := hD ▸ ordS_len5 hn.2 Ka
    have hDo : ∀ o ∈ D, o.length = k := fun o ho => by
      have := ((mem_ordS hn.1 (k - 1) o).1 (hD ▸ ho)).1
      omega
    rw [← hD] at hO1
    have hDm : (D.map ints).length = D.length := Ki
    have hR := hO1.read
    clear hO1
    focus
      have szE3 := E3.size; refine Gp<|Gq<|Gw rfl<|Gw rfl<|Zk rfl<|Gk<|Gl rfl (fun h1 => ?_) (fun h1 => ?_); refine Gx<|Gp<|Gv<|Gq<|Vq (XSl 3 XInt) rfl Xn Kt ?_; rintro b3 w4 hb3 b3lt E4 hO1; refine Vk rfl<|Gk<|Gp<|Gp<|Zj<|Zp rfl<|Gk<|Gv ?_; rotate_left; (exfalso; omega)
    refine Zy [5, 6, 7, 8, 9, 18, 19, 20, 21, 22, 23, 24, 25, 26, 27, 28, 29, 30, 31, 32, 33, 34, 35, 36, 37, 38, 39, 40, 41, 42, 43, 44, 45, 46, 47, 48, 49, 50, 51, 52, 53, 54, 55, 56, 57, 58, 59, 60, 61, 62, 63] (fun ((i, nx) : Nat × Value) => [(6, .int .i64 (i : Nat)), (5, nx)]) (fun (i, nx) w' => Ext w3 w' ∧ i ≤ D.length ∧ Owned w3.heap.size XR w' nx (((D.take i).flatMap (oxt n)).map ints)) (fun x => D.length - x.1) (0, .slice (some ⟨b3, 0, none⟩) 0 0) Kg ?_ ?_
    · exact ⟨Kd, Nat.zero_le _, by simpa using hO1⟩
    clear hO1
    rintro ⟨i, nx⟩ ρk w5 ⟨E5, hi, hO1⟩
    by_cases hil : i < D.length
    · have hgi := iis_get (D := D) (i := i) Ka
      have hol := hDo D[i] (List.getElem_mem hil)
      have hil2 := Vw D[i]
      have hfl : ((D.take i).flatMap (oxt n)).length ≤ 15625 := by
        have := flatMap_len (oxt n) n (D.take i) fun x _ => oxt_len n x
        have h2 : (D.take i).length ≤ 3125 := by simp; omega
        have h3 := Nat.mul_le_mul h2 hn.2
        omega
      focus
        refine Gp<|Gq<|Gw rfl<|Gz u rfl<|Ze Kp rfl hR<|Zk rfl<|Gk<|Gl rfl (fun h2 => ?_) (fun h2 => ?_); refine Gx<|Gp<|Gv<|Gq<|Zp rfl<|Gk<|Gv ?_; rotate_left; (exfalso; omega)
      refine Zy [5, 7, 8, 9, 24, 25, 26, 27, 28, 29, 30, 31, 32, 33, 34, 35, 36, 37, 38, 39, 40, 41, 42, 43, 44, 45, 46, 47, 48, 49, 50, 51, 52, 53, 54, 55, 56, 57, 58, 59, 60, 61, 62, 63] (fun ((x, nx) : Nat × Value) => [(7, .int .i64 (x : Nat)), (5, nx)]) (fun (x, nx) w' => Ext w3 w' ∧ 1 ≤ x ∧ x ≤ n ∧ Owned w3.heap.size XR w' nx (((D.take i).flatMap (oxt n) ++ oxt x D[i]).map ints)) (fun x => n - x.1) (1, nx) Kg ?_ ?_
      · exact ⟨Kd, Nat.le_refl _, hn.1, by rw [oxt_one]; simpa using hO1⟩
      clear hO1
      rintro ⟨x, ny⟩ ρl w6 ⟨E6, hx1, hxn, hO1⟩
      have hml : (((D.take i).flatMap (oxt n) ++ oxt x D[i]).map ints).length ≤ 15630 := by
        have := oxt_len x D[i]
        simp only [List.length_map, List.length_append]; omega
      by_cases hxl : x < n
      · focus
          have szE6 := E6.size; refine Gp<|Gq<|Gw rfl<|Gw rfl<|Zk rfl<|Gk<|Gl rfl (fun h3 => ?_) (fun h3 => ?_); refine Gx<|Gp<|Gv<|Gq<|Zg rfl<|Gk<|Gp<|Gq<|Zp rfl<|Gk<|Gv ?_; rotate_left; (exfalso; omega)
        refine Zy [8, 9, 29, 30, 31, 32, 33, 34, 35, 36, 37, 38, 39, 40, 41, 42, 43, 44, 45, 46, 47, 48, 49] (fun ((j, f) : Nat × Bool) => [(9, .int .i64 (j : Nat)), (8, .bool f)]) (fun (j, f) w' => Ext w6 w' ∧ j ≤ D[i].length ∧ f = (D[i].take j).contains x) (fun y => D[i].length - y.1) (0, false) Kg ?_ ?_
        · exact ⟨Ext.refl _, Nat.zero_le _, Ki⟩
        rintro ⟨j, f⟩ ρm w7 ⟨E7, hj, hf⟩
        by_cases hjl : j < D[i].length
        · have hgj : (ints D[i])[j]'Ka = (D[i][j] : Int) := Yz hjl
          have hts := Vb _ _ hjl
          have hgg : ((D.map ints)[i]'Ka)[j]'(by rw [hgi]; omega) = (D[i][j] : Int) := by simp only [hgi]; exact hgj
          have hrl : ((D.map ints)[i]'Ka).length = D[i].length := by rw [hgi]; exact hil2
          have hct : (D[i].take (j + 1)).contains x = ((D[i].take j).contains x || decide (D[i][j] = x)) := by
            rw [hts, Bool.eq_iff_iff]
            simp only [List.contains_eq_mem, List.mem_append, List.mem_singleton, decide_eq_true_eq, Bool.or_eq_true]
            exact or_congr Iff.rfl ⟨fun h => h.symm, fun h => h.symm⟩
          cases f
          · focus
              refine Gp<|Gq<|Gw rfl<|Gz u rfl<|Gw rfl<|Vc Kp Kt Kx rfl (fun _ => rfl) rfl hR exq rfl Kf ?_; rintro _ u1 hu1; refine Ze Km rfl hu1<|Zk rfl<|Gk<|Gl rfl (fun h4 => ?_) (fun h4 => ?_); refine Gx<|Gp<|Gv<|Zj<|Vx rfl<|Vx rfl<|Gz u rfl<|Gw rfl<|Vc Kp Kt Kx rfl (fun _ => rfl) rfl hR exq rfl Kf ?_; rintro _ u2 hu2; refine Gw rfl<|Vc Km Kl Kn rfl (fun _ => rfl) rfl hu2 exq rfl Kf ?_; rintro _ _ rfl; refine Gw rfl<|Zs rfl<|Ve rfl<|Zg rfl<|Gk<|Zj<|Gw rfl ?_
              refine Zt rfl<|Zp rfl<|Gk ?_; rotate_left; (exfalso; omega)
            refine ⟨((j + 1, decide (((D.map ints)[i]'Ka)[j]'(by rw [hgi]; omega) = (x : Int)))), Kg, Kh, ?_, ?_⟩
            · refine ⟨by exact E7, Ka, ?_⟩
              rw [hct, ← hf, Bool.false_or, decide_eq_decide, hgg]
              omega
            · simp only; omega
          · focus
              refine Gp<|Gq<|Gw rfl<|Gz u rfl<|Gw rfl<|Vc Kp Kt Kx rfl (fun _ => rfl) rfl hR exq rfl Kf ?_; rintro _ u1 hu1; refine Ze Km rfl hu1<|Zk rfl<|Gk<|Gl rfl (fun h4 => ?_) (fun h4 => ?_); refine Gx<|Gp<|Gv<|Zj<|Vx rfl<|Vx rfl<|Gn rfl<|Gn rfl<|Gn rfl<|Gn rfl<|Gn rfl<|Gn rfl<|Gn rfl<|Gn rfl<|Gn rfl<|Yc rfl<|Zg rfl<|Gk<|Zj<|Gw rfl<|Zt rfl<|Zp rfl<|Gk ?_; rotate_left; (exfalso; omega)
            refine ⟨((j + 1, true)), Kg, Kh, ?_, ?_⟩
            · refine ⟨by exact E7, Ka, ?_⟩
              rw [hct, ← hf]; rfl
            · simp only; omega
        · obtain rfl : j = D[i].length := by omega
          rw [List.take_length] at hf
          have hrl : ((D.map ints)[i]'Ka).length = D[i].length := by rw [hgi]; exact hil2
          cases f
          · focus
              have szE7 := E7.size; have szE6 := E6.size; have szE3 := E3.size; refine Gp<|Gq<|Gw rfl<|Gz u rfl<|Gw rfl<|Vc Kp Kt Kx rfl (fun _ => rfl) rfl hR exq rfl Kf ?_; rintro _ u1 hu1; refine Ze Km rfl hu1<|Zk rfl<|Gk<|Gl rfl (fun h4 => ?_) (fun h4 => ?_); (exfalso; omega); refine Zu ?_; refine Za ?_; refine Gq<|Vx rfl<|Vn rfl<|Gk<|Vu rfl (fun h5 => ?_) (fun h5 => ?_); refine Zj<|Gz ny rfl<|Vq XInt rfl Xk Kl ?_; rintro b4 w8 hb4 b4lt E8 hO2; have hs4 := E8.size; refine Gz u rfl<|Gw rfl<|Vc Kp Kt Kx rfl (fun _ => rfl) rfl hR exq rfl Kf ?_; rintro _ u2 hu2
              refine Wo_appS rfl Xk rfl rfl (Mono.mono ((E6.trans E7).trans E8) hu2) hO2.toB Kf Ka Ka (((E3.trans E6).trans E7).trans E8) Ka ?_; have hT1 := hO2.toB; rintro v1 w9 hO2 E9 M1; have E10 := M1.ext hT1 ((E6.trans E7).trans E8) Ka; have E11 := M1.ext hT1 (E7.trans E8) Ka; have E12 := M1.ext hT1 E8 Ka; have szE12 := E12.size; have hO1 := (hO1.toB.ext exq).moves M1 hT1 Ka; refine Gw rfl<|Zm (ps := [(0, .int _ _)]) (cs := [_]) rfl Km Kl Je rfl rfl rfl rfl ?_; rintro b5 w10 hb5 E13 hB1 hHb5; have hs6 := E13.size; refine Vv rfl Xk rfl rfl hB1 (hO2.toB.ext E13) Owned.int (Nat.le_refl _) Kf Ka Ka (E9.trans E13) Ka ?_; have hT2 := (hO2.toB.ext E13); rintro v2 w11 hO2 E14 M2
              have E15 := M2.ext hT2 (E10.trans E13) Ka; have szE15 := E15.size; have hO1 := (hO1.ext E13).moves M2 hT2 Ka; refine Yd rfl Kp Kt Ji rfl (OwnedB.isC hO2.toB) rfl ?_; rintro b6 w12 hb6 E18 hB2 hHb6; have hs8 := E18.size; refine Vv rfl Xn rfl rfl hB2 (hO1.ext E18) (hO2.toB.ext E18).o Ka Kf Ka Ka (E14.trans E18) Ka ?_; have hT3 := (hO1.ext E18); rintro v3 w13 hO1 E19 M3; have E20 := M3.ext hT3 (E15.trans E18) Ka; refine Vj v3 rfl<|Gk<|Zj<|Gw rfl<|Zt rfl<|Zp rfl<|Gk ?_; rotate_left; contradiction
            refine ⟨((x + 1, v3)), Kg, Kh, ?_, ?_⟩
            · refine ⟨by exact E20, Ka, Ka, ?_⟩
              rw [oxt_yes hx1 hf.symm, ← List.append_assoc, List.map_append]
              have e : [ints (D[i] ++ [x])] = [[] ++ (D.map ints)[i]'Ka ++ [(x : Int)]] := by rw [ints_append, hgi]; rfl
              rw [List.map_cons, List.map_nil, e]
              assumption
            · simp only; omega
          · focus
              refine Gp<|Gq<|Gw rfl<|Gz u rfl<|Gw rfl<|Vc Kp Kt Kx rfl (fun _ => rfl) rfl hR exq rfl Kf ?_; rintro _ u1 hu1; refine Ze Km rfl hu1<|Zk rfl<|Gk<|Gl rfl (fun h4 => ?_) (fun h4 => ?_); (exfalso; omega); refine Zu ?_; refine Za ?_; refine Gq<|Vx rfl<|Vn rfl<|Gk<|Vu rfl (fun h5 => ?_) (fun h5 => ?_); contradiction; refine Gx<|Zj<|Gw rfl<|Zt rfl<|Zp rfl<|Gk ?_
            refine ⟨((x + 1, ny)), Kg, Kh, ?_, ?_⟩
            · refine ⟨by exact exq, Ka, Ka, ?_⟩
              rw [oxt_no hf.symm]
              exact (Mono.mono E7 hO1)
            · simp only; omega
      · obtain rfl : x = n := by omega
        focus
          refine Gp<|Gq<|Gw rfl<|Gw rfl<|Zk rfl<|Gk<|Gl rfl (fun h3 => ?_) (fun h3 => ?_); (exfalso; omega); refine Zu ?_; refine Za ?_; refine Zj<|Gw rfl<|Zt rfl<|Zp rfl<|Gk ?_
        refine ⟨((i + 1, ny)), Kg, Kh, ?_, ?_⟩
        · refine ⟨by exact E6, Ka, ?_⟩
          rw [Vb _ _ hil, List.flatMap_append, List.flatMap_cons, List.flatMap_nil, List.append_nil]
          exact hO1
        · simp only; omega
    · obtain rfl : i = D.length := by omega
      focus
        have szE5 := E5.size; have szE4 := E4.size; have szE3 := E3.size; have szE2 := E2.size; have szE1 := E1.size; refine Gp<|Gq<|Gw rfl<|Gz u rfl<|Ze Kp rfl hR<|Zk rfl<|Gk<|Gl rfl (fun h2 => ?_) (fun h2 => ?_); (exfalso; omega); refine Zu ?_; refine Za ?_; refine Zj<|Gz nx rfl<|Vj nx rfl<|Gk<|Zj<|Gw rfl<|Zt rfl<|Zp rfl<|Gk ?_
      refine ⟨((k + 1, nx)), Kg, Kh, ?_, ?_⟩
      · refine ⟨by exact (E3.trans E5), Ka, Ka, ?_⟩
        rw [show k + 1 - 1 = (k - 1) + 1 by omega, ordS_succ, ← hD]
        rw [List.take_length] at hO1
        exact hO1.mono Ka
      · simp only; omega
  · obtain rfl : k = n := by omega
    focus
      refine Gp<|Gq<|Gw rfl<|Gw rfl<|Zk rfl<|Gk<|Gl rfl (fun h1 => ?_) (fun h1 => ?_); (exfalso; omega); refine Zu ?_; refine Za ?_; refine Gq<|Gz u rfl<|Vj u rfl<|Gk<|Zi ?_; exact ⟨E3, hO1.toB.o.mono Ka⟩
theorem Reordered_ok (w : World) (v u : Value) (c : List (List Int)) (o : List Nat) (h : ESl Ints w v c) (hu : Ints w u (ints o)) (hc : Pic c) (ho : Ord c.length o) :
    Does Tryz.prog 167 [v, u] w (RetO w XR (reo c o)) := by
  have hp5 := hc.2.1
  obtain ⟨hol, hnd, hhd, hlt⟩ := id ho
  have hil := Vw o
  have k1 : ∀ (w : World) (v : Value), ESl Ints w v c → Does Tryz.prog 115 [v] w (Ret w (.bool true)) := fun w v h => by
    have := Yr w v c h
    rw [decide_eq_true hc] at this; exact this
  have h2 := pow_le5 (k := c.length) Ka
  have h1p : ∀ j, j < c.length → 1 <<< j < 2 ^ c.length := fun j hj => by rw [Nat.one_shiftLeft]; exact Nat.pow_lt_pow_right Ka hj
  have h1b : ∀ j k, (1 <<< j).testBit k = decide (j = k) := fun j k => by rw [Nat.one_shiftLeft, Nat.testBit_two_pow]
  have hsh : ((1 <<< c.length : Nat) : Int) = ((2 ^ c.length : Nat) : Int) := by rw [Nat.one_shiftLeft]
  have hgo : ∀ (k : Nat) (hk : k < o.length), (ints o)[k]'Ka = (o[k] : Int) := fun k hk => Yz hk
  refine Zr Tryz.func167 rfl Tryz.results167 Tryz.ntmps167 rfl ?_
  focus
    refine Gq<|Vk rfl<|Gk<|Gq<|Vq (XSl 3 XInt) rfl Xn Kt ?_; rintro b1 w1 hb1 b1lt E1 hO1; refine Vk rfl<|Gk<|Gp<|Gq<|Gz v rfl<|Gs rfl (Vl (a := v) Jo rfl) (k1 _ _ ((Mono.mono E1 h))) ?_; rintro _ w2 ⟨rfl, E2⟩; refine Vn rfl<|Vr rfl (Zq (v := .bool _) rfl) (fun h1 => ?_) (fun h1 => ?_); contradiction; refine Gz u rfl<|Ze Km rfl hu<|Gz v rfl<|Ze Kp rfl h<|Xz rfl<|Ve rfl<|Gk<|Vi rfl (fun h3 => ?_) (fun h3 => ?_); (exfalso; omega); refine Gx<|Gq<|Zp rfl<|Gk<|Gp<|Gq<|Zp rfl<|Gk<|Gv ?_
  refine Zy [4, 6, 7, 23, 24, 25, 26, 27, 28, 29, 30, 31, 32, 33, 34, 35, 36, 37, 38, 39, 40, 41, 42, 43, 44, 45] (fun ((k, M) : Nat × Nat) => [(7, .int .i64 (k : Nat)), (6, .int .i64 (M : Nat))]) (fun (k, M) w' => Ext w2 w' ∧ k ≤ c.length ∧ M < 2 ^ c.length ∧ ∀ j, M.testBit j = (o.take k).contains j) (fun x => c.length - x.1) (0, 0) Kg ?_ ?_
  · exact ⟨Ext.refl _, Nat.zero_le _, Nat.two_pow_pos _, fun j => Ki⟩
  rintro ⟨k, M⟩ ρj w3 ⟨E3, hk, hM, hB⟩
  by_cases hkl : k < c.length
  · have hok := hlt o[k] (List.getElem_mem Ka)
    have hgk := hgo k Ka
    have hsl := shl_le (g := 1) (k := o[k]) Ka Ka
    have hts := Vb o k Ka
    have hsl2 : (1 : Int).toNat <<< ((ints o)[k]'Ka).toNat ≤ 4096 := by simp only [hgk, Int.toNat_natCast]; exact Nat.le_trans hsl Ka
    focus
      refine Gp<|Gq<|Gw rfl<|Gz u rfl<|Ze Km rfl hu<|Zk rfl<|Gk<|Gl rfl (fun h4 => ?_) (fun h4 => ?_); refine Gx<|Gp<|Gv<|Gp<|Gq<|Gz u rfl<|Gw rfl<|Vc Km Kl Kn rfl (fun _ => rfl) rfl hu exq rfl Kf ?_; rintro _ _ rfl; refine Gz v rfl<|Ze Kp rfl h<|Uu rfl<|Gs rfl (opc3 (a := .int _ _) (b := .int _ _) (c := .int _ _) Jr rfl rfl rfl) (Uv _ _ _ _) ?_; rintro _ w4 ⟨rfl, E4⟩; refine Vn rfl<|Gk<|Vi rfl (fun h5 => ?_) (fun h5 => ?_); (exfalso; omega); refine Gx<|Zj<|Gw rfl<|Gz u rfl<|Gw rfl ?_
      refine Vc Km Kl Kn rfl (fun _ => rfl) rfl hu exq rfl Kf ?_; rintro _ _ rfl; refine Wo rfl (opv_shl rfl rfl Ka) ?_; refine Wo rfl (opv_or rfl rfl ⟨Int.natCast_nonneg _, Ka, Int.natCast_nonneg _, Int.le_trans (Int.ofNat_le.2 (show _ ≤ 4096 by assumption)) Kc⟩) ?_; refine Zp rfl<|Gk<|Zj<|Gw rfl<|Zt rfl<|Zp rfl<|Gk ?_; rotate_left; (exfalso; omega)
    refine ⟨((k + 1, (M : Int).toNat ||| (((1 : Int).toNat <<< ((ints o)[k]'Ka).toNat : Nat) : Int).toNat)), Kg, Kh, ?_, ?_⟩
    · have e : (M : Int).toNat ||| (((1 : Int).toNat <<< ((ints o)[k]'Ka).toNat : Nat) : Int).toNat = M ||| 1 <<< o[k] := by simp only [hgk, Int.toNat_natCast]; rfl
      rw [e]
      refine ⟨by exact (E3.trans E4), Ka, Nat.or_lt_two_pow hM (h1p _ hok), fun j => ?_⟩
      rw [Nat.testBit_or, hB, h1b, hts, Bool.eq_iff_iff]
      simp only [List.contains_eq_mem, List.mem_append, List.mem_singleton, decide_eq_true_eq, Bool.or_eq_true]
      exact or_congr Iff.rfl ⟨fun h => h.symm, fun h => h.symm⟩
    · simp only; omega
  · obtain rfl : k = c.length := by omega
    have hMe : M = 2 ^ c.length - 1 := by
      apply Nat.eq_of_testBit_eq
      intro j
      rw [hB, Nat.testBit_two_pow_sub_one, List.take_of_length_le Ka, List.contains_eq_mem, decide_eq_decide, ho.perm.mem_iff, List.mem_range]
    have hs1 : (((1 : Int).toNat <<< ((c.length : Nat) : Int).toNat : Nat) : Int) = ((2 ^ c.length : Nat) : Int) := by rw [Int.toNat_natCast, show (1 : Int).toNat = 1 from rfl, Nat.one_shiftLeft]
    have hs2 := Nat.one_le_two_pow (n := c.length)
    have hrl := reo_len (c := c) (o := o)
    focus
      refine Gp<|Gq<|Gw rfl<|Gz u rfl<|Ze Km rfl hu<|Zk rfl<|Gk<|Gl rfl (fun h4 => ?_) (fun h4 => ?_); (exfalso; omega); refine Zu ?_; refine Za ?_; refine Gp<|Gq<|Gw rfl<|Gz v rfl<|Ze Kp rfl h<|Wo rfl (opv_shl rfl rfl Ka) ?_; refine Uu rfl<|Xz rfl<|Gk<|Vi rfl (fun h5 => ?_) (fun h5 => ?_); (exfalso; omega); refine Gx<|Gp<|Gq<|Zp rfl<|Gk<|Gv ?_
    refine Zy [5, 8, 9, 10, 53, 54, 55, 56, 57, 58, 59, 60, 61, 62, 63, 64, 65, 66, 67, 68, 69, 70, 71, 72, 73, 74, 75, 76, 77, 78, 79, 80, 81, 82, 83, 84, 85] (fun ((k, x) : Nat × Value) => [(8, .int .i64 (k : Nat)), (5, x)]) (fun (k, x) w' => Ext w w' ∧ k ≤ c.length ∧ Owned w.heap.size XR w' x ((reo c o).take k)) (fun x => c.length - x.1) (0, .slice (some ⟨b1, 0, none⟩) 0 0) Kg ?_ ?_
    · exact ⟨by exact ((E1.trans E2).trans E3), Nat.zero_le _, by rw [List.take_zero]; exact (Mono.mono (E2.trans E3) hO1)⟩
    clear hO1
    rintro ⟨k, x⟩ ρk w4 ⟨E4, hk, hO1⟩
    by_cases hkl : k < c.length
    · have hok := hlt o[k] (List.getElem_mem Ka)
      have hgk := hgo k Ka
      have hrow := hc.row (i := o[k]) Ka
      have hck : (c[((ints o)[k]'Ka).toNat]'(by simp only [hgk, Int.toNat_natCast]; omega)).length = c.length := by simp only [hgk, Int.toNat_natCast]; exact hrow
      have htl : ((reo c o).take k).length = k := by simp; omega
      focus
        have szE4 := E4.size; refine Gp<|Gq<|Gw rfl<|Gz u rfl<|Ze Km rfl hu<|Zk rfl<|Gk<|Gl rfl (fun h6 => ?_) (fun h6 => ?_); refine Gx<|Gp<|Gv<|Gq<|Vq XInt rfl Xk Kl ?_; rintro b2 w5 hb2 b2lt E5 hO2; have hs3 := E5.size; refine Vk rfl<|Gk<|Gp<|Gq<|Zp rfl<|Gk<|Gv ?_; rotate_left; (exfalso; omega)
      refine Zy [9, 10, 60, 61, 62, 63, 64, 65, 66, 67, 68, 69, 70, 71, 72, 73, 74, 75, 76, 77, 78, 79, 80, 81] (fun ((j, r) : Nat × Value) => [(10, .int .i64 (j : Nat)), (9, r)]) (fun (j, r) w' => Ext w w' ∧ w4.heap.size ≤ w'.heap.size ∧ j ≤ c.length ∧ OwnedB w.heap.size w4.heap.size XR w' x ((reo c o).take k) ∧ Owned w4.heap.size XI w' r ((o.map fun m => bit c o[k] m).take j)) (fun x => c.length - x.1) (0, .slice (some ⟨b2, 0, none⟩) 0 0) Kg ?_ ?_
      · exact ⟨by exact (E4.trans E5), Ka, Nat.zero_le _, hO1.toB.ext (by exact E5), by simpa using hO2⟩
      clear hO1 hO2
      rintro ⟨j, r⟩ ρl w6 ⟨E6, hs6, hj, hO1, hO2⟩
      have hml : (o.map fun m => bit c o[k] m).length = c.length := by simp; omega
      have htl2 : ((o.map fun m => bit c o[k] m).take j).length = j := by simp; omega
      by_cases hjl : j < c.length
      · have hoj := hlt o[j] (List.getElem_mem Ka)
        have hgj := hgo j Ka
        have hel : (c[((ints o)[k]'Ka).toNat]'(by simp only [hgk, Int.toNat_natCast]; omega))[((ints o)[j]'Ka).toNat]'(by rw [hck]; simp only [hgj, Int.toNat_natCast]; omega) = bit c o[k] o[j] := by
          simp only [hgk, hgj, Int.toNat_natCast]
          unfold bit
          rw [Zz hok, Zz (show o[j] < c[o[k]].length by rw [hrow]; exact hoj)]
        have heldS : w = w := rfl
        focus
          have szE4 := E4.size; refine Gp<|Gq<|Gw rfl<|Gz u rfl<|Ze Km rfl hu<|Zk rfl<|Gk<|Gl rfl (fun h7 => ?_) (fun h7 => ?_); refine Gx<|Gp<|Gv<|Un (fun w' => Ext w w') Yg rfl Kb ?_; intro w7 E7 K1 hz1; refine WtmV 0 r rfl rfl exq<|WtmV 1 v rfl rfl exq<|WtmV 2 u rfl rfl exq<|WtmI 3 rfl rfl exq<|Wh_get 4 5 rfl Kb Kb rfl rfl Kb Kb (fun _ => rfl) Km Kl Kn rfl hu (fun w' hw' => Ext.trans (Ext.refl _) hw') rfl Kf exq ?_; rintro _ _ rfl
          refine Wh_get_z 6 7 rfl Kb Kb rfl rfl Kb Kb (fun _ => rfl) Kp Kt Kx rfl h (fun w' hw' => Ext.trans (Ext.refl _) hw') rfl Kf exq ?_; rintro _ u1 hu1; refine WtmV 8 u rfl rfl exq<|WtmI 9 rfl rfl exq<|Wh_get 10 11 rfl Kb Kb rfl rfl Kb Kb (fun _ => rfl) Km Kl Kn rfl hu (fun w' hw' => Ext.trans (Ext.refl _) hw') rfl Kf exq ?_; rintro _ _ rfl; refine Wh_get_z 12 13 rfl Kb Kb rfl rfl Kb Kb (fun _ => rfl) Km Kl Kn rfl hu1 (fun w' hw' => Ext.trans (Ext.refl _) hw') rfl Kf exq ?_
          rintro _ _ rfl; refine Wha [14]<|Gm rfl ?_ ?_; refine Zm (ps := [(0, .int _ _)]) (cs := [_]) rfl Km Kl Je rfl rfl rfl rfl ?_; rintro b3 w8 hb3 E8 hB1 hHb3; have hlb3 := hB1.lt; have hs5 := E8.size; refine Gk ?_; refine ⟨exq, ?_⟩; refine Wha [15]<|Gm rfl ?_ ?_; refine Vv rfl Xk rfl rfl hB1 (hO2.toB.ext (E7.trans E8)) Owned.int (Nat.le_refl _) Kf Ka Ka ((E6.trans E7).trans E8) Ka ?_; have hT1 := (hO2.toB.ext (E7.trans E8)); rintro v1 w9 hO2 E9 M1; have hO1 := (hO1.ext exq).moves M1 hT1 Ka; refine Gk ?_; refine ⟨E9, ?_⟩; refine WtaV 16 v1 rfl rfl E9<|Va Kb ?_; refine Zj<|Gw rfl<|Zt rfl<|Zp rfl<|Gk ?_; rotate_left; exact Gt; exact Gt; (exfalso; omega)
        refine ⟨((j + 1, v1)), Kg, Kh, ?_, ?_⟩
        · refine ⟨by exact E9, by have := M1.1.size; omega, Ka, by exact hO1, ?_⟩
          rw [Vb _ _ Ka]
          have e : (o.map fun m => bit c o[k] m)[j]'Ka = bit c o[k] o[j] := Ki
          rw [e, ← hel]
          assumption
        · simp only; omega
      · obtain rfl : j = c.length := by omega
        obtain ⟨rb, rc, rfl, _⟩ := hO2.lit Ka
        have hrb := hO2.lt_own (k := rb) rfl
        focus
          have szE4 := E4.size; refine Gp<|Gq<|Gw rfl<|Gz u rfl<|Ze Km rfl hu<|Zk rfl<|Gk<|Gl rfl (fun h7 => ?_) (fun h7 => ?_); contradiction; refine Zu ?_; refine Za ?_; refine Zj<|Gz x rfl<|Yw rfl<|Vt (ps := [(0, .slice _ _ _)]) (cs := [_]) rfl Kp Kt Ji rfl rfl rfl rfl ?_; rintro b3 w7 hb3 E7 hB1; have hlb3 := hB1.lt; refine Vv rfl Xn rfl rfl hB1 (hO1.ext E7) (hO2.toB.ext E7).o Ka Kf Ka Ka (E6.trans E7) Ka ?_; rintro v1 w8 hO1 E8 M1; refine Vj v1 rfl<|Gk<|Zj<|Gw rfl<|Zt rfl<|Zp rfl<|Gk ?_
        refine ⟨((k + 1, v1)), Kg, Kh, ?_, ?_⟩
        · refine ⟨by exact E8, Ka, ?_⟩
          rw [Vb _ _ Ka]
          have e : (reo c o)[k]'Ka = (o.map fun m => bit c o[k] m).take c.length := by rw [List.take_of_length_le Ka]; simp [reo]
          rw [e]
          assumption
        · simp only; omega
    · obtain rfl : k = c.length := by omega
      focus
        refine Gp<|Gq<|Gw rfl<|Gz u rfl<|Ze Km rfl hu<|Zk rfl<|Gk<|Gl rfl (fun h6 => ?_) (fun h6 => ?_); contradiction; refine Zu ?_; refine Za ?_; refine Gq<|Gz x rfl<|Vj x rfl<|Gk<|Zi ?_; refine ⟨E4, (congrArg (Owned _ _ _ _) ?_).mp (hO1.toB.o.mono Ka)⟩
      rw [List.take_of_length_le Ka]
theorem Uo (w : World) (v : Value) (p : List (List Int)) (h : ESl Ints w v p) (z : Int) : Does Tryz.prog 126 [v, .int .i64 z] w (RetO w XR (if Nod p z then lst p z.toNat else [])) := by
  have hle := h.le
  have k1 : ∀ (w : World) (v : Value), ESl Ints w v p → Does Tryz.prog 165 [v, .int .i64 z] w (RetDX w XR (fun c => (Nod p z → Cand p z.toNat c) ∧ (¬ Nod p z → c = []))) := fun w v h => JoinedOf_ok w v p h z
  refine Zr Tryz.func126 rfl Tryz.results126 Tryz.ntmps126 rfl ?_
  have stop2 : True := trivial
  focus
    refine Gq<|Vk rfl<|Gk<|Gq<|Gz v rfl<|Gw rfl<|Gs rfl (Zv (a := v) (b := .int _ _) Tryz.call165 rfl rfl) (k1 _ _ (h)) ?_; rintro u1 w1 ⟨x1, E1, hO1, hy1⟩; have hs1 := E1.size; refine Vj u1 rfl<|Gk<|Gp<|Gp ?_
  clear stop2
  by_cases hz : Nod p z
  · rw [if_pos hz]
    have hC := hy1.1 hz
    obtain ⟨hp, hz0, hz1⟩ := id hz
    have hi : z.toNat < p.length := Ka
    have hcg := hC.gr hp.gr hi
    have hcl : x1.length ≤ p.length := by
      obtain ⟨L, hL, rfl⟩ := hC
      rw [qp_len]; exact (hL.len hp.gr hi).2
    have hp5 := hp.2.1
    have hcp := hC.pic hp.gr hi Ka
    have hc1 := hcp.1
    have k2 : ∀ (w : World), Does Tryz.prog 166 [.int .i64 (x1.length : Int)] w (RetO w XR ((orders x1.length).map ints)) := fun w => l4Orders_ok w _ ⟨Ka, Ka⟩
    focus
      have szE1 := E1.size; refine Zj<|Gz u1 rfl<|Ze Kp rfl (Owned.read hO1)<|Zs rfl<|Gk<|Gl rfl (fun h1 => ?_) (fun h1 => ?_); (exfalso; omega); refine Gx<|Gq<|Gz u1 rfl<|Vj u1 rfl<|Gk<|Gq<|Gz u1 rfl<|Ze Kp rfl (Owned.read hO1)<|Gs rfl (Vl (a := .int _ _) Tryz.call166 rfl) (k2 _) ?_; rintro u2 w2 ⟨E2, hO2⟩; have hs2 := E2.size; refine Vj u2 rfl<|Gk<|Gp<|Gp<|Zj<|Zp rfl<|Gk<|Gv ?_
    have hlo : (orders x1.length).length ≤ 3125 := ordS_len5 Ka Ka
    have hlm : ((orders x1.length).map ints).length = (orders x1.length).length := Ki
    have r2 := hO2.read
    have hO1' := hO1.ext (by assumption : Ext w1 w2)
    refine Zy [6, 8, 9, 21, 22, 23, 24, 25, 26, 27, 28, 29, 30, 31, 32, 33, 34, 35, 36, 37, 38] (fun ((k, u, bs) : Nat × Value × List (List Int)) => [(8, .int .i64 (k : Nat)), (6, u)]) (fun (k, u, bs) w' => Ext w2 w' ∧ k ≤ (orders x1.length).length ∧ Owned w.heap.size XR w' u bs ∧ Cand p z.toNat bs ∧ bs = ((orders x1.length).take k).foldl (fun best o => lstep x1 best (reo x1 o)) x1) (fun x => (orders x1.length).length - x.1) (0, u1, x1) Kg ?_ ?_
    · exact ⟨Ext.refl _, Nat.zero_le _, hO1', hC, rfl⟩
    rintro ⟨k, u, bs⟩ ρj w3 ⟨E3, hk, hOb, hCb, hbs⟩
    by_cases hlt : k < (orders x1.length).length
    · have hgo := iis_get (D := orders x1.length) (i := k) Ka
      have hOrd := (mem_orders Ka).1 (List.getElem_mem hlt)
      have hcb := hCb.pic hp.gr hi (by have := hCb.len hC; omega)
      have hcr := reo_cand hC hOrd
      have hcrp := hcr.pic hp.gr hi (by have := hcr.len hC; omega)
      have k3 : ∀ (w : World) (v u : Value), ESl Ints w v x1 → Ints w u ((orders x1.length).map ints)[k] → Does Tryz.prog 167 [v, u] w (RetO w XR (reo x1 (orders x1.length)[k])) := fun w v u h h' => Reordered_ok w v u x1 _ h (hgo ▸ h') hcp hOrd
      have k4 : ∀ (w : World) (v : Value), ESl Ints w v bs → Does Tryz.prog 62 [v] w (Ret w (str (txt bs))) := fun w v h => by
        have := Yf w v bs h
        rw [if_pos hcb] at this; exact this
      have k5 : ∀ (w : World) (v : Value), ESl Ints w v (reo x1 (orders x1.length)[k]) → Does Tryz.prog 62 [v] w (Ret w (str (txt (reo x1 (orders x1.length)[k])))) := fun w v h => by
        have := Yf w v _ h
        rw [if_pos hcrp] at this; exact this
      have hstep : ((orders x1.length).take (k + 1)).foldl (fun best o => lstep x1 best (reo x1 o)) x1 = lstep x1 bs (reo x1 (orders x1.length)[k]) := by rw [Vb _ _ hlt, List.foldl_append, ← hbs]; rfl
      focus
        have szE3 := E3.size; have szE2 := E2.size; have szE1 := E1.size; refine Gp<|Gq<|Gw rfl<|Gz u2 rfl<|Ze Kp rfl r2<|Zk rfl<|Gk<|Gl rfl (fun h2 => ?_) (fun h2 => ?_); refine Gx<|Gp<|Gv<|Gp<|Zj<|Gz u1 rfl<|Gz u2 rfl<|Gw rfl<|Vc Kp Kt Kx rfl (fun _ => rfl) rfl r2 E3 rfl Kf ?_; rintro _ u3 hu1; refine Gs rfl (Zv (a := u1) (b := u3) Tryz.call167 rfl rfl) (k3 _ _ _ ((Mono.mono E3 (Owned.read hO1'))) ((Mono.mono E3 hu1))) ?_; rintro u4 w4 ⟨E4, hO3⟩; have hs3 := E4.size; refine Vj u4 rfl<|Gk<|Gq<|Gz u4 rfl<|Gs rfl (Vl (a := u4) Jh rfl) (k5 _ _ ((Owned.read hO3))) ?_; rintro _ w5 ⟨rfl, E5⟩; have hs4 := E5.size
        refine Gz u rfl<|Gs rfl (Vl (a := u) Jh rfl) (k4 _ _ ((Mono.mono exq (Owned.read hOb)))) ?_; rintro _ w6 ⟨rfl, E6⟩; have hs5 := E6.size; refine Wo rfl (opv_lss_str rfl rfl)<|Gk<|Vu rfl (fun h3 => ?_) (fun h3 => ?_); refine Zj<|Gz u4 rfl<|Vj u4 rfl<|Gk<|Zj<|Gw rfl<|Zt rfl<|Zp rfl<|Gk ?_; rotate_left; refine Gx<|Zj<|Gw rfl<|Zt rfl<|Zp rfl<|Gk ?_; rotate_left; (exfalso; omega)
      · refine ⟨((k + 1, u4, reo x1 (orders x1.length)[k])), Kg, Kh, ?_, ?_⟩
        · refine ⟨by exact (((E3.trans E4).trans E5).trans E6), Ka, (hO3.ext (by exact (E5.trans E6) : Ext w4 w6)).mono Ka, hcr, ?_⟩
          rw [hstep]
          exact (if_pos Kd).symm
        · simp only; omega
      · refine ⟨((k + 1, u, bs)), Kg, Kh, ?_, ?_⟩
        · refine ⟨by exact (((E3.trans E4).trans E5).trans E6), Ka, by exact (Mono.mono ((E4.trans E5).trans E6) hOb), hCb, ?_⟩
          rw [hstep]
          exact (if_neg (by simp only [Bool.not_eq_true]; assumption)).symm
        · simp only; omega
    · obtain rfl : k = (orders x1.length).length := by omega
      focus
        have szE3 := E3.size; have szE2 := E2.size; have szE1 := E1.size; refine Gp<|Gq<|Gw rfl<|Gz u2 rfl<|Ze Kp rfl r2<|Zk rfl<|Gk<|Gl rfl (fun h2 => ?_) (fun h2 => ?_); (exfalso; omega); refine Zu ?_; refine Za ?_; refine Gq<|Gz u rfl<|Vj u rfl<|Gk<|Zi ?_; refine ⟨exq, (congrArg (Owned _ _ _ _) ?_).mp (hOb.toB.o.mono Ka)⟩
      rw [hbs, List.take_length]
      exact lst_fold_eq hp.gr hi hC
  · rw [if_neg hz]
    obtain rfl := hy1.2 hz
    have hnil : (([] : List (List Int)).length : Int) = 0 := rfl
    focus
      have szE1 := E1.size; refine Zj<|Gz u1 rfl<|Ze Kp rfl (Owned.read hO1)<|Zs rfl<|Gk<|Gl rfl (fun h1 => ?_) (fun h1 => ?_); refine Gq<|Gz u1 rfl<|Vj u1 rfl<|Gk<|Zi ?_; exact ⟨E1, hO1.toB.o.mono Ka⟩; contradiction
end Go.Proofs.YtbgpppaljpngmaaGreatDoor
namespace Go.Proofs.YtbgpppaljpngmaaGreatDoor
open Go.Hs
set_option maxRecDepth 10000
set_option maxHeartbeats 4000000
set_option linter.unusedVariables false
set_option linter.unusedSimpArgs false
theorem Vd : Flat Tryz.prog 26 [.slice none 0 0, .slice none 0 0] := ⟨_, Tryz.underlying26, fun _ => Kb, fun _ => Kb⟩
theorem spec_DeskNew_ok (w : World) (v : Value) (p : List (List Int)) (h : ESl Ints w v p) (z : Int) : Does Tryz.prog 106 [v, .int .i64 z] w (RetDkB w 23 88 3 (if Nod p z then lst p z.toNat else []) [] (decide (Nod p z))) := by
  refine Qh Tryz.func106 rfl Tryz.results106 Tryz.ntmps106 rfl Ks Ko ?_
  by_cases hz : Nod p z
  · have k1 : ∀ (w : World) (v : Value), ESl Ints w v p → Does Tryz.prog 118 [v, .int .i64 z] w (Ret w (.bool true)) := fun w v h => by
      have := Uw w v p h z
      rw [decide_eq_true hz] at this; exact this
    have k2 : ∀ (w : World) (v : Value), ESl Ints w v p → Does Tryz.prog 126 [v, .int .i64 z] w (RetO w XR (lst p z.toNat)) := fun w v h => by
      have := Uo w v p h z
      rw [if_pos hz] at this; exact this
    rw [if_pos hz, decide_eq_true hz]
    focus
      refine Gq<|Zn rfl Vd ?_; rintro b1 w1 hb1 E1 hB1; have hlb1 := hB1.lt; refine Zg rfl<|Gk<|Gp<|Gq<|Gz v rfl<|Gw rfl<|Gs rfl (Zv (a := v) (b := .int _ _) Gf rfl rfl) (k1 _ _ ((Mono.mono E1 h))) ?_; rintro _ w2 ⟨rfl, E2⟩; have hs2 := E2.size; refine Vn rfl<|Gk<|Vu rfl (fun h1 => ?_) (fun h1 => ?_); contradiction; refine Gx<|Gq<|Gz v rfl<|Gw rfl<|Gs rfl (Zv (a := v) (b := .int _ _) Jt rfl rfl) (k2 _ _ ((Mono.mono exq h))) ?_; rintro u1 w3 ⟨E3, hO1⟩; have ichO1 := OwnedB.isC (Owned.toB hO1); have hs3 := E3.size; refine Wo rfl (opv_buildF0 Vd rfl (OwnedB.isC hO1.toB))<|Yo Ko (hB1.ext (E2.trans E3)) rfl ((E1.trans E2).trans E3) ?_
      rintro w4 E4 hB1 K1 hz1; simp only [List.set] at hB1; have hO1 := hO1.toB.wrote K1 Ka; refine Zg rfl<|Gk<|Zi ?_
    exact ⟨b1, u1, _, rfl, hB1, u1, _, w3.heap.size, rfl, E4, hO1.wide Ka (Nat.le_refl _), Owned.nil, Ka, Ka⟩
  · have k1 : ∀ (w : World) (v : Value), ESl Ints w v p → Does Tryz.prog 118 [v, .int .i64 z] w (Ret w (.bool false)) := fun w v h => by
      have := Uw w v p h z
      rw [decide_eq_false hz] at this; exact this
    rw [if_neg hz, decide_eq_false hz]
    focus
      refine Gq<|Zn rfl Vd ?_; rintro b1 w1 hb1 E1 hB1; refine Zg rfl<|Gk<|Gp<|Gq<|Gz v rfl<|Gw rfl<|Gs rfl (Zv (a := v) (b := .int _ _) Gf rfl rfl) (k1 _ _ ((Mono.mono E1 h))) ?_; rintro _ w2 ⟨rfl, E2⟩; refine Vn rfl<|Gk<|Vu rfl (fun h1 => ?_) (fun h1 => ?_); refine Gq<|Wo rfl (Vf (ps := []) (cs := [_, _]) Vd rfl rfl)<|Yo Ko (hB1.ext E2) rfl (E1.trans E2) ?_; rintro w3 E3 hB1 K1 hz1; refine Zg rfl<|Gk<|Zi ?_; rotate_left; contradiction
    exact ⟨b1, _, _, rfl, hB1, _, _, w.heap.size, rfl, E3, OwnedB.nil, Owned.nil, Nat.le_refl _, E3.size⟩
end Go.Proofs.YtbgpppaljpngmaaGreatDoor
namespace Go.Proofs.YtbgpppaljpngmaaGreatDoor
open Go.Hs
set_option maxRecDepth 10000
set_option maxHeartbeats 4000000
set_option linter.unusedVariables false
set_option linter.unusedSimpArgs false
theorem copyRowsI_ok (w : World) (v : Value) (p : List (List Int)) (h : ESl Ints w v p) (hp : p.length ≤ 100) (hr : ∀ r ∈ p, r.length ≤ 100) : Does Tryz.prog 128 [v] w (RetO w XR p) := by
  refine Zr Tryz.func128 rfl Tryz.results128 Tryz.ntmps128 rfl ?_
  focus
    refine Gq<|Vk rfl<|Gk<|Gq<|Vq (XSl 3 XInt) rfl Xn Kt ?_; rintro b1 w1 hb1 b1lt E1 hO1; refine Vk rfl<|Gk<|Gp<|Gq<|Gz v rfl<|Ze Kp rfl h<|Gw rfl<|Gk<|Gv ?_
  refine Zy [3, 5, 9, 10, 11, 12, 13, 14, 15, 16, 17, 18, 19] (fun ((k, u) : Nat × Value) => [(9, .int .i64 (k : Nat)), (3, u)]) (fun (k, u) w' => Ext w w' ∧ k ≤ p.length ∧ Owned w.heap.size XR w' u (p.take k)) (fun x => p.length - x.1) (0, .slice (some ⟨b1, 0, none⟩) 0 0) Kg ?_ ?_
  · exact ⟨by exact E1, Nat.zero_le _, by simpa using hO1⟩
  clear hO1
  rintro ⟨k, u⟩ ρj w2 ⟨E2, hk, hO1⟩
  have hlt' : (p.take k).length = k := by simp; omega
  by_cases hlt : k < p.length
  · have hrl := hr _ (List.getElem_mem hlt)
    focus
      have szE2 := E2.size; refine Gq<|Zk rfl<|Gk<|Gp<|Gl rfl (fun h1 => ?_) (fun h1 => ?_); refine Gx<|Gp<|Gv<|Gq<|Vc Kp Kt Kx rfl (fun _ => rfl) rfl h E2 rfl Kf ?_; rintro _ u1 hu1; refine Vj u1 rfl<|Gk<|Zj<|Gz u rfl<|Vq XInt rfl Xk Kl ?_; rintro b2 w3 hb2 b2lt E3 hO2; have hs2 := E3.size; refine Gz u1 rfl<|Wo_appS rfl Xk rfl rfl (Mono.mono (E2.trans E3) hu1) hO2.toB Kf Ka Ka (E2.trans E3) Ka ?_; have hT1 := hO2.toB; rintro v1 w4 hO2 E4 M1; have hO1 := (hO1.toB.ext E3).moves M1 hT1 Ka; have szM1 := M1.1.size; refine Yd rfl Kp Kt Ji rfl (OwnedB.isC hO2.toB) rfl ?_; rintro b3 w5 hb3 E6 hB1 hHb3; have hs4 := E6.size
      refine Vv rfl Xn rfl rfl hB1 (hO1.ext E6) (hO2.toB.ext E6).o Ka Kf Ka Ka (E4.trans E6) Ka ?_; rintro v2 w6 hO1 E7 M2; refine Vj v2 rfl<|Gk<|Zj<|Zt rfl<|Gw rfl<|Gk ?_; rotate_left; (exfalso; omega)
    refine ⟨((k + 1, v2)), Kg, Kh, ?_, ?_⟩
    · refine ⟨by exact E7, Ka, ?_⟩
      rw [Vb _ _ hlt]
      exact hO1
    · simp only; omega
  · obtain rfl : k = p.length := by omega
    rw [List.take_length] at hO1
    focus
      refine Gq<|Zk rfl<|Gk<|Gp<|Gl rfl (fun h1 => ?_) (fun h1 => ?_); (exfalso; omega); refine Zu ?_; refine Za ?_; refine Gq<|Gz u rfl<|Vj u rfl<|Gk<|Zi ?_; exact ⟨E2, hO1.toB.o.mono Ka⟩
theorem Qq (w : World) (u1 u2 : Value) (now : List (List Int)) (past : List (List (List Int))) (h1 : ESl Ints w u1 now) (h2 : ESl (ESl Ints) w u2 past) (hn : now.length ≤ 100 ∧ ∀ r ∈ now, r.length ≤ 100) (hpl : past.length ≤ 100) (hp : ∀ p ∈ past, p.length ≤ 100 ∧ ∀ r ∈ p, r.length ≤ 100) :
    Does Tryz.prog 77 [.agg #[u1, u2]] w (RetDk w 23 88 3 now past) := by
  have icu1 : isCell u1 = true := Xb h1
  have icu2 : isCell u2 = true := Xb h2
  have k1 : ∀ (w : World) (v : Value), ESl Ints w v now → Does Tryz.prog 128 [v] w (RetO w XR now) := fun w v h => copyRowsI_ok w v now h hn.1 hn.2
  have k2 : ∀ (k : Nat) (hk : k < past.length) (w : World) (v : Value), ESl Ints w v past[k] → Does Tryz.prog 128 [v] w (RetO w XR past[k]) := fun k hk w v h => copyRowsI_ok w v _ h (hp _ (List.getElem_mem hk)).1 (hp _ (List.getElem_mem hk)).2
  refine fn_of_Wc Tryz.func77 rfl Tryz.results77 Tryz.ntmps77 rfl Ks Ko ?_
  focus
    refine Gq<|Vg rfl rfl rfl ?_; rintro b1 w1 hb1 E1 hB1; have hlb1 := hB1.lt; refine Zn rfl Vd ?_; rintro b2 w2 hb2 E2 hB2; have hlb2 := hB2.lt; have hs2 := E2.size; refine Gk<|Gq<|Zf Kr Ku rfl<|Vh u1 Kw (hB1.ext E2) rfl<|Gs rfl (Vl (a := u1) Tryz.call128 rfl) (k1 _ _ ((Mono.mono exq h1))) ?_; rintro u3 w3 ⟨E3, hO1⟩; have ichO1 := OwnedB.isC (Owned.toB hO1); have hs3 := E3.size; refine Wo rfl (opv_buildF0 Vd rfl (OwnedB.isC hO1.toB))<|Zn rfl Vd ?_; rintro b3 w4 hb3 E4 hB3; have hlb3 := hB3.lt; have hs4 := E4.size; refine Yp rfl Ko rfl rfl Ke Ke hB3 Ka (((E1.trans E2).trans E3).trans E4) ?_; rintro w5 E5 hB3 K1 hz1
    have E6 := ((E2.trans E3).trans E4).wroteAt exq E5 K1 hz1 Ka; have szE6 := E6.size; have E7 := (E3.trans E4).wroteAt exq E5 K1 hz1 Ka; have szE7 := E7.size; have E8 := E4.wroteAt exq E5 K1 hz1 Ka; simp only [List.set] at hB3; have hB1 := (hB1.ext exq).of_heap (K1 _ Ka); have hB2 := (hB2.ext exq).of_heap (K1 _ Ka); have hO1 := (hO1.toB.ext E4).wrote K1 Ka; refine Gk<|Gp<|Gq<|Zf Kr Kv rfl<|Vh u2 Jc hB1 rfl<|Ze Ja rfl h2<|Gw rfl<|Gk<|Gv ?_
  have hO0 : Owned w4.heap.size (XSl 23 XR) w5 (.slice none 0 0) ([] : List (List (List Int))) := Owned.nil
  have hN := hO1
  clear hO1 hB1 hB2 k1
  refine Zy [5, 13, 14, 15, 16, 17, 18, 19, 20, 21, 22, 23, 24] (fun ((k, u) : Nat × Value) => [(13, .int .i64 (k : Nat))]) (fun (k, u) w' => Ext w3 w' ∧ k ≤ past.length ∧ w4.heap.size ≤ w'.heap.size ∧ Blk w' b3 [u3, u] ∧ Owned w4.heap.size (XSl 23 XR) w' u (past.take k) ∧ OwnedB w2.heap.size w3.heap.size XR w' u3 now) (fun x => past.length - x.1) (0, .slice none 0 0) Kg ?_ ?_
  · exact ⟨by exact E8, Nat.zero_le _, Ka, hB3, by simpa using hO0, hN⟩
  clear hO0 hB3 hN
  rintro ⟨k, u⟩ ρj w6 ⟨E6, hk, hsz, hB4, hO1, hN⟩
  have icu : isCell u = true := OwnedB.isC hO1.toB
  have hlt' : (past.take k).length = k := by simp; omega
  by_cases hlt : k < past.length
  · have k2k := k2 k hlt
    have ht := Vb _ _ hlt
    have heldS : w = w := rfl
    focus
      have szE5 := E5.size; have szE4 := E4.size; refine Gp<|Zj<|Zk rfl<|Gk<|Gp<|Gl rfl (fun h3 => ?_) (fun h3 => ?_); refine Gx<|Gp<|Gv<|Gp<|Zj<|Vc Ja Ku Kw rfl (fun _ => rfl) rfl h2 exq rfl Kf ?_; rintro _ u4 hu1; refine Vj u4 rfl<|Gk<|Un (fun w' => Ext w w') Yg rfl Kb ?_; intro w7 E9 K2 hz2; have hs5 := E9.size; refine Qf 0 Kr Kv rfl rfl exq<|WtmV 2 u4 rfl rfl exq<|Wha [1, 3]<|Gm rfl ?_ ?_; refine Vh u Jc (hB4.ext E9) rfl<|Gk ?_; refine ⟨exq, ?_⟩; refine Wha [3]<|Gm rfl ?_ ?_; refine Gs rfl (Vl (a := u4) Tryz.call128 rfl) (k2k _ _ ((Mono.mono exq hu1))) ?_; rintro u5 w8 ⟨E10, hO2⟩
      have hs6 := E10.size; refine Gk ?_; refine ⟨exq, ?_⟩; refine Wha [4]<|Gm rfl ?_ ?_; refine Yd rfl Ja Ku Jp rfl (OwnedB.isC hO2.toB) rfl ?_; rintro b4 w9 hb4 E11 hB5 hHb4; have hlb4 := hB5.lt; have hs7 := E11.size; refine Gk ?_; refine ⟨exq, ?_⟩; refine Wha [5]<|Gm rfl ?_ ?_; refine Vv rfl el24 rfl rfl hB5 (hO1.toB.ext ((E9.trans E10).trans E11)) (hO2.toB.ext E11).o Ka Kf Ka Ka ((((((E1.trans E2).trans E3).trans E6).trans E9).trans E10).trans E11) Ka ?_; have hT1 := (hO1.toB.ext ((E9.trans E10).trans E11)); rintro v1 w10 hO1 E12 M1; have E15 := M1.ext hT1 (((E6.trans E9).trans E10).trans E11) Ka; have hB4 := (hB4.ext exq).moves M1 hT1 Ka; have hN := (hN.ext exq).moves M1 hT1 Ka
      have szM1 := M1.1.size; refine Gk ?_; refine ⟨E12, ?_⟩; refine Qf 6 Kr Kv rfl rfl E12<|Wha [7]<|Gm rfl ?_ ?_; refine Ye (v := v1) rfl Kv rfl rfl (OwnedB.isC hO1.toB) hB4 Ki Ka E12 ?_; rintro w11 E16 hB4 K3 hz3; have E19 := E15.wroteAt E12 E16 K3 hz3 Ka; simp only [List.set] at hB4; have hO1 := hO1.toB.wrote K3 Ka; have hN := hN.wrote K3 Ka; refine Gk ?_; refine ⟨E16, ?_⟩; refine Va Kb ?_; refine Zj<|Zt rfl<|Gw rfl<|Gk ?_; rotate_left; exact Gt; exact Gt; exact Gt; exact Gt; refine Gm rfl ?_ ?_; refine Gs rfl (Vl (a := u4) Tryz.call128 rfl) (k2k _ _ ((Mono.mono exq hu1))) ?_; rintro u5 w8 ⟨E10, hO2⟩; have hs6 := E10.size; refine Gk ?_; refine ⟨exq, ?_⟩; refine Wha [1, 4] ?_
      refine Gm rfl ?_ ?_; refine Vh u Jc (hB4.ext exq) rfl<|Gk ?_; refine ⟨exq, ?_⟩; refine Wha [4]<|Gm rfl ?_ ?_; refine Yd rfl Ja Ku Jp rfl (OwnedB.isC hO2.toB) rfl ?_; rintro b4 w9 hb4 E11 hB5 hHb4; have hlb4 := hB5.lt; have hs7 := E11.size; refine Gk ?_; refine ⟨exq, ?_⟩; refine Wha [5]<|Gm rfl ?_ ?_; refine Vv rfl el24 rfl rfl hB5 (hO1.toB.ext ((E9.trans E10).trans E11)) (hO2.toB.ext E11).o Ka Kf Ka Ka ((((((E1.trans E2).trans E3).trans E6).trans E9).trans E10).trans E11) Ka ?_; have hT1 := (hO1.toB.ext ((E9.trans E10).trans E11)); rintro v1 w10 hO1 E12 M1; have E15 := M1.ext hT1 (((E6.trans E9).trans E10).trans E11) Ka; have hB4 := (hB4.ext exq).moves M1 hT1 Ka; have hN := (hN.ext exq).moves M1 hT1 Ka
      have szM1 := M1.1.size; refine Gk ?_; refine ⟨E12, ?_⟩; refine Qf 6 Kr Kv rfl rfl E12<|Wha [7]<|Gm rfl ?_ ?_; refine Ye (v := v1) rfl Kv rfl rfl (OwnedB.isC hO1.toB) hB4 Ki Ka E12 ?_; rintro w11 E16 hB4 K3 hz3; have E19 := E15.wroteAt E12 E16 K3 hz3 Ka; simp only [List.set] at hB4; have hO1 := hO1.toB.wrote K3 Ka; have hN := hN.wrote K3 Ka; refine Gk ?_; refine ⟨E16, ?_⟩; refine Va Kb ?_; refine Zj<|Zt rfl<|Gw rfl<|Gk ?_; rotate_left; exact Gt; exact Gt; exact Gt; refine Gm rfl ?_ ?_; refine Yd rfl Ja Ku Jp rfl (OwnedB.isC hO2.toB) rfl ?_; rintro b4 w9 hb4 E11 hB5 hHb4; have hlb4 := hB5.lt; have hs7 := E11.size; refine Gk ?_; refine ⟨exq, ?_⟩; refine Wha [1]<|Gm rfl ?_ ?_
      refine Vh u Jc (hB4.ext exq) rfl<|Gk ?_; refine ⟨exq, ?_⟩; refine Wha [5]<|Gm rfl ?_ ?_; refine Vv rfl el24 rfl rfl hB5 (hO1.toB.ext ((E9.trans E10).trans E11)) (hO2.toB.ext E11).o Ka Kf Ka Ka ((((((E1.trans E2).trans E3).trans E6).trans E9).trans E10).trans E11) Ka ?_; have hT1 := (hO1.toB.ext ((E9.trans E10).trans E11)); rintro v1 w10 hO1 E12 M1; have E15 := M1.ext hT1 (((E6.trans E9).trans E10).trans E11) Ka; have hB4 := (hB4.ext exq).moves M1 hT1 Ka; have hN := (hN.ext exq).moves M1 hT1 Ka; have szM1 := M1.1.size; refine Gk ?_; refine ⟨E12, ?_⟩; refine Qf 6 Kr Kv rfl rfl E12<|Wha [7]<|Gm rfl ?_ ?_; refine Ye (v := v1) rfl Kv rfl rfl (OwnedB.isC hO1.toB) hB4 Ki Ka E12 ?_; rintro w11 E16 hB4 K3 hz3
      have E19 := E15.wroteAt E12 E16 K3 hz3 Ka; simp only [List.set] at hB4; have hO1 := hO1.toB.wrote K3 Ka; have hN := hN.wrote K3 Ka; refine Gk ?_; refine ⟨E16, ?_⟩; refine Va Kb ?_; refine Zj<|Zt rfl<|Gw rfl<|Gk ?_; rotate_left; exact Gt; exact Gt; exact Gt; exact Gt; exact Gt; (exfalso; omega)
    all_goals first
      | (refine ⟨(k + 1, v1), Kg, Kh, ?_, Kj⟩
         refine ⟨Kd, Ka, Ka, hB4, ?_, hN⟩
         rw [ht]; exact hO1.o)
  · obtain rfl : k = past.length := by omega
    rw [List.take_length] at hO1
    focus
      have szE6 := E6.size; have szE4 := E4.size; refine Gp<|Zj<|Zk rfl<|Gk<|Gp<|Gl rfl (fun h3 => ?_) (fun h3 => ?_); (exfalso; omega); refine Zu ?_; refine Za ?_; refine Gp<|Zj<|Vs Ks Ko hB4 rfl<|Yp rfl Ko rfl rfl Ke Ke (hB2.ext (E3.trans E6)) Ka (((E1.trans E2).trans E3).trans E6) ?_; rintro w7 E9 hB2 K2 hz2; have hN := hN.wrote K2 Ka; have hO1 := hO1.toB.wrote K2 Ka; refine Gk<|Zi ?_
    refine ⟨b2, u3, u, rfl, Kd, u3, u, w3.heap.size, rfl, by exact E9, ?_, hO1.o.mono Ka, Ka, Ka⟩
    exact hN.wide Ka (Nat.le_refl _)
end Go.Proofs.YtbgpppaljpngmaaGreatDoor
namespace Go.Proofs.YtbgpppaljpngmaaGreatDoor
open Go.Hs
set_option maxRecDepth 10000
set_option maxHeartbeats 4000000
set_option linter.unusedVariables false
set_option linter.unusedSimpArgs false
theorem Rk (w : World) (v : Value) (p : List (List Int)) (h : ESl Ints w v p) (hp : Gr p) (a : Nat) (ha : a < p.length) : Does Tryz.prog 119 [v, .int .i64 (a : Int)] w (RetO w XI (ints (arr p a))) := by
  have hle := h.le
  have hp5 := hp.2.1
  have hrow := hp.row ha
  have har : arr p a = (List.range p.length).filter fun j => decide (p[a].getD j 0 = 1) := by unfold arr arrR; rw [Zz ha, hrow]
  refine Zr Tryz.func119 rfl Tryz.results119 Tryz.ntmps119 rfl ?_
  focus
    refine Gq<|Vk rfl<|Gk<|Gq<|Vq XInt rfl Xk Kl ?_; rintro b1 w1 hb1 b1lt E1 hO1; refine Vk rfl<|Gk<|Gp<|Gq<|Zp rfl<|Gk<|Gv ?_
  refine Zy [5, 6, 8, 9, 10, 11, 12, 13, 14, 15, 16, 17, 18, 19, 20, 21, 22, 23, 24, 25] (fun ((k, u) : Nat × Value) => [(6, .int .i64 (k : Nat)), (5, u)]) (fun (k, u) w' => Ext w w' ∧ k ≤ p.length ∧ Owned w.heap.size XI w' u (ints ((List.range k).filter fun j => decide (p[a].getD j 0 = 1)))) (fun x => p.length - x.1) (0, .slice (some ⟨b1, 0, none⟩) 0 0) Kg ?_ ?_
  · exact ⟨by exact E1, Nat.zero_le _, hO1⟩
  clear hO1
  rintro ⟨k, u⟩ ρj w2 ⟨E2, hk, hO1⟩
  have hfl : (ints ((List.range k).filter fun j => decide (p[a].getD j 0 = 1))).length ≤ 11 := by
    rw [Vw]; exact Nat.le_trans (List.length_filter_le _ _) (by rw [List.length_range]; omega)
  by_cases hlt : k < p.length
  · have hg : p[a].getD k 0 = p[a][k] := Zz Ka
    by_cases hc : p[a][k] = 1
    · focus
        have szE2 := E2.size; refine Gp<|Gq<|Gw rfl<|Gz v rfl<|Ze Kp rfl h<|Zk rfl<|Gk<|Gl rfl (fun h1 => ?_) (fun h1 => ?_); refine Gx<|Gp<|Gv<|Gp<|Zj<|Gz v rfl<|Gw rfl<|Vc Kp Kt Kx rfl (fun _ => rfl) rfl h E2 rfl Kf ?_; rintro _ u1 hu1; refine Gw rfl<|Vc Km Kl Kn rfl (fun _ => rfl) rfl hu1 E2 rfl Kf ?_; rintro _ _ rfl; refine Zs rfl<|Gk<|Gl rfl (fun h2 => ?_) (fun h2 => ?_); refine Zj<|Gz u rfl<|Gw rfl<|Zm (ps := [(0, .int _ _)]) (cs := [_]) rfl Km Kl Je rfl rfl rfl rfl ?_; rintro b2 w3 hb2 E3 hB1 hHb2; have hs2 := E3.size
        refine Vv rfl Xk rfl rfl hB1 (hO1.toB.ext E3) Owned.int (Nat.le_refl _) Kf Ka Ka (E2.trans E3) Ka ?_; rintro v1 w4 hO1 E4 M1; refine Vj v1 rfl<|Gk<|Zj<|Gw rfl<|Zt rfl<|Zp rfl<|Gk ?_; rotate_left; contradiction; (exfalso; omega)
      refine ⟨((k + 1, v1)), Kg, Kh, ?_, ?_⟩
      · refine ⟨by exact E4, Ka, ?_⟩
        rw [Yv, hg, decide_eq_true hc, ints_append]
        exact hO1
      · simp only; omega
    · focus
        refine Gp<|Gq<|Gw rfl<|Gz v rfl<|Ze Kp rfl h<|Zk rfl<|Gk<|Gl rfl (fun h1 => ?_) (fun h1 => ?_); refine Gx<|Gp<|Gv<|Gp<|Zj<|Gz v rfl<|Gw rfl<|Vc Kp Kt Kx rfl (fun _ => rfl) rfl h E2 rfl Kf ?_; rintro _ u1 hu1; refine Gw rfl<|Vc Km Kl Kn rfl (fun _ => rfl) rfl hu1 E2 rfl Kf ?_; rintro _ _ rfl; refine Zs rfl<|Gk<|Gl rfl (fun h2 => ?_) (fun h2 => ?_); contradiction; refine Gx<|Zj<|Gw rfl<|Zt rfl<|Zp rfl<|Gk ?_; rotate_left; (exfalso; omega)
      refine ⟨((k + 1, u)), Kg, Kh, ?_, ?_⟩
      · refine ⟨by exact E2, Ka, ?_⟩
        rw [Yv, hg, decide_eq_false hc]
        simp only [Bool.false_eq_true, if_false, List.append_nil]
        exact hO1
      · simp only; omega
  · obtain rfl : k = p.length := by omega
    focus
      refine Gp<|Gq<|Gw rfl<|Gz v rfl<|Ze Kp rfl h<|Zk rfl<|Gk<|Gl rfl (fun h1 => ?_) (fun h1 => ?_); (exfalso; omega); refine Zu ?_; refine Za ?_; refine Gp<|Zj<|Gz u rfl<|Vj u rfl<|Gk<|Zi ?_; refine ⟨E2, (congrArg (Owned _ _ _ _) ?_).mp (hO1.toB.o.mono Ka)⟩
    rw [har]
open Classical in
theorem spec_SameSet_ok (w : World) (v u : Value) (p q : List (List Int)) (h : ESl Ints w v p) (h' : ESl Ints w u q) (a b : Int) (ha : Nod p a) (hb : Nod q b) : Does Tryz.prog 121 [v, .int .i64 a, u, .int .i64 b] w (Ret w (.bool (decide (Bis p a.toNat q b.toNat)))) := by
  have la : a.toNat < p.length := by have := ha.2; omega
  have lb : b.toNat < q.length := by have := hb.2; omega
  have hx := lst_pic ha.1 la
  have hy := lst_pic hb.1 lb
  have hx1 := hx.1
  have k1 : ∀ (w : World) (v : Value), ESl Ints w v p → Does Tryz.prog 126 [v, .int .i64 a] w (RetO w XR (lst p a.toNat)) := fun w v h => by
    have := Uo w v p h a
    rwa [if_pos ha] at this
  have k2 : ∀ (w : World) (v : Value), ESl Ints w v q → Does Tryz.prog 126 [v, .int .i64 b] w (RetO w XR (lst q b.toNat)) := fun w v h => by
    have := Uo w v q h b
    rwa [if_pos hb] at this
  have k3 : ∀ (w : World) (v : Value), ESl Ints w v (lst p a.toNat) → Does Tryz.prog 62 [v] w (Ret w (str (txt (lst p a.toNat)))) := fun w v h => by
    have := Yf w v _ h
    rwa [if_pos hx] at this
  have k4 : ∀ (w : World) (v : Value), ESl Ints w v (lst q b.toNat) → Does Tryz.prog 62 [v] w (Ret w (str (txt (lst q b.toNat)))) := fun w v h => by
    have := Yf w v _ h
    rwa [if_pos hy] at this
  have key : (lst p a.toNat = lst q b.toNat) ↔ Bis p a.toNat q b.toNat := lst_same ha.1.gr hb.1.gr la lb
  have key2 : txt (lst p a.toNat) = txt (lst q b.toNat) → lst p a.toNat = lst q b.toNat := txt_inj hx.gr hy.gr
  refine Zr Tryz.func121 rfl Tryz.results121 Tryz.ntmps121 rfl ?_
  generalize lst p a.toNat = x at *
  generalize lst q b.toNat = y at *
  focus
    refine Gq<|Zg rfl<|Gk<|Gq<|Gz v rfl<|Gw rfl<|Gs rfl (Zv (a := v) (b := .int _ _) Jt rfl rfl) (k1 _ _ (h)) ?_; rintro u1 w1 ⟨E1, hO1⟩; refine Vj u1 rfl<|Gk<|Gq<|Gz u rfl<|Gw rfl<|Gs rfl (Zv (a := u) (b := .int _ _) Jt rfl rfl) (k2 _ _ ((Mono.mono E1 h'))) ?_; rintro u2 w2 ⟨E2, hO2⟩; refine Vj u2 rfl<|Gk<|Gp<|Zj<|Gz u1 rfl<|Ze Kp rfl (Owned.read hO1)<|Yi rfl<|Zx rfl (fun h1 => ?_) (fun h1 => ?_); refine Gz u1 rfl<|Ze Kp rfl (Owned.read hO1)<|Gz u2 rfl<|Ze Kp rfl (Owned.read hO2)<|Zs rfl<|Yc rfl<|Zx rfl (fun h2 => ?_) (fun h2 => ?_); refine Gz u1 rfl<|Gs rfl (Vl (a := u1) Jh rfl) (k3 _ _ ((Mono.mono E2 (Owned.read hO1)))) ?_
    rintro _ w3 ⟨rfl, E3⟩; refine Gz u2 rfl<|Gs rfl (Vl (a := u2) Jh rfl) (k4 _ _ ((Mono.mono E3 (Owned.read hO2)))) ?_; rintro _ w4 ⟨rfl, E4⟩; refine Wo rfl (Xa rfl rfl)<|Yc rfl<|Zg rfl<|Gk<|Zi ?_; refine Zl (v := .bool _) rfl ?_; refine ⟨congrArg Value.bool ?_, exq⟩; rotate_left; refine Gn rfl<|Gn rfl<|Gn rfl<|Gn rfl<|Gn rfl<|Ve rfl<|Zg rfl<|Gk<|Zi ?_; refine Zl (v := .bool _) rfl ?_; refine ⟨congrArg Value.bool ?_, exq⟩; rotate_left; (exfalso; omega)
  · exact decide_eq_decide.2 ⟨fun e => key.1 (key2 e), fun e => by rw [key.2 e]⟩
  · exact (decide_eq_false fun hb => by have e := congrArg List.length (key.2 hb); omega).symm
open Classical in
theorem Qm (w : World) (v : Value) (p : List (List Int)) (h : ESl Ints w v p) : Does Tryz.prog 73 [v] w (Ret w (.bool (decide (LeastP p)))) := by
  have hle := h.le
  by_cases hp : Pic p
  · have hn : Nod p 0 := ⟨hp, Ka, by have := hp.1; omega⟩
    have hx := lst_pic hp (a := 0) (by have := hp.1; omega)
    have hx1 := hx.1
    have k1 : ∀ (w : World) (v : Value), ESl Ints w v p → Does Tryz.prog 126 [v, .int .i64 0] w (RetO w XR (lst p 0)) := fun w v h => by
      have := Uo w v p h 0
      rwa [if_pos hn] at this
    have k3 : ∀ (w : World) (v : Value), ESl Ints w v (lst p 0) → Does Tryz.prog 62 [v] w (Ret w (str (txt (lst p 0)))) := fun w v h => by
      have := Yf w v _ h
      rwa [if_pos hx] at this
    have k4 : ∀ (w : World) (v : Value), ESl Ints w v p → Does Tryz.prog 62 [v] w (Ret w (str (txt p))) := fun w v h => by
      have := Yf w v _ h
      rwa [if_pos hp] at this
    refine Zr Tryz.func73 rfl Tryz.results73 Tryz.ntmps73 rfl ?_
    have key : LeastP p ↔ lst p 0 = p := ⟨fun h => h.2, fun h => ⟨hp, h⟩⟩
    have key2 : txt (lst p 0) = txt p → lst p 0 = p := txt_inj hx.gr hp.gr
    generalize lst p 0 = x at *
    focus
      refine Gq<|Zg rfl<|Gk<|Gq<|Gz v rfl<|Gs rfl (Zv (a := v) (b := .int _ _) Jt rfl rfl) (k1 _ _ (h)) ?_; rintro u1 w1 ⟨E1, hO1⟩; refine Vj u1 rfl<|Gk<|Gp<|Zj<|Gz u1 rfl<|Ze Kp rfl (Owned.read hO1)<|Yi rfl<|Zx rfl (fun h1 => ?_) (fun h1 => ?_); refine Gz u1 rfl<|Ze Kp rfl (Owned.read hO1)<|Gz v rfl<|Ze Kp rfl h<|Zs rfl<|Yc rfl<|Zx rfl (fun h2 => ?_) (fun h2 => ?_); refine Gz u1 rfl<|Gs rfl (Vl (a := u1) Jh rfl) (k3 _ _ ((Owned.read hO1))) ?_; rintro _ w2 ⟨rfl, E2⟩; refine Gz v rfl<|Gs rfl (Vl (a := v) Jh rfl) (k4 _ _ ((Mono.mono exq h))) ?_; rintro _ w3 ⟨rfl, E3⟩
      refine Wo rfl (Xa rfl rfl)<|Yc rfl<|Zg rfl<|Gk<|Zi ?_; refine Zl (v := .bool _) rfl ?_; refine ⟨congrArg Value.bool ?_, exq⟩; rotate_left; refine Gn rfl<|Gn rfl<|Gn rfl<|Gn rfl<|Gn rfl<|Ve rfl<|Zg rfl<|Gk<|Zi ?_; refine Zl (v := .bool _) rfl ?_; refine ⟨congrArg Value.bool ?_, E1⟩; rotate_left; (exfalso; omega)
    · exact decide_eq_decide.2 ⟨fun e => key.2 (key2 e), fun e => by rw [key.1 e]⟩
    · exact (decide_eq_false fun hb => by have e := congrArg List.length (key.1 hb); omega).symm
  · have hn : ¬ Nod p 0 := fun h => hp h.1
    have k1 : ∀ (w : World) (v : Value), ESl Ints w v p → Does Tryz.prog 126 [v, .int .i64 0] w (RetO w XR []) := fun w v h => by
      have := Uo w v p h 0
      rwa [if_neg hn] at this
    have hnil : (([] : List (List Int)).length : Int) = 0 := rfl
    refine Zr Tryz.func73 rfl Tryz.results73 Tryz.ntmps73 rfl ?_
    focus
      refine Gq<|Zg rfl<|Gk<|Gq<|Gz v rfl<|Gs rfl (Zv (a := v) (b := .int _ _) Jt rfl rfl) (k1 _ _ (h)) ?_; rintro u1 w1 ⟨E1, hO1⟩; refine Vj u1 rfl<|Gk<|Gp<|Zj<|Gz u1 rfl<|Ze Kp rfl (Owned.read hO1)<|Yi rfl<|Zx rfl (fun h1 => ?_) (fun h1 => ?_); contradiction; refine Gn rfl<|Gn rfl<|Gn rfl<|Gn rfl<|Gn rfl<|Ve rfl<|Vx rfl<|Gn rfl<|Gn rfl<|Gn rfl<|Gn rfl<|Gn rfl<|Ve rfl<|Zg rfl<|Gk<|Zi ?_; refine Zl (v := .bool _) rfl ?_; refine ⟨congrArg Value.bool ?_, E1⟩
    exact (decide_eq_false fun hb => hp hb.1).symm
open Classical in
theorem Xg (w : World) (u1 u2 : Value) (d : Dsk) (h1 : ESl Ints w u1 d.now) (h2 : ESl (ESl Ints) w u2 d.past) : Does Tryz.prog 16 [.agg #[u1, u2]] w (Ret w (.bool (decide (DkOk d)))) := by
  obtain ⟨p, pp⟩ := d
  have hle := h2.le
  simp only at h1 h2 hle
  have icu1 : isCell u1 = true := by obtain ⟨_, _, rfl, _⟩ := h1; rfl
  have icu2 : isCell u2 = true := by obtain ⟨_, _, rfl, _⟩ := h2; rfl
  refine Zr Tryz.func16 rfl Tryz.results16 Tryz.ntmps16 rfl ?_
  focus
    refine Gq<|Vg rfl rfl rfl ?_; rintro b1 w1 hb1 E1 hB1; refine Zg rfl<|Gk<|Gp<|Gq<|Zp rfl<|Gk<|Gv ?_
  refine Zy [2, 3, 4, 5, 6, 7, 8, 9, 10, 11, 12, 13, 14, 15, 16, 17] (fun (k : Nat) => [(3, .int .i64 (k : Nat))]) (fun k w' => Ext w1 w' ∧ k ≤ pp.length ∧ ∀ q ∈ pp.take k, LeastP q) (fun x => pp.length - x) 0 Kg ?_ ?_
  · exact ⟨Ext.refl _, Nat.zero_le _, Ki⟩
  rintro k ρj w2 ⟨E2, hk, hall⟩
  by_cases hlt : k < pp.length
  · by_cases hq : LeastP pp[k]
    · have kq : ∀ (w : World) (v : Value), ESl Ints w v pp[k] → Does Tryz.prog 73 [v] w (Ret w (.bool true)) := fun w v h => by
        have := Qm w v _ h
        rwa [decide_eq_true hq] at this
      focus
        refine Gp<|Gq<|Gw rfl<|Zf Kr Kv rfl<|Vh u2 Jc (hB1.ext E2) rfl<|Ze Ja rfl h2<|Zk rfl<|Gk<|Gl rfl (fun h3 => ?_) (fun h3 => ?_); refine Gx<|Gp<|Gv<|Gq<|Zf Kr Kv rfl<|Vh u2 Jc (hB1.ext E2) rfl<|Gw rfl<|Vc Ja Ku Kw rfl (fun _ => rfl) rfl h2 exq rfl Kf ?_; rintro _ u3 hu1; refine Gs rfl (Vl (a := u3) Gg rfl) (kq _ _ ((Mono.mono exq hu1))) ?_; rintro _ w3 ⟨rfl, E3⟩; refine Vn rfl<|Gk<|Vu rfl (fun h4 => ?_) (fun h4 => ?_); contradiction; refine Gx<|Zj<|Gw rfl<|Zt rfl<|Zp rfl<|Gk ?_; rotate_left; (exfalso; omega)
      refine ⟨(k + 1), Kg, Kh, ?_, ?_⟩
      · refine ⟨by exact (E2.trans E3), Ka, fun q hq' => ?_⟩
        rw [Vb _ _ hlt] at hq'
        rcases List.mem_append.1 hq' with h | h
        · exact hall q h
        · rw [List.mem_singleton.1 h]; exact hq
      · omega
    · have kq : ∀ (w : World) (v : Value), ESl Ints w v pp[k] → Does Tryz.prog 73 [v] w (Ret w (.bool false)) := fun w v h => by
        have := Qm w v _ h
        rwa [decide_eq_false hq] at this
      focus
        refine Gp<|Gq<|Gw rfl<|Zf Kr Kv rfl<|Vh u2 Jc (hB1.ext E2) rfl<|Ze Ja rfl h2<|Zk rfl<|Gk<|Gl rfl (fun h3 => ?_) (fun h3 => ?_); refine Gx<|Gp<|Gv<|Gq<|Zf Kr Kv rfl<|Vh u2 Jc (hB1.ext E2) rfl<|Gw rfl<|Vc Ja Ku Kw rfl (fun _ => rfl) rfl h2 exq rfl Kf ?_; rintro _ u3 hu1; refine Gs rfl (Vl (a := u3) Gg rfl) (kq _ _ ((Mono.mono exq hu1))) ?_; rintro _ w3 ⟨rfl, E3⟩; refine Vn rfl<|Gk<|Vu rfl (fun h4 => ?_) (fun h4 => ?_); refine Gq<|Zg rfl<|Gk<|Zi ?_; refine Zl (v := .bool _) rfl ?_; refine ⟨congrArg Value.bool ?_, exq⟩; rotate_left; contradiction; (exfalso; omega)
      exact (decide_eq_false fun h => hq (h.2.2 _ (List.getElem_mem hlt))).symm
  · obtain rfl : k = pp.length := by omega
    rw [List.take_length] at hall
    by_cases hq : LeastP p
    · have kq : ∀ (w : World) (v : Value), ESl Ints w v p → Does Tryz.prog 73 [v] w (Ret w (.bool true)) := fun w v h => by
        have := Qm w v _ h
        rwa [decide_eq_true hq] at this
      focus
        refine Gp<|Gq<|Gw rfl<|Zf Kr Kv rfl<|Vh u2 Jc (hB1.ext E2) rfl<|Ze Ja rfl h2<|Zk rfl<|Gk<|Gl rfl (fun h3 => ?_) (fun h3 => ?_); (exfalso; omega); refine Zu ?_; refine Za ?_; refine Gq<|Zf Kr Ku rfl<|Vh u1 Kw (hB1.ext E2) rfl<|Gs rfl (Vl (a := u1) Gg rfl) (kq _ _ ((Mono.mono exq h1))) ?_; rintro _ w3 ⟨rfl, E3⟩; refine Vx rfl<|Zf Kr Kv rfl<|Vh u2 Jc (hB1.ext exq) rfl<|Ze Ja rfl h2<|Wsleq rfl<|Yc rfl<|Zg rfl<|Gk<|Zi ?_; refine Zl (v := .bool _) rfl ?_; refine ⟨congrArg Value.bool ?_, exq⟩
      exact decide_eq_decide.2 ⟨fun h => ⟨hq, show pp.length ≤ 8 by omega, hall⟩, fun h => by have : pp.length ≤ 8 := h.2.1; omega⟩
    · have kq : ∀ (w : World) (v : Value), ESl Ints w v p → Does Tryz.prog 73 [v] w (Ret w (.bool false)) := fun w v h => by
        have := Qm w v _ h
        rwa [decide_eq_false hq] at this
      focus
        refine Gp<|Gq<|Gw rfl<|Zf Kr Kv rfl<|Vh u2 Jc (hB1.ext E2) rfl<|Ze Ja rfl h2<|Zk rfl<|Gk<|Gl rfl (fun h3 => ?_) (fun h3 => ?_); (exfalso; omega); refine Zu ?_; refine Za ?_; refine Gq<|Zf Kr Ku rfl<|Vh u1 Kw (hB1.ext E2) rfl<|Gs rfl (Vl (a := u1) Gg rfl) (kq _ _ ((Mono.mono exq h1))) ?_; rintro _ w3 ⟨rfl, E3⟩; refine Vx rfl<|Gn rfl<|Gn rfl<|Gn rfl<|Gn rfl<|Ve rfl<|Zg rfl<|Gk<|Zi ?_; refine Zl (v := .bool _) rfl ?_; refine ⟨congrArg Value.bool ?_, exq⟩
      exact (decide_eq_false fun h => hq h.1).symm
end Go.Proofs.YtbgpppaljpngmaaGreatDoor
namespace Go.Proofs.YtbgpppaljpngmaaGreatDoor
open Go.Hs
set_option maxRecDepth 10000
set_option maxHeartbeats 4000000
set_option linter.unusedVariables false
set_option linter.unusedSimpArgs false
theorem EqualI_ok (w : World) (v u : Value) (xs ys : List Int) (h : Ints w v xs) (h' : Ints w u ys) : Does Tryz.prog 140 [v, u] w (Ret w (.bool (decide (xs = ys)))) := by
  have hle := h.le
  have hle' := h'.le
  refine Zr Tryz.func140 rfl Tryz.results140 Tryz.ntmps140 rfl ?_
  focus
    refine Gq<|Zg rfl<|Gk<|Gp<|Gq<|Gz v rfl<|Ze Km rfl h<|Gz u rfl<|Ze Km rfl h'<|Xz rfl<|Gk<|Vi rfl (fun h1 => ?_) (fun h1 => ?_); refine Gq<|Zg rfl<|Gk<|Zi ?_; refine Zl (v := .bool _) rfl ?_; refine ⟨congrArg Value.bool ?_, (Ext.refl _)⟩; rotate_left; refine Gx<|Gp<|Gq<|Gz v rfl<|Ze Km rfl h<|Gw rfl<|Gk<|Gv ?_; rotate_left
  · exact (decide_eq_false (fun e => by subst e; omega)).symm
  refine Zy [4, 5, 13, 14, 15, 16, 17, 18, 19, 20, 21, 22, 23, 24, 25] (fun (k : Nat) => [(13, .int .i64 (k : Nat))]) (fun k w' => Ext w w' ∧ k ≤ xs.length ∧ xs.take k = ys.take k) (fun x => xs.length - x) 0 Kg ?_ ?_
  · exact ⟨Ext.refl _, Nat.zero_le _, Ki⟩
  rintro k ρj w1 ⟨E1, hk, he⟩
  focus
    refine Gq<|Zk rfl<|Gk<|Gp<|Gl rfl (fun h2 => ?_) (fun h2 => ?_); refine Gx<|Gp<|Gv<|Gq<|Gw rfl<|Zp rfl<|Gk<|Gp<|Yj Yg Kb rfl ?_; refine Xw v rfl<|Qj rfl<|Ys Km Kl Kn rfl (fun _ => rfl) rfl h E1 rfl Kf ?_; rintro _ _ rfl; refine Xw u rfl<|Qj rfl<|Ys Km Kl Kn rfl (fun _ => rfl) rfl h' E1 rfl Kf ?_; rintro _ _ rfl; refine Wqneq rfl<|Yh (fun w2 E2 => ?_); refine Vi rfl (fun h3 => ?_) (fun h3 => ?_); refine Gq<|Zg rfl<|Gk<|Zi ?_; refine Zl (v := .bool _) rfl ?_; refine ⟨congrArg Value.bool ?_, exq⟩; rotate_left; refine Gx<|Zj ?_
    refine Zt rfl<|Gw rfl<|Gk ?_; rotate_left; refine Zu ?_; refine Za ?_; refine Gq<|Zg rfl<|Gk<|Zi ?_; refine Zl (v := .bool _) rfl ?_; refine ⟨congrArg Value.bool ?_, E1⟩; rotate_left
  · exact (decide_eq_false (ne_at (k := k) Ka Ka Kd)).symm
  · refine ⟨(k + 1), Kg, Kh, ?_, ?_⟩
    · exact ⟨E1.trans E2, Ka, (Qb Ka Ka).2 ⟨he, Kd⟩⟩
    · omega
  · obtain rfl : k = xs.length := by omega
    exact (decide_eq_true (ext_take Ka he)).symm
theorem Sa (w : World) (v u : Value) (xs ys : List (List Int)) (h : ESl Ints w v xs) (h' : ESl Ints w u ys) (hc : ∀ args w, Sem.run Tryz.prog (callFunc 140 args) w = .ok (.enter 140 args) w) :
    Does Tryz.prog 139 [v, u, .func (.func 140) [].toArray [].toArray] w (Ret w (.bool (decide (xs = ys)))) := by
  have hle := h.le
  have hle' := h'.le
  refine Zr Tryz.func139 rfl Tryz.results139 Tryz.ntmps139 rfl ?_
  focus
    refine Gq<|Zg rfl<|Gk<|Gp<|Gq<|Gz v rfl<|Ze Kp rfl h<|Gz u rfl<|Ze Kp rfl h'<|Xz rfl<|Gk<|Vi rfl (fun h1 => ?_) (fun h1 => ?_); refine Gq<|Zg rfl<|Gk<|Zi ?_; refine Zl (v := .bool _) rfl ?_; refine ⟨congrArg Value.bool ?_, (Ext.refl _)⟩; rotate_left; refine Gx<|Gp<|Gq<|Gz v rfl<|Ze Kp rfl h<|Gw rfl<|Gk<|Gv ?_; rotate_left
  · exact (decide_eq_false (fun e => by subst e; omega)).symm
  refine Zy [6, 7, 8, 9, 17, 18, 19, 20, 21, 22, 23, 24, 25, 26, 27, 28, 29, 30, 31] (fun (k : Nat) => [(17, .int .i64 (k : Nat))]) (fun k w' => Ext w w' ∧ k ≤ xs.length ∧ xs.take k = ys.take k) (fun x => xs.length - x) 0 Kg ?_ ?_
  · exact ⟨Ext.refl _, Nat.zero_le _, Ki⟩
  rintro k ρj w1 ⟨E1, hk, he⟩
  focus
    refine Gq<|Zk rfl<|Gk<|Gp<|Gl rfl (fun h2 => ?_) (fun h2 => ?_); refine Gx<|Gp<|Gv<|Gq<|Gw rfl<|Vc Kp Kt Kx rfl (fun _ => rfl) rfl h E1 rfl Kf ?_; rintro _ u1 hu1; refine Zp rfl<|Vj u1 rfl<|Gk<|Gq<|Gz u rfl<|Gw rfl<|Vc Kp Kt Kx rfl (fun _ => rfl) rfl h' E1 rfl Kf ?_; rintro _ u2 hu2; refine Vj u2 rfl<|Gk<|Gp<|Zj<|Gz (.func _ _ _) rfl<|Gz u1 rfl<|Gz u2 rfl<|Gs rfl (opc_val2 Tryz.call140 rfl rfl rfl) (EqualI_ok _ _ _ _ _ ((Mono.mono E1 hu1)) ((Mono.mono E1 hu2))) ?_; rintro _ w2 ⟨rfl, E2⟩; refine Vn rfl<|Gk ?_
    refine Vi rfl (fun h3 => ?_) (fun h3 => ?_); refine Gq<|Zg rfl<|Gk<|Zi ?_; refine Zl (v := .bool _) rfl ?_; refine ⟨congrArg Value.bool ?_, exq⟩; rotate_left; refine Gx<|Zj<|Zt rfl<|Gw rfl<|Gk ?_; rotate_left; refine Zu ?_; refine Za ?_; refine Gq<|Zg rfl<|Gk<|Zi ?_; refine Zl (v := .bool _) rfl ?_; refine ⟨congrArg Value.bool ?_, E1⟩; rotate_left
  · exact (decide_eq_false (ne_at (k := k) Ka Ka Kd)).symm
  · refine ⟨(k + 1), Kg, Kh, ?_, ?_⟩
    · exact ⟨E1.trans E2, Ka, (Qb Ka Ka).2 ⟨he, Kd⟩⟩
    · omega
  · obtain rfl : k = xs.length := by omega
    exact (decide_eq_true (ext_take Ka he)).symm
theorem IndexFuncP_ok (w : World) (v : Value) (xs : List (List (List Int))) (h : ESl (ESl Ints) w v xs) (fid : FuncId) (cap : List Value) (g : List (List Int) → Bool) (hc : ∀ args w, Sem.run Tryz.prog (callFunc fid args) w = .ok (.enter fid args) w)
    (hf : ∀ (x : List (List Int)) (u : Value) (w' : World), ESl Ints w' u x → Ext w w' → Does Tryz.prog fid (u :: cap) w' (Ret w' (.bool (g x)))) :
    Does Tryz.prog 154 [v, .func (.func fid) [].toArray cap.toArray] w (RetX w (Value.int .i64) (fun n _ => (n = -1 ∧ xs.any g = false) ∨ (0 ≤ n ∧ xs.any g = true))) := by
  have hle := h.le
  refine Zr Tryz.func154 rfl Tryz.results154 Tryz.ntmps154 rfl ?_
  focus
    refine Gq<|Zp rfl<|Gk<|Gp<|Gq<|Gz v rfl<|Ze Ja rfl h<|Gw rfl<|Gk<|Gv ?_
  refine Zy [4, 5, 8, 9, 10, 11, 12, 13, 14, 15, 16, 17, 18] (fun (k : Nat) => [(8, .int .i64 (k : Nat))]) (fun k w' => Ext w w' ∧ k ≤ xs.length ∧ (xs.take k).any g = false) (fun x => xs.length - x) 0 Kg ?_ ?_
  · exact ⟨Ext.refl _, Nat.zero_le _, Ki⟩
  rintro k ρj w1 ⟨E1, hk, hg⟩
  by_cases hlt : k < xs.length
  · have hmem := List.getElem_mem hlt
    have hf' := hf xs[k]
    focus
      refine Gq<|Zk rfl<|Gk<|Gp<|Gl rfl (fun h1 => ?_) (fun h1 => ?_); refine Gx<|Gp<|Gv<|Gq<|Gw rfl<|Zp rfl<|Gk<|Gq<|Gz (.func _ _ _) rfl<|Gz v rfl<|Gw rfl<|Vc Ja Ku Kw rfl (fun _ => rfl) rfl h E1 rfl Kf ?_; rintro _ u1 hu1; refine Gs rfl (opc_val1 (a := u1) Kd rfl rfl) (hf' _ _ ((Mono.mono E1 hu1)) (E1)) ?_; rintro _ w2 ⟨rfl, E2⟩; refine Gk<|Vu rfl (fun h2 => ?_) (fun h2 => ?_); refine Gp<|Zj<|Gw rfl<|Zp rfl<|Gk<|Zi ?_; refine Zl (v := .int _ _) rfl ?_; refine ⟨exq, _, rfl, ?_⟩; (try dsimp only); rotate_left; refine Gx<|Zj<|Zt rfl<|Gw rfl<|Gk ?_; rotate_left; (exfalso; omega)
    · right
      refine ⟨Ka, List.any_eq_true.2 ⟨_, hmem, Kd⟩⟩
    · refine ⟨(k + 1), Kg, Kh, ?_, ?_⟩
      · refine ⟨E1.trans E2, Ka, ?_⟩
        rw [Vb _ _ hlt, List.any_append, hg]
        simpa using by assumption
      · omega
  · obtain rfl : k = xs.length := by omega
    focus
      refine Gq<|Zk rfl<|Gk<|Gp<|Gl rfl (fun h1 => ?_) (fun h1 => ?_); (exfalso; omega); refine Zu ?_; refine Za ?_; refine Gq<|Zp rfl<|Gk<|Zi ?_; refine Zl (v := .int _ _) rfl ?_; refine ⟨E1, _, rfl, ?_⟩; (try dsimp only)
    exact .inl ⟨rfl, by simpa using hg⟩
theorem ContainsFuncP_ok (w : World) (v : Value) (xs : List (List (List Int))) (h : ESl (ESl Ints) w v xs) (fid : FuncId) (cap : List Value) (g : List (List Int) → Bool) (hc : ∀ args w, Sem.run Tryz.prog (callFunc fid args) w = .ok (.enter fid args) w)
    (hf : ∀ (x : List (List Int)) (u : Value) (w' : World), ESl Ints w' u x → Ext w w' → Does Tryz.prog fid (u :: cap) w' (Ret w' (.bool (g x)))) :
    Does Tryz.prog 110 [v, .func (.func fid) [].toArray cap.toArray] w (Ret w (.bool (xs.any g))) := by
  have hi := IndexFuncP_ok w v xs h fid cap g hc hf
  refine Zr Tryz.func110 rfl Tryz.results110 Tryz.ntmps110 rfl ?_
  focus
    refine Gq<|Zg rfl<|Gk<|Gq<|Gz v rfl<|Gz (.func _ _ _) rfl<|Gs rfl (Zv (a := v) (b := .func _ _ _) Tryz.call154 rfl rfl) (hi) ?_; rintro _ w1 ⟨E1, y1, rfl, hy1⟩; refine Wsgeq rfl<|Zg rfl<|Gk<|Zi ?_; refine Zl (v := .bool _) rfl ?_; refine ⟨congrArg Value.bool ?_, E1⟩
  rcases hy1 with ⟨rfl, h9⟩ | ⟨h8, h9⟩
  · rw [h9]; rfl
  · rw [h9]; exact decide_eq_true h8
open Classical in
theorem isLeast_ok (w : World) (v : Value) (p : List (List Int)) (h : ESl Ints w v p) (hp : Pic p) : Does Tryz.prog 109 [v] w (Ret w (.bool (decide (LeastP p)))) := by
  have hl := lst_pic hp (a := 0) (by have := hp.1; omega)
  have e : (LeastP p) = (lst p 0 = p) := propext ⟨fun h => h.2, fun h => ⟨hp, h⟩⟩
  have k1 : ∀ (w : World) (v : Value), ESl Ints w v p → Does Tryz.prog 153 [v, .int .i64 0] w (RetOB w XR (lst p 0) true) := fun w v h => by
    have := leastOf_ok w v p h hp.gr 0 (by have := hp.1; omega)
    rwa [if_pos hl.2.1, decide_eq_true hl.2.1] at this
  have k2 := fun (w : World) (v u : Value) (h : ESl Ints w v (lst p 0)) (h' : ESl Ints w u p) => Sa w v u (lst p 0) p h h' Tryz.call140
  rw [show decide (LeastP p) = decide (lst p 0 = p) from decide_eq_decide.2 (iff_of_eq e)]
  refine Zr Tryz.func109 rfl Tryz.results109 Tryz.ntmps109 rfl ?_
  focus
    refine Gq<|Zg rfl<|Gk<|Gq<|Gz v rfl<|Gs rfl (Zv (a := v) (b := .int _ _) Tryz.call153 rfl rfl) (k1 _ _ (h)) ?_; rintro _ w1 ⟨u1, rfl, E1, hO1⟩; refine Xl rfl<|Xh u1 rfl<|Xe rfl<|Vj u1 rfl<|Zg rfl<|Gk<|Gq<|Gz u1 rfl<|Gz v rfl<|Gs rfl (opc3 (a := u1) (b := v) (c := .func _ _ _) Tryz.call139 rfl rfl rfl) (k2 _ _ _ ((Owned.read hO1)) ((Mono.mono E1 h))) ?_; rintro _ w2 ⟨rfl, E2⟩; refine Zg rfl<|Gk<|Zi ?_; exact ⟨rfl, exq⟩
open Classical in
theorem isDesk1_ok (w : World) (v : Value) (p : List (List Int)) (h : ESl Ints w v p) : Does Tryz.prog 111 [v] w (Ret w (.bool (!decide (LeastP p)))) := by
  by_cases hp : Pic p
  · have k0 : ∀ (w : World) (v : Value), ESl Ints w v p → Does Tryz.prog 78 [v] w (Ret w (.bool true)) := fun w v h => by
      have := Uy w v p h; rwa [decide_eq_true hp] at this
    have k1 : ∀ (w : World) (v : Value), ESl Ints w v p → Does Tryz.prog 109 [v] w (Ret w (.bool (decide (LeastP p)))) := fun w v h => isLeast_ok w v p h hp
    refine Zr Tryz.func111 rfl Tryz.results111 Tryz.ntmps111 rfl ?_
    focus
      refine Gq<|Zg rfl<|Gk<|Gq<|Gz v rfl<|Gs rfl (Vl (a := v) Tryz.call78 rfl) (k0 _ _ (h)) ?_; rintro _ w1 ⟨rfl, E1⟩; refine Vn rfl<|Vr rfl (Zq (v := .bool _) rfl) (fun h1 => ?_) (fun h1 => ?_); contradiction; refine Gz v rfl<|Gs rfl (Vl (a := v) Tryz.call109 rfl) (k1 _ _ ((Mono.mono E1 h))) ?_; rintro _ w2 ⟨rfl, E2⟩; refine Vn rfl<|Ve rfl<|Zg rfl<|Gk<|Zi ?_; exact ⟨rfl, exq⟩
  · have hd : decide (LeastP p) = false := decide_eq_false fun h => hp h.1
    rw [hd]
    have k0 : ∀ (w : World) (v : Value), ESl Ints w v p → Does Tryz.prog 78 [v] w (Ret w (.bool false)) := fun w v h => by
      have := Uy w v p h; rwa [decide_eq_false hp] at this
    refine Zr Tryz.func111 rfl Tryz.results111 Tryz.ntmps111 rfl ?_
    focus
      refine Gq<|Zg rfl<|Gk<|Gq<|Gz v rfl<|Gs rfl (Vl (a := v) Tryz.call78 rfl) (k0 _ _ (h)) ?_; rintro _ w1 ⟨rfl, E1⟩; refine Vn rfl<|Vr rfl (Zq (v := .bool _) rfl) (fun h1 => ?_) (fun h1 => ?_); refine Gn rfl<|Gn rfl<|Gn rfl<|Yc rfl<|Zg rfl<|Gk<|Zi ?_; exact ⟨rfl, E1⟩; contradiction
open Classical in
theorem isDesk_ok (w : World) (u1 u2 : Value) (d : Dsk) (h1 : ESl Ints w u1 d.now) (h2 : ESl (ESl Ints) w u2 d.past) : Does Tryz.prog 58 [.agg #[u1, u2]] w (Ret w (.bool (decide (DkOk d)))) := by
  obtain ⟨p, pp⟩ := d
  have hle := h2.le
  simp only at h1 h2 hle
  have icu1 : isCell u1 = true := Xb h1
  have icu2 : isCell u2 = true := Xb h2
  refine Zr Tryz.func58 rfl Tryz.results58 Tryz.ntmps58 rfl ?_
  have k2 := fun (w : World) (v : Value) (h : ESl (ESl Ints) w v pp) => ContainsFuncP_ok w v pp h 111 [] (fun x => !decide (LeastP x)) Tryz.call111 (fun x u w' h e => isDesk1_ok w' u x h)
  by_cases hp : Pic p
  · have k0 : ∀ (w : World) (v : Value), ESl Ints w v p → Does Tryz.prog 78 [v] w (Ret w (.bool true)) := fun w v h => by
      have := Uy w v p h; rwa [decide_eq_true hp] at this
    have k1 : ∀ (w : World) (v : Value), ESl Ints w v p → Does Tryz.prog 109 [v] w (Ret w (.bool (decide (LeastP p)))) := fun w v h => isLeast_ok w v p h hp
    focus
      refine Gq<|Vg rfl rfl rfl ?_; rintro b1 w1 hb1 E1 hB1; refine Zg rfl<|Gk<|Gp<|Gq<|Zf Kr Ku rfl<|Vh u1 Kw hB1 rfl<|Gs rfl (Vl (a := u1) Tryz.call78 rfl) (k0 _ _ ((Mono.mono E1 h1))) ?_; rintro _ w2 ⟨rfl, E2⟩; refine Vn rfl<|Vr rfl (Zq (v := .bool _) rfl) (fun h3 => ?_) (fun h3 => ?_); contradiction; refine Zf Kr Ku rfl<|Vh u1 Kw (hB1.ext E2) rfl<|Gs rfl (Vl (a := u1) Tryz.call109 rfl) (k1 _ _ ((Mono.mono exq h1))) ?_; rintro _ w3 ⟨rfl, E3⟩; refine Vn rfl<|Ve rfl<|Xr rfl (fun h4 => ?_) (fun h4 => ?_); refine Gn rfl<|Gn rfl<|Gn rfl<|Gn rfl<|Yc rfl<|Gk<|Vp rfl ?_; refine Gq ?_
      refine Zg rfl<|Gk<|Zi ?_; refine Zl (v := .bool _) rfl ?_; refine ⟨congrArg Value.bool ?_, exq⟩; rotate_left; refine Zf Kr Kv rfl<|Vh u2 Jc (hB1.ext exq) rfl<|Ze Ja rfl h2<|Yi rfl<|Ve rfl<|Gk<|Gl rfl (fun h5 => ?_) (fun h5 => ?_); refine Gq<|Zg rfl<|Gk<|Zi ?_; refine Zl (v := .bool _) rfl ?_; refine ⟨congrArg Value.bool ?_, exq⟩; rotate_left; refine Gx<|Gp<|Zj<|Zf Kr Kv rfl<|Vh u2 Jc (hB1.ext exq) rfl<|Gs rfl (Zv (a := u2) (b := .func _ _ _) Tryz.call110 rfl rfl) (k2 _ _ ((Mono.mono exq h2))) ?_; rintro _ w4 ⟨rfl, E4⟩; refine Vn rfl<|Zg rfl<|Gk<|Zi ?_; refine Zl (v := .bool _) rfl ?_; refine ⟨congrArg Value.bool ?_, exq⟩; rotate_left
    · exact (decide_eq_false fun h => absurd h.1 Kd).symm
    · exact (decide_eq_false fun h => by have := h.2.1; simp only at this; omega).symm
    · rw [Bool.eq_iff_iff, decide_eq_true_iff, Bool.not_eq_true', List.any_eq_false]
      unfold DkOk
      simp only
      constructor
      · intro h9
        exact ⟨Kd, Ka, fun q hq => by simpa using h9 q hq⟩
      · rintro ⟨_, _, h9⟩ q hq
        simpa using h9 q hq
  · have hd : decide (DkOk ⟨p, pp⟩) = false := decide_eq_false fun h => hp h.1.1
    rw [hd]
    have k0 : ∀ (w : World) (v : Value), ESl Ints w v p → Does Tryz.prog 78 [v] w (Ret w (.bool false)) := fun w v h => by
      have := Uy w v p h; rwa [decide_eq_false hp] at this
    focus
      refine Gq<|Vg rfl rfl rfl ?_; rintro b1 w1 hb1 E1 hB1; refine Zg rfl<|Gk<|Gp<|Gq<|Zf Kr Ku rfl<|Vh u1 Kw hB1 rfl<|Gs rfl (Vl (a := u1) Tryz.call78 rfl) (k0 _ _ ((Mono.mono E1 h1))) ?_; rintro _ w2 ⟨rfl, E2⟩; refine Vn rfl<|Vr rfl (Zq (v := .bool _) rfl) (fun h3 => ?_) (fun h3 => ?_); refine Gn rfl<|Gn rfl<|Gn rfl<|Gn rfl<|Yc rfl<|Vx rfl<|Gn rfl<|Gn rfl<|Gn rfl<|Gn rfl<|Yc rfl<|Gk<|Vp rfl ?_; refine Gq<|Zg rfl<|Gk<|Zi ?_; exact ⟨rfl, exq⟩; contradiction
open Classical in
theorem impl_DeskOk_ok (w : World) (u1 u2 : Value) (d : Dsk) (h1 : ESl Ints w u1 d.now) (h2 : ESl (ESl Ints) w u2 d.past) : Does Tryz.prog 19 [.agg #[u1, u2]] w (Ret w (.bool (decide (DkOk d)))) := by
  have icu1 : isCell u1 = true := Xb h1
  have icu2 : isCell u2 = true := Xb h2
  refine Zr Tryz.func19 rfl Tryz.results19 Tryz.ntmps19 rfl ?_
  have k1 := fun (w : World) (h1 : ESl Ints w u1 d.now) (h2 : ESl (ESl Ints) w u2 d.past) => isDesk_ok w u1 u2 d h1 h2
  focus
    refine Gq<|Vg rfl rfl rfl ?_; rintro b1 w1 hb1 E1 hB1; refine Zg rfl<|Gk<|Gp<|Zj<|Vs Ks Ko hB1 rfl<|Gs rfl (Vl (a := .agg _) Tryz.call58 rfl) (k1 _ ((Mono.mono E1 h1)) ((Mono.mono E1 h2))) ?_; rintro _ w2 ⟨rfl, E2⟩; refine Zg rfl<|Gk<|Zi ?_; exact ⟨rfl, exq⟩
end Go.Proofs.YtbgpppaljpngmaaGreatDoor
namespace Go.Proofs.YtbgpppaljpngmaaGreatDoor
open Go.Hs
set_option maxRecDepth 10000
set_option maxHeartbeats 4000000
set_option linter.unusedVariables false
set_option linter.unusedSimpArgs false
theorem doV_none {d : Dsk} {a : Deed} (h1 : ¬ isBack d a) (h2 : nextV d.now a = none) : doV d a = (d, false) := by
  unfold doV; rw [if_neg h1, h2]
theorem madeV_t {p : List (List Int)} {k n : Int} {t : List UInt8} (h : ¬ (k = 1 ∨ k = 2 ∨ t = [])) : madeV p ⟨k, t, n⟩ = none := by
  simp only [madeV]
  rw [if_neg (fun e => h (.inr (.inr e.2.1))), if_neg (fun e => h (.inl e.1)), if_neg (fun e => h (.inr (.inl e.1))), if_neg (fun e => h (.inr (.inr e.2.1)))]
theorem madeV_n {p : List (List Int)} {k n : Int} {t : List UInt8} (h : ¬ (k = 3 ∨ n = 0)) : madeV p ⟨k, t, n⟩ = none := by
  simp only [madeV]
  rw [if_neg (fun e => h (.inr e.2.2)), if_neg (fun e => h (.inr e.2)), if_neg (fun e => h (.inr e.2)), if_neg (fun e => h (.inl e.1))]
open Classical in
theorem deskDo_ok (w : World) (hM : EMx gMx w (.bool true) ()) (u1 u2 : Value) (d : Dsk) (h1 : ESl Ints w u1 d.now) (h2 : ESl (ESl Ints) w u2 d.past) (hd : DkOk d) (k n : Int) (t : List UInt8) (ht : t.length ≤ 1048576) :
    Does Tryz.prog 92 [.agg #[u1, u2], .agg #[.int .i64 k, str t, .int .i64 n]] w (RetDkB w 23 88 3 (doV d ⟨k, t, n⟩).1.now (doV d ⟨k, t, n⟩).1.past (doV d ⟨k, t, n⟩).2) := by
  obtain ⟨p, pp⟩ := d
  have hle := h2.le
  have i1 : isCell u1 = true := Xb h1
  have i2 : isCell u2 = true := Xb h2
  simp only at h1 h2 hle
  have hpp : Pic p := hd.1.1
  have hppl : pp.length ≤ 8 := hd.2.1
  have bnd : ∀ q, Pic q → q.length ≤ 100 ∧ ∀ r ∈ q, r.length ≤ 100 := fun q hq => ⟨by have := hq.2.1; omega, fun r hr => by rw [(hq.2.2 r hr).1]; have := hq.2.1; omega⟩
  have hb2 : ∀ q ∈ pp, q.length ≤ 100 ∧ ∀ r ∈ q, r.length ≤ 100 := fun q hq => bnd q (hd.2.2 q hq).1
  have k1 : ∀ w, ESl Ints w u1 p → ESl (ESl Ints) w u2 pp → Does Tryz.prog 77 [.agg #[u1, u2]] w (RetDk w 23 88 3 p pp) := fun w h1 h2 => Qq w u1 u2 p pp h1 h2 (bnd p hpp) Ka hb2
  refine Qh Tryz.func92 rfl Tryz.results92 Tryz.ntmps92 rfl Ks Ko ?_
  by_cases hA : k = 1 ∨ k = 2 ∨ t = []
  · by_cases hB : k = 3 ∨ n = 0
    · by_cases h4 : k = 4
      · subst h4
        have et : t = [] := by rcases hA with h | h | h; exact absurd h Kc; exact absurd h Kc; exact h
        have en : n = 0 := by rcases hB with h | h; exact absurd h Kc; exact h
        subst et en
        by_cases hpl : pp = []
        · have hdo : doV ⟨p, pp⟩ ⟨4, [], 0⟩ = (⟨p, pp⟩, false) := doV_none (fun h => h.2 hpl) (by simp [nextV, madeV])
          have hpl0 : pp.length = 0 := by rw [hpl]; rfl
          rw [hdo]
          focus
            refine Gq<|Vg rfl rfl rfl ?_; rintro b1 w1 hb1 E1 hB1; have hlb1 := hB1.lt; refine Vg rfl rfl rfl ?_; rintro b2 w2 hb3 E2 hB2; have hlb2 := hB2.lt; refine Zn rfl Vd ?_; rintro b3 w3 hb4 E3 hB3; have hlb3 := hB3.lt; have hs3 := E3.size; refine Zg rfl<|Gk<|Gq<|Vs Ks Ko (hB1.ext exq) rfl<|Gs rfl (Vl (a := .agg _) Ga rfl) (k1 _ ((Mono.mono exq h1)) ((Mono.mono exq h2))) ?_; rintro _ w4 ⟨u3, q1, m1, rfl, E4, hO1, hQ1, hm1, hn1⟩; have icu3 := OwnedB.isC hO1; have icq1 := OwnedB.isC (Owned.toB hQ1); have hs4 := E4.size; refine Zn rfl Vd ?_; rintro b4 w5 hb5 E5 hB4; have hlb4 := hB4.lt; refine Yp rfl Ko rfl rfl Ke Ke hB4 Ka ((((E1.trans E2).trans E3).trans E4).trans E5) ?_; rintro w6 E6 hB4 K1 hz1
            have hB2 := (hB2.ext exq).of_heap (K1 _ Ka); have hB3 := (hB3.ext exq).of_heap (K1 _ Ka); have hO1 := (hO1.ext E5).wrote K1 Ka; have hQ1 := (hQ1.toB.ext E5).wrote K1 Ka; refine Gk<|Gq<|Zf Kq Kl rfl<|Vm Kn hB2 rfl<|Zs rfl<|Zx rfl (fun h3 => ?_) (fun h3 => ?_); contradiction; refine Zf Kq Kl rfl<|Vm Kn hB2 rfl<|Zs rfl<|Ve rfl<|Zg rfl<|Gk<|Gp<|Gq<|Vx rfl<|Vn rfl<|Xr rfl (fun h4 => ?_) (fun h4 => ?_); refine Zf Kq Ky rfl<|Xp Jd hB2 rfl<|Wo rfl (Xu rfl rfl)<|Yc rfl<|Xr rfl (fun h5 => ?_) (fun h5 => ?_); contradiction; refine Zf Kq Kl rfl ?_
            refine Vm Kn hB2 rfl<|Xz rfl<|Xr rfl (fun h6 => ?_) (fun h6 => ?_); refine Zf Kq Kl rfl<|Vm Kn hB2 rfl<|Xz rfl<|Yc rfl<|Ve rfl<|Gk<|Vi rfl (fun h7 => ?_) (fun h7 => ?_); contradiction; refine Gx<|Gp<|Gq<|Zf Kq Kl rfl<|Vm Kn hB2 rfl<|Zs rfl<|Gk<|Gl rfl (fun h8 => ?_) (fun h8 => ?_); refine Gp<|Gq<|Zf Kr Kv rfl<|Vh q1 Jc hB4 rfl<|Ze Ja rfl (OwnedB.read hQ1)<|Zs rfl<|Gk<|Gl rfl (fun h9 => ?_) (fun h9 => ?_); refine Gq<|Vs Ks Ko hB4 rfl<|Yo Ko hB3 rfl E6 ?_; rintro w7 E11 hB3 K2 hz2
            have hO1 := hO1.wrote K2 Ka; have hQ1 := hQ1.wrote K2 Ka; refine Zg rfl<|Gk<|Zi ?_; rotate_left; (exfalso; omega); contradiction; contradiction; contradiction
          exact ⟨b3, u3, q1, rfl, hB3, u3, q1, m1, rfl, by exact E11, hO1.wide Ka (Nat.le_refl _), hQ1.o, Ka, Ka⟩
        · have hpl0 : 0 < pp.length := List.length_pos_iff.2 hpl
          have hdo : doV ⟨p, pp⟩ ⟨4, [], 0⟩ = (⟨pp.getLastD [], pp.dropLast⟩, true) := by unfold doV; rw [if_pos ⟨rfl, hpl⟩]
          rw [hdo]
          simp only
          have stop8 : True := trivial
          focus
            refine Gq<|Vg rfl rfl rfl ?_; rintro b1 w1 hb1 E1 hB1; have hlb1 := hB1.lt; refine Vg rfl rfl rfl ?_; rintro b2 w2 hb3 E2 hB2; have hlb2 := hB2.lt; refine Zn rfl Vd ?_; rintro b3 w3 hb4 E3 hB3; have hlb3 := hB3.lt; refine Zg rfl<|Gk<|Gq<|Vs Ks Ko (hB1.ext exq) rfl<|Gs rfl (Vl (a := .agg _) Ga rfl) (k1 _ ((Mono.mono exq h1)) ((Mono.mono exq h2))) ?_; rintro _ w4 ⟨u3, q1, m1, rfl, E4, hO1, hQ1, hm1, hn1⟩; have icu3 := OwnedB.isC hO1; have icq1 := OwnedB.isC (Owned.toB hQ1); have cpq1 := OwnedB.capOk (Owned.toB hQ1); have hs4 := E4.size; refine Zn rfl Vd ?_; rintro b4 w5 hb5 E5 hB4; have hlb4 := hB4.lt; refine Yp rfl Ko rfl rfl Ke Ke hB4 Ka ((((E1.trans E2).trans E3).trans E4).trans E5) ?_; rintro w6 E6 hB4 K1 hz1
            have E7 := (((E2.trans E3).trans E4).trans E5).wroteAt exq E6 K1 hz1 Ka; have E8 := ((E3.trans E4).trans E5).wroteAt exq E6 K1 hz1 Ka; have E9 := (E4.trans E5).wroteAt exq E6 K1 hz1 Ka; have szE9 := E9.size; have E10 := E5.wroteAt exq E6 K1 hz1 Ka; have szE10 := E10.size; have hB1 := (hB1.ext exq).of_heap (K1 _ Ka); have hB2 := (hB2.ext exq).of_heap (K1 _ Ka); have hB3 := (hB3.ext exq).of_heap (K1 _ Ka); have hO1 := (hO1.ext E5).wrote K1 Ka; have hQ1 := (hQ1.toB.ext E5).wrote K1 Ka; refine Gk<|Gq<|Zf Kq Kl rfl<|Vm Kn hB2 rfl<|Zs rfl<|Zx rfl (fun h3 => ?_) (fun h3 => ?_); contradiction; refine Zf Kq Kl rfl<|Vm Kn hB2 rfl<|Zs rfl<|Ve rfl<|Zg rfl<|Gk ?_
            refine Gp<|Gq<|Vx rfl<|Vn rfl<|Xr rfl (fun h4 => ?_) (fun h4 => ?_); refine Zf Kq Ky rfl<|Xp Jd hB2 rfl<|Wo rfl (Xu rfl rfl)<|Yc rfl<|Xr rfl (fun h5 => ?_) (fun h5 => ?_); contradiction; refine Zf Kq Kl rfl<|Vm Kn hB2 rfl<|Xz rfl<|Xr rfl (fun h6 => ?_) (fun h6 => ?_); refine Zf Kq Kl rfl<|Vm Kn hB2 rfl<|Xz rfl<|Yc rfl<|Ve rfl<|Gk<|Vi rfl (fun h7 => ?_) (fun h7 => ?_); contradiction; refine Gx<|Gp<|Gq<|Zf Kq Kl rfl<|Vm Kn hB2 rfl<|Zs rfl<|Gk<|Gl rfl (fun h8 => ?_) (fun h8 => ?_); refine Gp<|Gq<|Zf Kr Kv rfl ?_
            refine Vh q1 Jc hB4 rfl<|Ze Ja rfl (OwnedB.read hQ1)<|Zs rfl<|Gk<|Gl rfl (fun h9 => ?_) (fun h9 => ?_); (exfalso; omega); refine Gx<|Gp ?_; rotate_left; contradiction; contradiction; contradiction
          clear stop8 k1
          obtain ⟨qb, qc, ur, rfl, hqc, hcl, icr, hqb, hqb2, hDk⟩ := hQ1.backDk hpl0 Ka
          have hel := hDk.dkNow
          have hpa := hDk.dkPast
          have hcl : w6.cell? ⟨qb, 0 + ((pp.length : Int) - 1).toNat, none⟩ = some ur := by rw [Nat.zero_add, show ((pp.length : Int) - 1).toNat = pp.length - 1 by omega]; exact hcl
          have hlast : pp.getLastD [] = pp[pp.length - 1] := by rw [List.getLastD_eq_getLast?, List.getLast?_eq_getElem?, List.getElem?_eq_getElem Ka]; rfl
          rw [hlast, List.dropLast_eq_take]
          have hbl := hd.2.2 _ (List.getElem_mem (show pp.length - 1 < pp.length by omega))
          have k2 : ∀ (w : World), OwnedB m1 w4.heap.size (XRd (ESl Ints)) w ur pp[pp.length - 1] → OwnedB m1 w4.heap.size (XRd (ESl (ESl Ints))) w (.slice (some ⟨qb, 0, none⟩) (pp.length - 1) qc) (pp.take (pp.length - 1)) → Does Tryz.prog 77 [.agg #[ur, .slice (some ⟨qb, 0, none⟩) ((pp.length : Int) - 1).toNat qc]] w (RetDk w 23 88 3 pp[pp.length - 1] (pp.take (pp.length - 1))) := fun w h1 h2 => by
            rw [show ((pp.length : Int) - 1).toNat = pp.length - 1 by omega]
            exact Qq w _ _ _ _ h1.read h2.read (bnd _ hbl.1) (by simp; omega) (fun q hq => hb2 q (List.mem_of_mem_take hq))
          clear hDk hQ1 hO1
          focus
            have szE6 := E6.size; refine Zj<|Zf Kr Kv rfl<|Xo Jc hB4 rfl<|Zf Kr Kv rfl<|Xo Jc hB4 rfl<|Ze Ja rfl (Owned.read hQ1)<|Uu rfl<|Wo rfl (Yk Ja Ku rfl rfl Ka) ?_; refine Wo rfl (Zw Kw rfl Kd) ?_; refine Zf Kr Ku rfl<|Ye (v := ur) rfl Ku rfl rfl Kd hB4 (by first | decide | simp) Ka E6 ?_; rintro w7 E11 hB4 K2 hz2; have E12 := E7.wroteAt E6 E11 K2 hz2 Ka; have E13 := E8.wroteAt E6 E11 K2 hz2 Ka; simp only [List.set] at hB4; have hB3 := hB3.of_heap (K2 _ Ka); have hQ1 := (hQ1.toB.ext E10).wrote K2 Ka; have hel := hel.wrote K2 Ka; have hpa := hpa.wrote K2 Ka; refine Gk ?_
            refine Gq<|Zf Kr Kv rfl<|Xo Jc hB4 rfl<|Zf Kr Kv rfl<|Xo Jc hB4 rfl<|Ze Ja rfl (OwnedB.read hQ1)<|Uu rfl<|Wo rfl (Xt Ja Ku rfl rfl Ka) ?_; refine Zf Kr Kv rfl<|Ye (v := .slice _ _ _) rfl Kv rfl rfl rfl hB4 Ki Ka E11 ?_; rintro w8 E16 hB4 K3 hz3; simp only [List.set] at hB4; have hB3 := hB3.of_heap (K3 _ Ka); have hel := hel.wrote K3 Ka; have hpa := hpa.wrote K3 Ka; refine Gk<|Gq<|Vs Ks Ko hB4 rfl<|Gs rfl (Vl (a := .agg _) Ga rfl) (k2 _ (hel) (hpa)) ?_; rintro _ w9 ⟨u4, q1, m2, rfl, E21, hO2, hQ2, hm2, hn2⟩; have icu4 := OwnedB.isC hO2
            have icq1 := OwnedB.isC (Owned.toB hQ2); refine Yo Ko (hB3.ext E21) rfl (E16.trans E21) ?_; rintro w10 E22 hB3 K4 hz4; have hO2 := hO2.wrote K4 Ka; have hQ2 := hQ2.toB.wrote K4 Ka; refine Zg rfl<|Gk<|Zi ?_
          exact ⟨b3, u4, q1, rfl, hB3, u4, q1, m2, rfl, by exact E22, hO2.wide Ka (Nat.le_refl _), hQ2.o, Ka, Ka⟩
      · have hnb : ¬ isBack ⟨p, pp⟩ ⟨k, t, n⟩ := fun h => h4 (by have := h.1; injection this)
        have kN : ∀ (w : World), EMx gMx w (.bool true) () → ESl Ints w u1 p → Does Tryz.prog 138 [u1, .agg #[.int .i64 k, str t, .int .i64 n]] w (RetOB w XR (og (madeV p ⟨k, t, n⟩)) (madeV p ⟨k, t, n⟩).isSome) := fun w hM h => nextSet_ok w hM u1 p h hpp k n t ht hA hB
        have stop2 : True := trivial
        focus
          refine Gq<|Vg rfl rfl rfl ?_; rintro b1 w1 hb1 E1 hB1; have hlb1 := hB1.lt; have hs1 := E1.size; refine Vg rfl rfl rfl ?_; rintro b2 w2 hb3 E2 hB2; have hlb2 := hB2.lt; have hs2 := E2.size; refine Zn rfl Vd ?_; rintro b3 w3 hb4 E3 hB3; have hlb3 := hB3.lt; have hs3 := E3.size; refine Zg rfl<|Gk<|Gq<|Vs Ks Ko (hB1.ext exq) rfl<|Gs rfl (Vl (a := .agg _) Ga rfl) (k1 _ ((Mono.mono exq h1)) ((Mono.mono exq h2))) ?_; rintro _ w4 ⟨u3, q1, m1, rfl, E4, hO1, hQ1, hm1, hn1⟩; have icu3 := OwnedB.isC hO1; have cpu3 := OwnedB.capOk hO1; have icq1 := OwnedB.isC (Owned.toB hQ1); have cpq1 := OwnedB.capOk (Owned.toB hQ1); have hs4 := E4.size; refine Zn rfl Vd ?_; rintro b4 w5 hb5 E5 hB4
          have hlb4 := hB4.lt; have hs5 := E5.size; refine Yp rfl Ko rfl rfl Ke Ke hB4 Ka ((((E1.trans E2).trans E3).trans E4).trans E5) ?_; rintro w6 E6 hB4 K1 hz1; have E7 := (((E2.trans E3).trans E4).trans E5).wroteAt exq E6 K1 hz1 Ka; have szE7 := E7.size; have E8 := ((E3.trans E4).trans E5).wroteAt exq E6 K1 hz1 Ka; have szE8 := E8.size; have E9 := (E4.trans E5).wroteAt exq E6 K1 hz1 Ka; have szE9 := E9.size; have E10 := E5.wroteAt exq E6 K1 hz1 Ka; have szE10 := E10.size; have hB1 := (hB1.ext exq).of_heap (K1 _ Ka); have hB2 := (hB2.ext exq).of_heap (K1 _ Ka); have hB3 := (hB3.ext exq).of_heap (K1 _ Ka); have hO1 := (hO1.ext E5).wrote K1 Ka; have hQ1 := (hQ1.toB.ext E5).wrote K1 Ka; refine Gk<|Gp ?_
        clear stop2
        refine W_mid [7, 13, 14, 15, 16, 17, 18, 19, 20] (fun x : Bool => [(7, .bool x)]) (fun x w' => w' = w6 ∧ (x = true ↔ k = 1 ∨ k = 2)) ?_ ?_
        · focus
            refine Zj<|Zf Kq Kl rfl<|Vm Kn hB2 rfl<|Zs rfl<|Zx rfl (fun h3 => ?_) (fun h3 => ?_); refine Gn rfl<|Gn rfl<|Gn rfl<|Yc rfl<|Zg rfl<|Gk ?_; rotate_left; refine Zf Kq Kl rfl<|Vm Kn hB2 rfl<|Zs rfl<|Ve rfl<|Zg rfl<|Gk ?_; rotate_left
          all_goals exact ⟨_, ⟨rfl, trivial⟩, Kh, rfl, by simp_all⟩
        rintro x ρ6 w6' ⟨e6, hx⟩
        have e6 := e6.symm
        subst e6
        have stop3 : True := trivial
        focus
          have szE10 := E10.size; have szE9 := E9.size; have szE8 := E8.size; have szE7 := E7.size; have szE6 := E6.size; have szE5 := E5.size; have szE4 := E4.size; have szE3 := E3.size; have szE2 := E2.size; have szE1 := E1.size; refine Gp<|Gp ?_
        clear stop3
        refine W_mid [21, 22, 23, 24, 25, 26, 27, 28, 29, 30, 31, 32, 33, 34, 35, 36, 37] (fun _ : Unit => [(37, .bool false)]) (fun _ w' => w' = w6) ?_ ?_
        · focus
            refine Zj<|Vx rfl<|Vn rfl<|Vr rfl (Zq (v := .bool _) rfl) (fun h3 => ?_) (fun h3 => ?_); refine Zf Kq Ky rfl<|Xp Jd hB2 rfl<|Wo rfl (Xu rfl rfl)<|Yc rfl<|Xr rfl (fun h5 => ?_) (fun h5 => ?_); refine Gn rfl<|Gn rfl<|Gn rfl<|Gn rfl<|Gn rfl<|Gn rfl<|Gn rfl<|Gn rfl<|Yc rfl<|Gk ?_; rotate_left; refine Zf Kq Kl rfl<|Vm Kn hB2 rfl<|Xz rfl<|Xr rfl (fun h6 => ?_) (fun h6 => ?_); refine Zf Kq Kl rfl<|Vm Kn hB2 rfl<|Xz rfl<|Yc rfl<|Ve rfl<|Gk ?_; rotate_left; refine Gn rfl<|Gn rfl<|Gn rfl<|Ve rfl<|Ve rfl<|Gk ?_
            rotate_left; refine Gn rfl<|Gn rfl<|Gn rfl<|Ve rfl<|Vx rfl<|Zf Kq Kl rfl<|Vm Kn hB2 rfl<|Xz rfl<|Xr rfl (fun h5 => ?_) (fun h5 => ?_); refine Zf Kq Kl rfl<|Vm Kn hB2 rfl<|Xz rfl<|Yc rfl<|Ve rfl<|Gk ?_; rotate_left; refine Gn rfl<|Gn rfl<|Gn rfl<|Ve rfl<|Ve rfl<|Gk ?_; rotate_left
          all_goals first
            | exact ⟨(), ⟨rfl, trivial⟩, Kh, rfl⟩
            | exact ⟨(), ⟨congrArg Value.bool (by simpa using (hB.resolve_left Kd)), trivial⟩, Kh, rfl⟩
            | (exfalso; simp_all)
        rintro ⟨⟩ ρ7 w7 e7
        have e7 := e7.symm
        subst e7
        have stop11 : True := trivial
        focus
          have szE10 := E10.size; have szE9 := E9.size; have szE8 := E8.size; have szE7 := E7.size; have szE6 := E6.size; have szE5 := E5.size; have szE4 := E4.size; have szE3 := E3.size; have szE2 := E2.size; have szE1 := E1.size; refine Zb rfl ?_; refine Gx<|Gp<|Gq<|Zf Kq Kl rfl<|Vm Kn hB2 rfl<|Zs rfl<|Gk<|Gl rfl (fun h3 => ?_) (fun h3 => ?_); contradiction; refine Gx<|Gp ?_
        clear stop11
        cases hmv : madeV p ⟨k, t, n⟩ with
        | none =>
          rw [hmv, show og none = [] from rfl, show (none : Option (List (List Int))).isSome = false from rfl] at kN
          rw [doV_none hnb (by unfold nextV; rw [hmv])]
          focus
            refine Zj<|Zf Kr Ku rfl<|Vh u1 Kw hB1 rfl<|Qz Jg Kz hB2 rfl<|Gs rfl (Zv (a := u1) (b := .agg _) Tryz.call138 rfl rfl) (kN _ ((Mono.mono E6 hM)) ((Mono.mono E6 h1))) ?_; rintro _ w7 ⟨u4, rfl, E11, hO2⟩; have hs6 := E11.size; refine Xl rfl<|Xh u4 rfl<|Xe rfl<|Vj u4 rfl<|Zg rfl<|Gk<|Gp<|Gq<|Vx rfl<|Vn rfl<|Vr rfl (Zq (v := .bool _) rfl) (fun h5 => ?_) (fun h5 => ?_); refine Gn rfl<|Gn rfl<|Gn rfl<|Gn rfl<|Yc rfl<|Gk<|Vp rfl ?_; refine Gq<|Vs Ks Ko (hB4.ext E11) rfl<|Yo Ko (hB3.ext E11) rfl (E6.trans E11) ?_; rintro w8 E12 hB3 K2 hz2; have hO1 := (hO1.ext E11).wrote K2 Ka
            have hQ1 := (hQ1.ext E11).wrote K2 Ka; refine Zg rfl<|Gk<|Zi ?_; rotate_left; contradiction
          exact ⟨b3, u3, q1, rfl, hB3, u3, q1, m1, rfl, by exact E12, hO1.wide Ka (Nat.le_refl _), hQ1.o, Ka, Ka⟩
        | some c =>
          rw [hmv, show og (some c) = c from rfl, show (some c).isSome = true from rfl] at kN
          have hc : LeastP c := Rm hpp hmv
          have hcp := hc.1
          by_cases hcq : c = p
          · have kE : ∀ (w : World) (v u : Value), ESl Ints w v c → ESl Ints w u p → Does Tryz.prog 139 [v, u, .func (.func 140) [].toArray [].toArray] w (Ret w (.bool true)) := fun w v u h h' => by
              have := Sa w v u c p h h' Tryz.call140
              rwa [decide_eq_true hcq] at this
            have hnx : nextV p ⟨k, t, n⟩ = none := by unfold nextV; rw [hmv]; simp [hcq]
            rw [doV_none hnb hnx]
            focus
              refine Zj<|Zf Kr Ku rfl<|Vh u1 Kw hB1 rfl<|Qz Jg Kz hB2 rfl<|Gs rfl (Zv (a := u1) (b := .agg _) Tryz.call138 rfl rfl) (kN _ ((Mono.mono E6 hM)) ((Mono.mono E6 h1))) ?_; rintro _ w7 ⟨u4, rfl, E11, hO2⟩; have hs6 := E11.size; refine Xl rfl<|Xh u4 rfl<|Xe rfl<|Vj u4 rfl<|Zg rfl<|Gk<|Gp<|Gq<|Vx rfl<|Vn rfl<|Vr rfl (Zq (v := .bool _) rfl) (fun h5 => ?_) (fun h5 => ?_); contradiction; refine Gz u4 rfl<|Zf Kr Ku rfl<|Vh u1 Kw (hB1.ext E11) rfl<|Gs rfl (opc3 (a := u4) (b := u1) (c := .func _ _ _) Tryz.call139 rfl rfl rfl) (kE _ _ _ ((Owned.read hO2)) ((Mono.mono exq h1))) ?_; rintro _ w8 ⟨rfl, E12⟩; have hs7 := E12.size
              refine Ve rfl<|Gk<|Vp rfl ?_; refine Gq<|Vs Ks Ko (hB4.ext exq) rfl<|Yo Ko (hB3.ext (E11.trans E12)) rfl ((E6.trans E11).trans E12) ?_; rintro w9 E13 hB3 K2 hz2; have hO1 := (hO1.ext exq).wrote K2 Ka; have hQ1 := (hQ1.ext exq).wrote K2 Ka; refine Zg rfl<|Gk<|Zi ?_
            exact ⟨b3, u3, q1, rfl, hB3, u3, q1, m1, rfl, by exact E13, hO1.wide Ka (Nat.le_refl _), hQ1.o, Ka, Ka⟩
          · have kE : ∀ (w : World) (v u : Value), ESl Ints w v c → ESl Ints w u p → Does Tryz.prog 139 [v, u, .func (.func 140) [].toArray [].toArray] w (Ret w (.bool false)) := fun w v u h h' => by
              have := Sa w v u c p h h' Tryz.call140
              rwa [decide_eq_false hcq] at this
            have hnx : nextV p ⟨k, t, n⟩ = some c := by unfold nextV; rw [hmv]; simp [hcq]
            have hdo : doV ⟨p, pp⟩ ⟨k, t, n⟩ = (⟨c, last8 (pp ++ [p])⟩, true) := by unfold doV; rw [if_neg hnb]; simp only; rw [hnx]
            rw [hdo]
            simp only
            have stop15 : True := trivial
            have hQ0 := hQ1
            focus
              refine Zj<|Zf Kr Ku rfl<|Vh u1 Kw hB1 rfl<|Qz Jg Kz hB2 rfl<|Gs rfl (Zv (a := u1) (b := .agg _) Tryz.call138 rfl rfl) (kN _ ((Mono.mono E6 hM)) ((Mono.mono E6 h1))) ?_; rintro _ w7 ⟨u4, rfl, E11, hO2⟩; have ichO2 := OwnedB.isC (Owned.toB hO2); have hs6 := E11.size; refine Xl rfl<|Xh u4 rfl<|Xe rfl<|Vj u4 rfl<|Zg rfl<|Gk<|Gp<|Gq<|Vx rfl<|Vn rfl<|Vr rfl (Zq (v := .bool _) rfl) (fun h5 => ?_) (fun h5 => ?_); contradiction; refine Gz u4 rfl<|Zf Kr Ku rfl<|Vh u1 Kw (hB1.ext E11) rfl<|Gs rfl (opc3 (a := u4) (b := u1) (c := .func _ _ _) Tryz.call139 rfl rfl rfl) (kE _ _ _ ((Owned.read hO2)) ((Mono.mono exq h1))) ?_; rintro _ w8 ⟨rfl, E12⟩; have hs7 := E12.size
              refine Ve rfl<|Gk<|Zb rfl ?_; refine Gx<|Gq<|Zf Kr Kv rfl<|Vh q1 Jc (hB4.ext exq) rfl<|Zf Kr Ku rfl<|Vh u3 Kw (hB4.ext exq) rfl<|Yd rfl Ja Ku Jp rfl (OwnedB.isC (hO1.ext exq)) rfl ?_; rintro b5 w9 hb6 E13 hB5 hHb5; have hlb5 := hB5.lt; have hs8 := E13.size; refine Wo_app1r rfl el24 rfl rfl hB5 (hQ0.ext ((E11.trans E12).trans E13)) (hO1.ext ((E11.trans E12).trans E13)) Kf Ka Ka (((E6.trans E11).trans E12).trans E13) Ka ?_; have hT1 := (hQ0.ext ((E11.trans E12).trans E13)); rintro v1 w10 hQ0 E14 M1; have E17 := M1.ext hT1 (((E9.trans E11).trans E12).trans E13) Ka; have szE17 := E17.size
              have hB3 := (hB3.ext exq).moves M1 hT1 Ka; have hO2 := (hO2.toB.ext exq).moves M1 hT1 Ka; have szM1 := M1.1.size; have icv1 := OwnedB.isC (Owned.toB hQ0); refine Vj v1 rfl<|Gk<|Gp<|Gp ?_
            clear stop15
            obtain ⟨nb, nc, rfl, hnc⟩ := hQ0.lit Ki
            have hnl : (pp ++ [p]).length = pp.length + 1 := Ki
            rw [hnl] at hQ0 hnc ⊢
            have hR : ESl (ESl Ints) w10 (.slice (some ⟨nb, 0, none⟩) (pp.length + 1) nc) (pp ++ [p]) := hQ0.read
            have hbn : ∀ q ∈ pp ++ [p], q.length ≤ 100 ∧ ∀ r ∈ q, r.length ≤ 100 := fun q hq => by
              rcases List.mem_append.1 hq with hq | hq
              · exact hb2 q hq
              · rw [List.mem_singleton.1 hq]; exact bnd p hpp
            clear hQ0 hQ1 kN kE k1 M1 hT1 icv1
            by_cases hl8 : pp.length + 1 ≤ 8
            · have kC : ∀ (w : World), ESl Ints w u4 c → ESl (ESl Ints) w (.slice (some ⟨nb, 0, none⟩) (pp.length + 1) nc) (pp ++ [p]) → Does Tryz.prog 77 [.agg #[u4, .slice (some ⟨nb, 0, none⟩) (pp.length + 1) nc]] w (RetDk w 23 88 3 c (last8 (pp ++ [p]))) := fun w h1 h2 => by
                rw [show last8 (pp ++ [p]) = pp ++ [p] from if_neg Ka]
                exact Qq w _ _ _ _ h1 h2 (bnd c hcp) Ka hbn
              focus
                have szE14 := E14.size; refine Zj<|Yw rfl<|Ze Ja rfl hR<|Yi rfl<|Gk<|Gl rfl (fun h6 => ?_) (fun h6 => ?_); (exfalso; omega); refine Gx<|Gq<|Gz u4 rfl<|Yw rfl<|Wo rfl (opv_build2 Vd rfl (by first | assumption | rfl) (by first | assumption | rfl)) ?_; refine Gs rfl (Vl (a := .agg _) Ga rfl) (kC _ ((OwnedB.read hO2)) (hR)) ?_; rintro _ w11 ⟨u5, q2, m2, rfl, E18, hO3, hQ2, hm2, hn2⟩; have icu5 := OwnedB.isC hO3; have icq2 := OwnedB.isC (Owned.toB hQ2); refine Yo Ko (hB3.ext E18) rfl (E14.trans E18) ?_; rintro w12 E19 hB3 K2 hz2; have hO3 := hO3.wrote K2 Ka; have hQ2 := hQ2.toB.wrote K2 Ka; refine Zg rfl<|Gk<|Zi ?_
              exact ⟨b3, _, _, rfl, hB3, _, _, m2, rfl, by exact E19, hO3.wide Ka (Nat.le_refl _), hQ2.o, Ka, Ka⟩
            · have kC : ∀ (w : World), ESl Ints w u4 c → ESl (ESl Ints) w (.slice (some ⟨nb, 0, none⟩) (pp.length + 1) nc) (pp ++ [p]) → Does Tryz.prog 77 [.agg #[u4, .slice (some ⟨nb, 0 + (1 : Int).toNat, none⟩) (pp.length + 1 - (1 : Int).toNat) (nc - (1 : Int).toNat)]] w (RetDk w 23 88 3 c (last8 (pp ++ [p]))) := fun w h1 h2 => by
                rw [show last8 (pp ++ [p]) = (pp ++ [p]).drop 1 from if_pos Ka]
                exact Qq w _ _ _ _ h1 (h2.dropS (k := 1) Ka) (bnd c hcp) (by simp; omega) (fun q hq => hbn q (List.mem_of_mem_drop hq))
              focus
                have szE14 := E14.size; refine Zj<|Yw rfl<|Ze Ja rfl hR<|Yi rfl<|Gk<|Gl rfl (fun h6 => ?_) (fun h6 => ?_); refine Zj<|Yw rfl<|Wo rfl (Xi Ja Ku rfl rfl Ka) ?_; refine Vk rfl<|Gk<|Gq<|Gz u4 rfl<|Yw rfl<|Wo rfl (opv_build2 Vd rfl (by first | assumption | rfl) (by first | assumption | rfl)) ?_; refine Gs rfl (Vl (a := .agg _) Ga rfl) (kC _ ((OwnedB.read hO2)) (hR)) ?_; rintro _ w11 ⟨u5, q2, m2, rfl, E18, hO3, hQ2, hm2, hn2⟩; have icu5 := OwnedB.isC hO3; have icq2 := OwnedB.isC (Owned.toB hQ2); refine Yo Ko (hB3.ext E18) rfl (E14.trans E18) ?_; rintro w12 E19 hB3 K2 hz2; have hO3 := hO3.wrote K2 Ka; have hQ2 := hQ2.toB.wrote K2 Ka; refine Zg rfl<|Gk<|Zi ?_; rotate_left; (exfalso; omega)
              exact ⟨b3, _, _, rfl, hB3, _, _, m2, rfl, by exact E19, hO3.wide Ka (Nat.le_refl _), hQ2.o, Ka, Ka⟩
    · have hdo : doV ⟨p, pp⟩ ⟨k, t, n⟩ = (⟨p, pp⟩, false) := doV_none (fun h => hB (.inr (by have := h.1; injection this))) (by unfold nextV; rw [madeV_n hB])
      have hk3 : ¬ k = 3 := fun h => hB (.inl h)
      have hn0 : ¬ n = 0 := fun h => hB (.inr h)
      rw [hdo]
      focus
        refine Gq<|Vg rfl rfl rfl ?_; rintro b1 w1 hb1 E1 hB1; have hlb1 := hB1.lt; refine Vg rfl rfl rfl ?_; rintro b2 w2 hb3 E2 hB2; have hlb2 := hB2.lt; refine Zn rfl Vd ?_; rintro b3 w3 hb4 E3 hB3; have hlb3 := hB3.lt; have hs3 := E3.size; refine Zg rfl<|Gk<|Gq<|Vs Ks Ko (hB1.ext exq) rfl<|Gs rfl (Vl (a := .agg _) Ga rfl) (k1 _ ((Mono.mono exq h1)) ((Mono.mono exq h2))) ?_; rintro _ w4 ⟨u3, q1, m1, rfl, E4, hO1, hQ1, hm1, hn1⟩; have icu3 := OwnedB.isC hO1; have icq1 := OwnedB.isC (Owned.toB hQ1); have hs4 := E4.size; refine Zn rfl Vd ?_; rintro b4 w5 hb5 E5 hB4; have hlb4 := hB4.lt; refine Yp rfl Ko rfl rfl Ke Ke hB4 Ka ((((E1.trans E2).trans E3).trans E4).trans E5) ?_; rintro w6 E6 hB4 K1 hz1
        have hB2 := (hB2.ext exq).of_heap (K1 _ Ka); have hB3 := (hB3.ext exq).of_heap (K1 _ Ka); have hO1 := (hO1.ext E5).wrote K1 Ka; have hQ1 := (hQ1.toB.ext E5).wrote K1 Ka; refine Gk<|Gq<|Zf Kq Kl rfl<|Vm Kn hB2 rfl<|Zs rfl<|Zx rfl (fun h3 => ?_) (fun h3 => ?_); refine Gn rfl<|Gn rfl<|Gn rfl<|Yc rfl<|Zg rfl<|Gk<|Gp<|Gq<|Vx rfl<|Vn rfl<|Vr rfl (Zq (v := .bool _) rfl) (fun h4 => ?_) (fun h4 => ?_); contradiction; refine Gn rfl<|Gn rfl<|Gn rfl<|Ve rfl<|Vx rfl<|Zf Kq Kl rfl<|Vm Kn hB2 rfl<|Xz rfl<|Xr rfl (fun h5 => ?_) (fun h5 => ?_); refine Zf Kq Kl rfl ?_
        refine Vm Kn hB2 rfl<|Xz rfl<|Yc rfl<|Ve rfl<|Gk<|Vi rfl (fun h6 => ?_) (fun h6 => ?_); refine Gq<|Vs Ks Ko hB4 rfl<|Yo Ko hB3 rfl E6 ?_; rintro w7 E11 hB3 K2 hz2; have hO1 := hO1.wrote K2 Ka; have hQ1 := hQ1.wrote K2 Ka; refine Zg rfl<|Gk<|Zi ?_; rotate_left; contradiction; contradiction; refine Zf Kq Kl rfl<|Vm Kn hB2 rfl<|Zs rfl<|Ve rfl<|Zg rfl<|Gk<|Gp<|Gq<|Vx rfl<|Vn rfl<|Xr rfl (fun h4 => ?_) (fun h4 => ?_); refine Zf Kq Ky rfl<|Xp Jd hB2 rfl<|Wo rfl (Xu rfl rfl)<|Yc rfl ?_
        refine Xr rfl (fun h5 => ?_) (fun h5 => ?_); refine Gn rfl<|Gn rfl<|Gn rfl<|Gn rfl<|Gn rfl<|Gn rfl<|Gn rfl<|Gn rfl<|Yc rfl<|Gk<|Vp rfl ?_; refine Gq<|Vs Ks Ko hB4 rfl<|Yo Ko hB3 rfl E6 ?_; rintro w7 E11 hB3 K2 hz2; have hO1 := hO1.wrote K2 Ka; have hQ1 := hQ1.wrote K2 Ka; refine Zg rfl<|Gk<|Zi ?_; rotate_left; refine Zf Kq Kl rfl<|Vm Kn hB2 rfl<|Xz rfl<|Xr rfl (fun h6 => ?_) (fun h6 => ?_); refine Zf Kq Kl rfl<|Vm Kn hB2 rfl<|Xz rfl<|Yc rfl<|Ve rfl<|Gk<|Vi rfl (fun h7 => ?_) (fun h7 => ?_); refine Gq<|Vs Ks Ko hB4 rfl ?_
        refine Yo Ko hB3 rfl E6 ?_; rintro w7 E11 hB3 K2 hz2; have hO1 := hO1.wrote K2 Ka; have hQ1 := hQ1.wrote K2 Ka; refine Zg rfl<|Gk<|Zi ?_; rotate_left; contradiction; contradiction; refine Gn rfl<|Gn rfl<|Gn rfl<|Ve rfl<|Vx rfl<|Zf Kq Kl rfl<|Vm Kn hB2 rfl<|Xz rfl<|Xr rfl (fun h5 => ?_) (fun h5 => ?_); refine Zf Kq Kl rfl<|Vm Kn hB2 rfl<|Xz rfl<|Yc rfl<|Ve rfl<|Gk<|Vi rfl (fun h6 => ?_) (fun h6 => ?_); refine Gq<|Vs Ks Ko hB4 rfl<|Yo Ko hB3 rfl E6 ?_; rintro w7 E11 hB3 K2 hz2; have hO1 := hO1.wrote K2 Ka; have hQ1 := hQ1.wrote K2 Ka; refine Zg rfl<|Gk<|Zi ?_; rotate_left; contradiction; contradiction
      all_goals exact ⟨b3, u3, q1, rfl, hB3, u3, q1, m1, rfl, Kd, hO1.wide Ka (Nat.le_refl _), hQ1.o, Ka, Ka⟩
  · have hdo : doV ⟨p, pp⟩ ⟨k, t, n⟩ = (⟨p, pp⟩, false) := doV_none (fun h => hA (.inr (.inr (by have := h.1; injection this)))) (by unfold nextV; rw [madeV_t hA])
    have hA1 : ¬ k = 1 := fun h => hA (.inl h)
    have hA2 : ¬ k = 2 := fun h => hA (.inr (.inl h))
    have hA3 : ¬ t = [] := fun h => hA (.inr (.inr h))
    rw [hdo]
    focus
      refine Gq<|Vg rfl rfl rfl ?_; rintro b1 w1 hb1 E1 hB1; have hlb1 := hB1.lt; refine Vg rfl rfl rfl ?_; rintro b2 w2 hb3 E2 hB2; have hlb2 := hB2.lt; refine Zn rfl Vd ?_; rintro b3 w3 hb4 E3 hB3; have hlb3 := hB3.lt; have hs3 := E3.size; refine Zg rfl<|Gk<|Gq<|Vs Ks Ko (hB1.ext exq) rfl<|Gs rfl (Vl (a := .agg _) Ga rfl) (k1 _ ((Mono.mono exq h1)) ((Mono.mono exq h2))) ?_; rintro _ w4 ⟨u3, q1, m1, rfl, E4, hO1, hQ1, hm1, hn1⟩; have icu3 := OwnedB.isC hO1; have icq1 := OwnedB.isC (Owned.toB hQ1); have hs4 := E4.size; refine Zn rfl Vd ?_; rintro b4 w5 hb5 E5 hB4; have hlb4 := hB4.lt; refine Yp rfl Ko rfl rfl Ke Ke hB4 Ka ((((E1.trans E2).trans E3).trans E4).trans E5) ?_; rintro w6 E6 hB4 K1 hz1
      have hB2 := (hB2.ext exq).of_heap (K1 _ Ka); have hB3 := (hB3.ext exq).of_heap (K1 _ Ka); have hO1 := (hO1.ext E5).wrote K1 Ka; have hQ1 := (hQ1.toB.ext E5).wrote K1 Ka; refine Gk<|Gq<|Zf Kq Kl rfl<|Vm Kn hB2 rfl<|Zs rfl<|Zx rfl (fun h3 => ?_) (fun h3 => ?_); contradiction; refine Zf Kq Kl rfl<|Vm Kn hB2 rfl<|Zs rfl<|Ve rfl<|Zg rfl<|Gk<|Gp<|Gq<|Vx rfl<|Vn rfl<|Xr rfl (fun h4 => ?_) (fun h4 => ?_); refine Zf Kq Ky rfl<|Xp Jd hB2 rfl<|Wo rfl (Xu rfl rfl)<|Yc rfl<|Xr rfl (fun h5 => ?_) (fun h5 => ?_); refine Gn rfl<|Gn rfl<|Gn rfl<|Gn rfl ?_
      refine Gn rfl<|Gn rfl<|Gn rfl<|Gn rfl<|Yc rfl<|Gk<|Vp rfl ?_; refine Gq<|Vs Ks Ko hB4 rfl<|Yo Ko hB3 rfl E6 ?_; rintro w7 E11 hB3 K2 hz2; have hO1 := hO1.wrote K2 Ka; have hQ1 := hQ1.wrote K2 Ka; refine Zg rfl<|Gk<|Zi ?_; rotate_left; contradiction; contradiction
    exact ⟨b3, u3, q1, rfl, hB3, u3, q1, m1, rfl, by exact E11, hO1.wide Ka (Nat.le_refl _), hQ1.o, Ka, Ka⟩
end Go.Proofs.YtbgpppaljpngmaaGreatDoor
namespace Go.Proofs.YtbgpppaljpngmaaGreatDoor
open Go.Hs
set_option maxRecDepth 10000
set_option maxHeartbeats 4000000
set_option linter.unusedVariables false
set_option linter.unusedSimpArgs false
theorem shift_row {n : Nat} {r : List Int} {o : Nat} (j : Nat) (hj : j < r.length) (hn : o + r.length ≤ n) : (List.replicate o 0 ++ r.take j ++ List.replicate (n - o - j) 0).set (o + j) r[j] = List.replicate o 0 ++ r.take (j + 1) ++ List.replicate (n - o - (j + 1)) 0 := by
  rw [List.append_assoc, List.set_append_right _ _ Ki, List.append_assoc]
  congr 1
  rw [List.length_replicate, Nat.add_sub_cancel_left, List.set_append_right _ _ (by simp; omega)]
  rw [show j - (r.take j).length = 0 by simp; omega, show n - o - j = (n - o - (j + 1)) + 1 by omega, List.replicate_succ, List.set_cons_zero, Vb _ _ hj, List.append_assoc]
  rfl
theorem l6Put_ok (w : World) (v u vl vr : Value) (p q : List (List Int)) (L R : List Nat) (h : ESl Ints w v p) (h' : ESl Ints w u q) (hL : Ints w vl (ints L)) (hR : Ints w vr (ints R)) (hp : Pic p) (hq : Pic q ∨ q = [])
    (hl : ∀ x ∈ L, x < p.length) (hr : ∀ x ∈ R, x < q.length) (hll : L.length ≤ 1000) (hrl : R.length ≤ 1000) :
    Does Tryz.prog 176 [v, u, vl, vr] w (RetO w XR (put (bes p q) (L ++ R.map (p.length + ·)))) := by
  have hp5 := hp.2.1
  have hq5 : q.length ≤ 5 := by rcases hq with hq | rfl; exact hq.2.1; simp
  have hqrow : ∀ (k : Nat) (hk : k < q.length), q[k].length = q.length := fun k hk => by
    rcases hq with hq | rfl
    · exact hq.row hk
    · cases hk
  have hil := Vw L
  have hir := Vw R
  obtain ⟨g, hg⟩ : ∃ g, g = p.length + q.length := ⟨_, rfl⟩
  refine Zr Tryz.func176 rfl Tryz.results176 Tryz.ntmps176 rfl ?_
  have keepR : True := trivial
  focus
    refine Gq<|Vk rfl<|Gk<|Gq<|Gz v rfl<|Ze Kp rfl h<|Zt rfl<|Gz u rfl<|Ze Kp rfl h'<|Zt rfl<|Zp rfl<|Gk<|Gq<|Gw rfl<|Rg rfl Xk (int_z Ka rfl) Ka ?_; rintro b1 w1 hb1 b1lt E1 hO1; refine Zm (ps := [(0, .slice _ _ _)]) (cs := [_]) rfl Kp Kt Ji rfl rfl rfl rfl ?_; rintro b2 w2 hb2 E2 hB1 hHb2; refine Vk rfl<|Gk<|Gp<|Gq<|Zp rfl<|Gk<|Gv ?_
  clear keepR
  obtain ⟨N, hN⟩ : ∃ N, N = (1 + (p.length : Int) + (q.length : Int)).toNat := ⟨_, rfl⟩
  have hNg : N = g + 1 := Ka
  rw [← hN] at hO1 hHb2
  have hO0 : Owned w.heap.size XR w2 (.slice (some ⟨b2, 0, none⟩) 1 1) [ro g []] := by
    rw [ro_nil, ← hNg]
    exact Owned.single (hO1.toB.ext E2) hHb2 Ka Ka
  clear hO1 hHb2 hB1
  have hrl0 : ∀ ms, (ro g ms).length = g + 1 := fun ms => ro_len
  refine Zy [11, 28, 29, 30, 31, 32, 33, 34, 35, 36, 37, 38, 39, 40, 41, 42] (fun ((k, rows) : Nat × List (List Int)) => [(11, .int .i64 (k : Nat))]) (fun (k, rows) w' => Ext w w' ∧ k ≤ L.length ∧ Owned w.heap.size XR w' (.slice (some ⟨b2, 0, none⟩) 1 1) rows ∧ rows = [ro g (L.take k)]) (fun x => L.length - x.1) (0, [ro g []]) Kg ?_ ?_
  · exact ⟨by exact (E1.trans E2), Nat.zero_le _, hO0, rfl⟩
  clear hO0
  rintro ⟨k, rows⟩ ρj w3 ⟨E3, hk, hO0, hrw⟩
  have hlr : rows.length = 1 := by rw [hrw]; rfl
  have hr0 : rows[0]'Ka = ro g (L.take k) := by simp only [hrw, List.getElem_cons_zero]
  have hr0l : (rows[0]'Ka).length = g + 1 := by rw [hr0]; exact hrl0 _
  obtain ⟨br, cr, hRw, hbr1, hbr2⟩ := hO0.rowAt (i := 0) Ka Ka
  by_cases hlt : k < L.length
  · have hgk : (ints L)[k]'Ka = (L[k] : Int) := Yz hlt
    have hLk := hl L[k] (List.getElem_mem hlt)
    have hcell := Rw hRw
    have heldS : w = w := rfl
    focus
      refine Gp<|Gq<|Gw rfl<|Gz vl rfl<|Ze Km rfl hL<|Zk rfl<|Gk<|Gl rfl (fun h1 => ?_) (fun h1 => ?_); refine Gx<|Gp<|Gv<|Un (fun w' => Ext w w') Yg rfl Kb ?_; intro w4 E4 K1 hz1; refine WtmS 0 rfl rfl exq<|Zh 1 rfl Kb Kb rfl (fun _ _ => Zo (k := 0) Kp Kt rfl rfl Ka) exq ?_; refine WtmV 3 vl rfl rfl exq<|WtmI 4 rfl rfl exq<|Wh_get 5 6 rfl Kb Kb rfl rfl Kb Kb (fun _ => rfl) Km Kl Kn rfl hL (fun w' hw' => Ext.trans (Ext.refl _) hw') rfl Kf exq ?_
      rintro _ _ rfl; refine Zh 7 rfl Kb Kb rfl (fun _ _ => Yb rfl rfl Ka) exq ?_; refine Wha [2]<|Gm rfl ?_ ?_; refine Wo rfl (Zw Kx rfl (E4.cell hcell))<|Gk ?_; refine ⟨exq, ?_⟩; refine Zh 8 rfl Kb Kb rfl (fun _ _ => Yk Km Kl rfl rfl Ka) exq ?_; refine Wha [9]<|Gm rfl ?_ ?_; refine Ur rfl Kl rfl rfl (hO0.toB.ext E4) (hRw.ext E4) Kf Kf ?_; rintro w5 hO0 hRw On1 K2 hz2; have E5 := On1.ext1 (E3.trans E4) Ka; refine Gk ?_; refine ⟨E5, ?_⟩; refine Va Kb ?_; refine Zj<|Gw rfl<|Zt rfl<|Zp rfl<|Gk ?_; rotate_left; exact Gt; exact Gt; (exfalso; omega)
    refine ⟨((k + 1, rows.set 0 (rows[0].set (1 + (ints L)[k]'Ka).toNat 1))), Kg, Kh, ?_, ?_⟩
    · refine ⟨by exact E5, Ka, by exact hO0, ?_⟩
      rw [row_next (Q := rows) (i := 0) (r := ro g (L.take k)) (r' := ro g (L.take (k + 1))) (by rw [hrw]; rfl) Ka ?_]
      · rw [hrw]; rfl
      · rw [hr0, show (1 + (ints L)[k]'Ka).toNat = L[k] + 1 by rw [hgk]; omega, ro_step Ka, ← Vb]
    · simp only; omega
  · obtain rfl : k = L.length := by omega
    rw [List.take_length] at hrw hr0
    clear hRw
    focus
      refine Gp<|Gq<|Gw rfl<|Gz vl rfl<|Ze Km rfl hL<|Zk rfl<|Gk<|Gl rfl (fun h1 => ?_) (fun h1 => ?_); (exfalso; omega); refine Zu ?_; refine Za ?_; refine Gp<|Gq<|Zp rfl<|Gk<|Gv ?_
    refine Zy [12, 43, 44, 45, 46, 47, 48, 49, 50, 51, 52, 53, 54, 55, 56, 57, 58, 59, 60] (fun ((k, rows) : Nat × List (List Int)) => [(12, .int .i64 (k : Nat))]) (fun (k, rows) w' => Ext w w' ∧ k ≤ R.length ∧ Owned w.heap.size XR w' (.slice (some ⟨b2, 0, none⟩) 1 1) rows ∧ rows = [ro g (L ++ (R.take k).map (p.length + ·))]) (fun x => R.length - x.1) (0, rows) Kg ?_ ?_
    · exact ⟨by exact E3, Nat.zero_le _, hO0, by rw [hrw]; simp⟩
    clear hO0 hr0 hr0l hlr hrw
    rintro ⟨k, rows⟩ ρk w4 ⟨E4, hk, hO0, hrw⟩
    have hlr : rows.length = 1 := by rw [hrw]; rfl
    have hr0 : rows[0]'Ka = ro g (L ++ (R.take k).map (p.length + ·)) := by simp only [hrw, List.getElem_cons_zero]
    have hr0l : (rows[0]'Ka).length = g + 1 := by rw [hr0]; exact hrl0 _
    obtain ⟨br, cr, hRw, hbr1, hbr2⟩ := hO0.rowAt (i := 0) Ka Ka
    by_cases hlt : k < R.length
    · have hgk : (ints R)[k]'Ka = (R[k] : Int) := Yz hlt
      have hRk := hr R[k] (List.getElem_mem hlt)
      have hcell := Rw hRw
      have heldS : w = w := rfl
      focus
        refine Gp<|Gq<|Gw rfl<|Gz vr rfl<|Ze Km rfl hR<|Zk rfl<|Gk<|Gl rfl (fun h2 => ?_) (fun h2 => ?_); refine Gx<|Gp<|Gv<|Un (fun w' => Ext w w') Yg rfl Kb ?_; intro w5 E5 K1 hz1; refine WtmS 0 rfl rfl exq<|Zh 1 rfl Kb Kb rfl (fun _ _ => Zo (k := 0) Kp Kt rfl rfl Ka) exq ?_; refine WtmV 3 v rfl rfl exq<|Zh 4 rfl Kb Kb rfl (fun _ _ => Xj Kp rfl h) exq ?_; refine Zh 5 rfl Kb Kb rfl (fun _ _ => Yb rfl rfl Ka) exq ?_; refine WtmV 6 vr rfl rfl exq<|WtmI 7 rfl rfl exq ?_
        refine Wh_get 8 9 rfl Kb Kb rfl rfl Kb Kb (fun _ => rfl) Km Kl Kn rfl hR (fun w' hw' => Ext.trans (Ext.refl _) hw') rfl Kf exq ?_; rintro _ _ rfl; refine Zh 10 rfl Kb Kb rfl (fun _ _ => Yb rfl rfl Ka) exq ?_; refine Wha [2]<|Gm rfl ?_ ?_; refine Wo rfl (Zw Kx rfl (E5.cell hcell))<|Gk ?_; refine ⟨exq, ?_⟩; refine Zh 11 rfl Kb Kb rfl (fun _ _ => Yk Km Kl rfl rfl Ka) exq ?_; refine Wha [12]<|Gm rfl ?_ ?_; refine Ur rfl Kl rfl rfl (hO0.toB.ext E5) (hRw.ext E5) Kf Kf ?_; rintro w6 hO0 hRw On1 K2 hz2
        have E6 := On1.ext1 (E4.trans E5) Ka; refine Gk ?_; refine ⟨E6, ?_⟩; refine Va Kb ?_; refine Zj<|Gw rfl<|Zt rfl<|Zp rfl<|Gk ?_; rotate_left; exact Gt; exact Gt; (exfalso; omega)
      refine ⟨((k + 1, rows.set 0 (rows[0].set (1 + (p.length : Int) + (ints R)[k]'Ka).toNat 1))), Kg, Kh, ?_, ?_⟩
      · refine ⟨by exact E6, Ka, by exact hO0, ?_⟩
        rw [row_next (Q := rows) (i := 0) (r := ro g (L ++ (R.take k).map (p.length + ·))) (r' := ro g (L ++ (R.take (k + 1)).map (p.length + ·))) (by rw [hrw]; rfl) Ka ?_]
        · rw [hrw]; rfl
        · rw [hr0, show (1 + (p.length : Int) + (ints R)[k]'Ka).toNat = (p.length + R[k]) + 1 by rw [hgk]; omega, ro_step Ka, Vb _ _ hlt, List.map_append, List.append_assoc]
          rfl
      · simp only; omega
    · obtain rfl : k = R.length := by omega
      rw [List.take_length] at hrw hr0
      obtain ⟨ms, hms⟩ : ∃ ms, ms = L ++ R.map (p.length + ·) := ⟨_, rfl⟩
      rw [← hms] at hrw hr0 ⊢
      clear hRw
      focus
        have szE4 := E4.size; have szE3 := E3.size; have szE2 := E2.size; have szE1 := E1.size; refine Gp<|Gq<|Gw rfl<|Gz vr rfl<|Ze Km rfl hR<|Zk rfl<|Gk<|Gl rfl (fun h2 => ?_) (fun h2 => ?_); (exfalso; omega); refine Zu ?_; refine Za ?_; refine Gp<|Gq<|Zp rfl<|Gk<|Gv ?_
      refine Zy [10, 13, 14, 15, 61, 62, 63, 64, 65, 66, 67, 68, 69, 70, 71, 72, 73, 74, 75, 76, 77, 78, 79, 80, 81, 82, 83, 84, 85, 86, 87, 88, 89] (fun ((k, o) : Nat × Value) => [(13, .int .i64 (k : Nat)), (10, o)]) (fun (k, o) w' => Ext w w' ∧ k ≤ p.length ∧ Owned w.heap.size XR w' o (ro g ms :: (p.take k).map fun r => List.replicate 1 0 ++ r ++ List.replicate q.length 0)) (fun x => p.length - x.1) (0, .slice (some ⟨b2, 0, none⟩) 1 1) Kg ?_ ?_
      · exact ⟨by exact E4, Nat.zero_le _, by rw [hrw] at hO0; exact hO0⟩
      clear hO0 hr0 hr0l hlr hrw
      rintro ⟨k, o⟩ ρl w5 ⟨E5, hk, hO0⟩
      have htl : (ro g ms :: (p.take k).map fun r => List.replicate 1 0 ++ r ++ List.replicate q.length 0).length = k + 1 := by simp; omega
      by_cases hlt : k < p.length
      · have hrow := hp.row hlt
        focus
          have szE5 := E5.size; refine Gp<|Gq<|Gw rfl<|Gz v rfl<|Ze Kp rfl h<|Zk rfl<|Gk<|Gl rfl (fun h3 => ?_) (fun h3 => ?_); refine Gx<|Gp<|Gv<|Gq<|Gw rfl<|Rg rfl Xk (int_z Ka rfl) Ka ?_; rintro b3 w6 hb3 b3lt E6 hO1; have hs3 := E6.size; refine Vk rfl<|Gk<|Gp<|Gq<|Zp rfl<|Gk<|Gv ?_; rotate_left; (exfalso; omega)
        have hrl3 : ∀ j, j ≤ p.length → (List.replicate 1 (0 : Int) ++ p[k].take j ++ List.replicate ((1 + (p.length : Int) + (q.length : Int)).toNat - 1 - j) 0).length = g + 1 := fun j hj => by simp; omega
        refine Zy [15, 69, 70, 71, 72, 73, 74, 75, 76, 77, 78, 79, 80, 81, 82, 83, 84, 85] (fun (j : Nat) => [(15, .int .i64 (j : Nat))]) (fun j w' => Ext w w' ∧ w5.heap.size ≤ w'.heap.size ∧ j ≤ p.length ∧ OwnedB w.heap.size w5.heap.size XR w' o (ro g ms :: (p.take k).map fun r => List.replicate 1 0 ++ r ++ List.replicate q.length 0) ∧ Owned w5.heap.size XI w' (.slice (some ⟨b3, 0, none⟩) (1 + (p.length : Int) + (q.length : Int)).toNat (1 + (p.length : Int) + (q.length : Int)).toNat) (List.replicate 1 0 ++ p[k].take j ++ List.replicate ((1 + (p.length : Int) + (q.length : Int)).toNat - 1 - j) 0)) (fun j => p.length - j) 0 Kg ?_ ?_
        · refine ⟨by exact (E5.trans E6), Ka, Nat.zero_le _, hO0.toB.ext (by exact E6), ?_⟩
          rw [show List.replicate 1 (0 : Int) ++ p[k].take 0 ++ List.replicate ((1 + (p.length : Int) + (q.length : Int)).toNat - 1 - 0) 0 = List.replicate (1 + (p.length : Int) + (q.length : Int)).toNat 0 by
            rw [List.take_zero, List.append_nil, List.replicate_append_replicate]; congr 1; omega]
          exact hO1
        clear hO0 hO1
        rintro j ρm w7 ⟨E7, hs7, hj, hO0, hO1⟩
        have hrj := hrl3 j hj
        by_cases hjl : j < p.length
        · focus
            refine Gp<|Gq<|Gw rfl<|Gz v rfl<|Ze Kp rfl h<|Zk rfl<|Gk<|Gl rfl (fun h4 => ?_) (fun h4 => ?_); refine Gx<|Gp<|Gv<|Zj<|Yw rfl<|Gw rfl<|Zt rfl<|Gz v rfl<|Gw rfl<|Vc Kp Kt Kx rfl (fun _ => rfl) rfl h E7 rfl Kf ?_; rintro _ u1 hu1; refine Gw rfl<|Vc Km Kl Kn rfl (fun _ => rfl) rfl hu1 E7 rfl Kf ?_; rintro _ _ rfl; refine Wo rfl (Yk Km Kl rfl rfl Ka) ?_; refine Wo_set rfl Kl rfl rfl hO1.toB Kf Owned.int (Nat.le_refl _) Ka ?_
            rintro w8 hO1 On1 K1 hz1; have E8 := On1.ext1 E7 Ka; have hO0 := hO0.wrote K1 Ka; refine Gk<|Zj<|Gw rfl<|Zt rfl<|Zp rfl<|Gk ?_; rotate_left; (exfalso; omega)
          refine ⟨(j + 1), Kg, Kh, ?_, ?_⟩
          · refine ⟨by exact E8, Ka, Ka, by exact hO0, ?_⟩
            rw [← shift_row j Ka Ka]
            have e : (1 + (j : Int)).toNat = 1 + j := Ka
            rw [← e]
            assumption
          · omega
        · obtain rfl : j = p.length := by omega
          focus
            have szE7 := E7.size; have szE5 := E5.size; refine Gp<|Gq<|Gw rfl<|Gz v rfl<|Ze Kp rfl h<|Zk rfl<|Gk<|Gl rfl (fun h4 => ?_) (fun h4 => ?_); (exfalso; omega); refine Zu ?_; refine Za ?_; refine Zj<|Gz o rfl<|Yw rfl<|Vt (ps := [(0, .slice _ _ _)]) (cs := [_]) rfl Kp Kt Ji rfl rfl rfl rfl ?_; rintro b4 w8 hb4 E8 hB1; have hs4 := E8.size; refine Vv rfl Xn rfl rfl hB1 (hO0.ext E8) (hO1.toB.ext E8).o Ka Kf Ka Ka (E7.trans E8) Ka ?_; rintro v1 w9 hO0 E9 M1; refine Vj v1 rfl<|Gk<|Zj<|Gw rfl<|Zt rfl<|Zp rfl<|Gk ?_
          refine ⟨((k + 1, v1)), Kg, Kh, ?_, ?_⟩
          · refine ⟨by exact E9, Ka, ?_⟩
            rw [Vb _ _ hlt, List.map_append, ← List.cons_append]
            have e : List.replicate 1 (0 : Int) ++ p[k].take p.length ++ List.replicate ((1 + (p.length : Int) + (q.length : Int)).toNat - 1 - p.length) 0 = List.replicate 1 0 ++ p[k] ++ List.replicate q.length 0 := by
              rw [List.take_of_length_le Ka]; congr 2; omega
            simp only [List.map_cons, List.map_nil]
            rw [← e]
            assumption
          · simp only; omega
      · obtain rfl : k = p.length := by omega
        rw [List.take_length] at hO0 htl
        focus
          refine Gp<|Gq<|Gw rfl<|Gz v rfl<|Ze Kp rfl h<|Zk rfl<|Gk<|Gl rfl (fun h3 => ?_) (fun h3 => ?_); (exfalso; omega); refine Zu ?_; refine Za ?_; refine Gp<|Gq<|Zp rfl<|Gk<|Gv ?_
        refine Zy [10, 16, 17, 18, 90, 91, 92, 93, 94, 95, 96, 97, 98, 99, 100, 101, 102, 103, 104, 105, 106, 107, 108, 109, 110, 111, 112, 113, 114, 115, 116, 117, 118, 119, 120, 121] (fun ((k, o) : Nat × Value) => [(16, .int .i64 (k : Nat)), (10, o)]) (fun (k, o) w' => Ext w w' ∧ k ≤ q.length ∧ Owned w.heap.size XR w' o ((ro g ms :: p.map fun r => List.replicate 1 0 ++ r ++ List.replicate q.length 0) ++ (q.take k).map fun r => List.replicate (1 + p.length) 0 ++ r)) (fun x => q.length - x.1) (0, o) Kg ?_ ?_
        · exact ⟨by exact E5, Nat.zero_le _, by simpa using hO0⟩
        clear hO0
        rintro ⟨k, o2⟩ ρm w6 ⟨E6, hk, hO0⟩
        have htl2 : ((ro g ms :: p.map fun r => List.replicate 1 0 ++ r ++ List.replicate q.length 0) ++ (q.take k).map fun r => List.replicate (1 + p.length) 0 ++ r).length = p.length + 1 + k := by rw [List.length_append, htl]; simp; omega
        by_cases hlt : k < q.length
        · have hrow := hqrow k hlt
          focus
            have szE6 := E6.size; refine Gp<|Gq<|Gw rfl<|Gz u rfl<|Ze Kp rfl h'<|Zk rfl<|Gk<|Gl rfl (fun h4 => ?_) (fun h4 => ?_); refine Gx<|Gp<|Gv<|Gq<|Gw rfl<|Rg rfl Xk (int_z Ka rfl) Ka ?_; rintro b3 w7 hb3 b3lt E7 hO1; have hs3 := E7.size; refine Vk rfl<|Gk<|Gp<|Gp<|Zj<|Zp rfl<|Gk<|Gv ?_; rotate_left; (exfalso; omega)
          have hrl3 : ∀ j, j ≤ q.length → (List.replicate (1 + p.length) (0 : Int) ++ q[k].take j ++ List.replicate ((1 + (p.length : Int) + (q.length : Int)).toNat - (1 + p.length) - j) 0).length = g + 1 := fun j hj => by simp; omega
          refine Zy [18, 98, 99, 100, 101, 102, 103, 104, 105, 106, 107, 108, 109, 110, 111, 112, 113, 114, 115, 116, 117] (fun (j : Nat) => [(18, .int .i64 (j : Nat))]) (fun j w' => Ext w w' ∧ w6.heap.size ≤ w'.heap.size ∧ j ≤ q.length ∧ OwnedB w.heap.size w6.heap.size XR w' o2 ((ro g ms :: p.map fun r => List.replicate 1 0 ++ r ++ List.replicate q.length 0) ++ (q.take k).map fun r => List.replicate (1 + p.length) 0 ++ r) ∧ Owned w6.heap.size XI w' (.slice (some ⟨b3, 0, none⟩) (1 + (p.length : Int) + (q.length : Int)).toNat (1 + (p.length : Int) + (q.length : Int)).toNat) (List.replicate (1 + p.length) 0 ++ q[k].take j ++ List.replicate ((1 + (p.length : Int) + (q.length : Int)).toNat - (1 + p.length) - j) 0)) (fun j => q.length - j) 0 Kg ?_ ?_
          · refine ⟨by exact (E6.trans E7), Ka, Nat.zero_le _, hO0.toB.ext (by exact E7), ?_⟩
            rw [show List.replicate (1 + p.length) (0 : Int) ++ q[k].take 0 ++ List.replicate ((1 + (p.length : Int) + (q.length : Int)).toNat - (1 + p.length) - 0) 0 = List.replicate (1 + (p.length : Int) + (q.length : Int)).toNat 0 by
              rw [List.take_zero, List.append_nil, List.replicate_append_replicate]; congr 1; omega]
            exact hO1
          clear hO0 hO1
          rintro j ρn w8 ⟨E8, hs8, hj, hO0, hO1⟩
          have hrj := hrl3 j hj
          by_cases hjl : j < q.length
          · focus
              refine Gp<|Gq<|Gw rfl<|Gz u rfl<|Ze Kp rfl h'<|Zk rfl<|Gk<|Gl rfl (fun h5 => ?_) (fun h5 => ?_); refine Gx<|Gp<|Gv<|Zj<|Yw rfl<|Gz v rfl<|Ze Kp rfl h<|Zt rfl<|Gw rfl<|Zt rfl<|Gz u rfl<|Gw rfl<|Vc Kp Kt Kx rfl (fun _ => rfl) rfl h' E8 rfl Kf ?_; rintro _ u1 hu1; refine Gw rfl<|Vc Km Kl Kn rfl (fun _ => rfl) rfl hu1 E8 rfl Kf ?_; rintro _ _ rfl; refine Wo rfl (Yk Km Kl rfl rfl Ka) ?_; refine Wo_set rfl Kl rfl rfl hO1.toB Kf Owned.int (Nat.le_refl _) Ka ?_
              rintro w9 hO1 On1 K1 hz1; have E9 := On1.ext1 E8 Ka; have hO0 := hO0.wrote K1 Ka; refine Gk<|Zj<|Gw rfl<|Zt rfl<|Zp rfl<|Gk ?_; rotate_left; (exfalso; omega)
            refine ⟨(j + 1), Kg, Kh, ?_, ?_⟩
            · refine ⟨by exact E9, Ka, Ka, by exact hO0, ?_⟩
              rw [← shift_row j Ka Ka]
              have e : (1 + (p.length : Int) + (j : Int)).toNat = 1 + p.length + j := Ka
              rw [← e]
              assumption
            · omega
          · obtain rfl : j = q.length := by omega
            focus
              have szE8 := E8.size; have szE6 := E6.size; refine Gp<|Gq<|Gw rfl<|Gz u rfl<|Ze Kp rfl h'<|Zk rfl<|Gk<|Gl rfl (fun h5 => ?_) (fun h5 => ?_); (exfalso; omega); refine Zu ?_; refine Za ?_; refine Zj<|Gz o2 rfl<|Yw rfl<|Vt (ps := [(0, .slice _ _ _)]) (cs := [_]) rfl Kp Kt Ji rfl rfl rfl rfl ?_; rintro b4 w9 hb4 E9 hB1; have hs4 := E9.size; refine Vv rfl Xn rfl rfl hB1 (hO0.ext E9) (hO1.toB.ext E9).o Ka Kf Ka Ka (E8.trans E9) Ka ?_; rintro v1 w10 hO0 E10 M1; refine Vj v1 rfl<|Gk<|Zj<|Gw rfl<|Zt rfl<|Zp rfl<|Gk ?_
            refine ⟨((k + 1, v1)), Kg, Kh, ?_, ?_⟩
            · refine ⟨by exact E10, Ka, ?_⟩
              rw [Vb _ _ hlt, List.map_append, ← List.append_assoc]
              have e : List.replicate (1 + p.length) (0 : Int) ++ q[k].take q.length ++ List.replicate ((1 + (p.length : Int) + (q.length : Int)).toNat - (1 + p.length) - q.length) 0 = List.replicate (1 + p.length) 0 ++ q[k] := by
                rw [List.take_of_length_le Ka, show (1 + (p.length : Int) + (q.length : Int)).toNat - (1 + p.length) - q.length = 0 by omega]; simp
              simp only [List.map_cons, List.map_nil]
              rw [← e]
              assumption
            · simp only; omega
        · obtain rfl : k = q.length := by omega
          focus
            refine Gp<|Gq<|Gw rfl<|Gz u rfl<|Ze Kp rfl h'<|Zk rfl<|Gk<|Gl rfl (fun h4 => ?_) (fun h4 => ?_); (exfalso; omega); refine Zu ?_; refine Za ?_; refine Gq<|Gz o2 rfl<|Vj o2 rfl<|Gk<|Zi ?_; refine ⟨E6, (congrArg (Owned _ _ _ _) ?_).mp (hO0.toB.o.mono Ka)⟩
          rw [List.take_length, put_eq, bes_len, ← hg]
          unfold bes
          rw [List.map_append, List.map_map, List.map_map]
          simp only [List.cons_append, List.cons.injEq, true_and]
          congr 1
          · refine List.map_congr_left fun r _ => ?_
            simp [Nat.add_comm 1, List.replicate_succ]
end Go.Proofs.YtbgpppaljpngmaaGreatDoor
namespace Go.Proofs.YtbgpppaljpngmaaGreatDoor
open Go.Hs
set_option maxRecDepth 10000
set_option maxHeartbeats 4000000
set_option linter.unusedVariables false
set_option linter.unusedSimpArgs false
theorem l6Least_ok (w : World) (v : Value) (p : List (List Int)) (h : ESl Ints w v p) (hp : Gr p) :
    Does Tryz.prog 175 [v] w (RetOB w XR (if (lst p 0).length ≤ 5 then lst p 0 else []) (decide ((lst p 0).length ≤ 5))) := by
  have hp5 := hp.2.1
  have hp1 := hp.1
  have hkl := Qg (p := p)
  have k1 : ∀ w, Does Tryz.prog 202 [.int .i64 (p.length : Int)] w (RetO w XR (matV p (bsm p 0))) := fun w => by
    have := l3Start_ok w p.length hp5
    rwa [matV_zero] at this
  have k2 : ∀ (n : Nat) (w : World) (v v' : Value), ESl Ints w v p → ESl Ints w v' (matV p (bsm p n)) → Does Tryz.prog 203 [v, v'] w (RetO w XR (matV p (bsm p (n + 1)))) := fun n w v v' h h' => l3Round_ok w v v' p h hp _ h'
  refine Ub Tryz.func175 rfl Tryz.results175 Tryz.ntmps175 rfl ?_
  focus
    refine Gq<|Vk rfl<|Zg rfl<|Gk<|Gq<|Gz v rfl<|Ze Kp rfl h<|Gs rfl (Vl (a := .int _ _) Tryz.call202 rfl) (k1 _) ?_; rintro u1 w1 ⟨E1, hO1⟩; refine Vj u1 rfl<|Gk<|Gp<|Gq<|Zp rfl<|Gk<|Gv ?_
  refine Zy [4, 5, 17, 18, 19, 20, 21, 22, 23, 24, 25] (fun ((n, u) : Nat × Value) => [(5, .int .i64 (n : Nat)), (4, u)]) (fun (n, u) w' => Ext w w' ∧ n ≤ p.length ∧ Owned w.heap.size XR w' u (matV p (bsm p n))) (fun x => p.length - x.1) (0, u1) Kg ?_ ?_
  · exact ⟨by exact E1, Nat.zero_le _, hO1⟩
  clear hO1
  rintro ⟨n, um⟩ ρj w2 ⟨E2, hn, hO1⟩
  have k2n := k2 n
  by_cases hnl : n < p.length
  · focus
      have szE2 := E2.size; refine Gp<|Gq<|Gw rfl<|Gz v rfl<|Ze Kp rfl h<|Zk rfl<|Gk<|Gl rfl (fun h1 => ?_) (fun h1 => ?_); refine Gx<|Gp<|Gv<|Zj<|Gz v rfl<|Gz um rfl<|Gs rfl (Zv (a := v) (b := um) Tryz.call203 rfl rfl) (k2n _ _ _ ((Mono.mono E2 h)) ((Owned.read hO1))) ?_; rintro u2 w3 ⟨E3, hO2⟩; refine Vj u2 rfl<|Gk<|Zj<|Gw rfl<|Zt rfl<|Zp rfl<|Gk ?_; rotate_left; (exfalso; omega)
    refine ⟨((n + 1, u2)), Kg, Kh, ?_, ?_⟩
    · exact ⟨by exact exq, Ka, hO2.mono Ka⟩
    · simp only; omega
  · obtain rfl : n = p.length := by omega
    clear k1 k2 k2n
    have hml := Xf (p := p) (bsm p p.length)
    have rM := hO1.read
    clear hO1
    focus
      have szE2 := E2.size; refine Gp<|Gq<|Gw rfl<|Gz v rfl<|Ze Kp rfl h<|Zk rfl<|Gk<|Gl rfl (fun h1 => ?_) (fun h1 => ?_); (exfalso; omega); refine Zu ?_; refine Za ?_; refine Gp<|Zj<|Vq XInt rfl Xk Kl ?_; rintro b1 w3 hb1 b1lt E3 hO1; refine Vk rfl<|Gk<|Gp<|Gp<|Zj<|Zp rfl<|Gk<|Gv ?_
    refine Zy [6, 7, 8, 27, 28, 29, 30, 31, 32, 33, 34, 35, 36, 37, 38, 39, 40, 41, 42, 43, 44, 45, 46, 47, 48, 49, 50] (fun ((k, u) : Nat × Value) => [(7, .int .i64 (k : Nat)), (6, u)]) (fun (k, u) w' => Ext w2 w' ∧ k ≤ p.length ∧ Owned w2.heap.size XI w' u ((ints (kndL p)).take k)) (fun x => p.length - x.1) (0, .slice (some ⟨b1, 0, none⟩) 0 0) Kg ?_ ?_
    · exact ⟨by exact E3, Nat.zero_le _, by simpa using hO1⟩
    clear hO1
    rintro ⟨k, uk⟩ ρk w4 ⟨E4, hk, hO1⟩
    have htl : ((ints (kndL p)).take k).length = k := by simp; omega
    by_cases hlt : k < p.length
    · obtain ⟨g1, g2, g3⟩ := Qx hlt
      focus
        have szE4 := E4.size; refine Gp<|Gq<|Gw rfl<|Gz v rfl<|Ze Kp rfl h<|Zk rfl<|Gk<|Gl rfl (fun h2 => ?_) (fun h2 => ?_); refine Gx<|Gp<|Gv<|Gq<|Zp rfl<|Gk<|Gv ?_; rotate_left; (exfalso; omega)
      refine Zy [6, 8, 33, 34, 35, 36, 37, 38, 39, 40, 41, 42, 43, 44, 45, 46, 47, 48, 49, 50] (fun (j : Nat) => [(8, .int .i64 (j : Nat)), (6, uk)]) (fun j w' => w' = w4 ∧ j ≤ knd p k) (fun j => p.length - j) 0 Kg ?_ ?_
      · exact ⟨rfl, Nat.zero_le _⟩
      rintro j ρl w5 ⟨rfl, hj⟩
      have hmr := Xy (p := p) (S := bsm p p.length) hlt
      have hma := Uz (p := p) (S := bsm p p.length) (a := k) (b := j) hlt Ka
      rcases Nat.lt_or_ge j (knd p k) with hjl | hjl
      · have h0 : ((matV p (bsm p p.length))[k]'Ka)[j]'Ka = 0 := by rw [hma, show bsm p p.length k j = false from g3 j hjl]; rfl
        focus
          refine Gp<|Gq<|Gw rfl<|Gz v rfl<|Ze Kp rfl h<|Zk rfl<|Gk<|Gl rfl (fun h3 => ?_) (fun h3 => ?_); refine Gx<|Gp<|Gv<|Gq<|Gz um rfl<|Gw rfl<|Vc Kp Kt Kx rfl (fun _ => rfl) rfl rM E4 rfl Kf ?_; rintro _ u2 hu1; refine Gw rfl<|Vc Km Kl Kn rfl (fun _ => rfl) rfl hu1 E4 rfl Kf ?_; rintro _ _ rfl; refine Zs rfl<|Gk<|Gl rfl (fun h4 => ?_) (fun h4 => ?_); (exfalso; omega); refine Gx<|Zj<|Gw rfl<|Zt rfl<|Zp rfl<|Gk ?_; rotate_left; (exfalso; omega)
        refine ⟨(j + 1), Kg, Kh, ?_, ?_⟩
        · exact ⟨rfl, Ka⟩
        · omega
      · obtain rfl : j = knd p k := by omega
        have h1 : ((matV p (bsm p p.length))[k]'Ka)[knd p k]'Ka = 1 := by rw [hma, show bsm p p.length k (knd p k) = true from g2]; rfl
        focus
          have szE4 := E4.size; have szE2 := E2.size; refine Gp<|Gq<|Gw rfl<|Gz v rfl<|Ze Kp rfl h<|Zk rfl<|Gk<|Gl rfl (fun h3 => ?_) (fun h3 => ?_); refine Gx<|Gp<|Gv<|Gq<|Gz um rfl<|Gw rfl<|Vc Kp Kt Kx rfl (fun _ => rfl) rfl rM E4 rfl Kf ?_; rintro _ u2 hu1; refine Gw rfl<|Vc Km Kl Kn rfl (fun _ => rfl) rfl hu1 E4 rfl Kf ?_; rintro _ _ rfl; refine Zs rfl<|Gk<|Gl rfl (fun h4 => ?_) (fun h4 => ?_); refine Gq<|Gz uk rfl<|Gw rfl<|Zm (ps := [(0, .int _ _)]) (cs := [_]) rfl Km Kl Je rfl rfl rfl rfl ?_; rintro b2 w4 hb2 E5 hB1 hHb2; have hs3 := E5.size
          refine Vv rfl Xk rfl rfl hB1 (hO1.toB.ext E5) Owned.int (Nat.le_refl _) Kf Ka Ka ((E2.trans E4).trans E5) Ka ?_; have hT1 := (hO1.toB.ext E5); rintro v1 w6 hO1 E6 M1; have E7 := M1.ext hT1 (E4.trans E5) Ka; refine Vj v1 rfl<|Gk<|Zu ?_; refine exitX_other rfl ?_; refine Za ?_; refine Zj<|Gw rfl<|Zt rfl<|Zp rfl<|Gk ?_; rotate_left; contradiction; (exfalso; omega)
        refine ⟨((k + 1, v1)), Kg, Kh, ?_, ?_⟩
        · refine ⟨by exact E7, Ka, ?_⟩
          rw [Vb _ _ Ka, Ui]
          exact hO1
        · simp only; omega
    · obtain rfl : k = p.length := by omega
      rw [List.take_of_length_le Ka] at hO1
      have rK := hO1.read
      clear hO1
      focus
        have szE4 := E4.size; refine Gp<|Gq<|Gw rfl<|Gz v rfl<|Ze Kp rfl h<|Zk rfl<|Gk<|Gl rfl (fun h2 => ?_) (fun h2 => ?_); contradiction; refine Zu ?_; refine Za ?_; refine Gq<|Zm (ps := [(0, .int _ _)]) (cs := [_]) rfl Km Kl Je rfl rfl rfl rfl ?_; rintro b2 w5 hb2 E5 hB1 hHb2; refine Vk rfl<|Gk<|Gp<|Gq<|Zp rfl<|Gk<|Gv ?_
      have hO2 : Owned w4.heap.size XI w5 (.slice (some ⟨b2, 0, none⟩) 1 1) (ints [0]) := Owned.block hHb2 hb2 rfl Kc ⟨⟨rfl, rfl⟩, trivial⟩
      clear hHb2 hB1
      refine Zy [9, 10, 11, 12, 13, 52, 53, 54, 55, 56, 57, 58, 59, 60, 61, 62, 63, 64, 65, 66, 67, 68, 69, 70, 71, 72, 73, 74, 75, 76, 77, 78, 79, 80, 81, 82, 83, 84, 85, 86, 87, 88, 89, 90, 91, 92, 93, 94, 95, 96, 97, 98, 99, 100] (fun ((t, u, L) : Nat × Value × List Nat) => [(10, .int .i64 (t : Nat)), (9, u)]) (fun (t, u, L) w' => Ext w4 w' ∧ Owned w4.heap.size XI w' u (ints L) ∧ Wlk p L ∧ t ≤ L.length ∧ ∀ x ∈ L.take t, ∀ j ∈ arr p x, knd p j ∈ L.map (knd p)) (fun x => p.length - x.1) (0, .slice (some ⟨b2, 0, none⟩) 1 1, [0]) Kg ?_ ?_
      · exact ⟨by exact E5, hO2, Wlk.zero, Nat.zero_le _, Ki⟩
      clear hO2
      rintro ⟨t, u, L⟩ ρl w6 ⟨E6, hO2, hW, ht, hcl⟩
      have hLl := hW.len hp
      have hLil := Vw L
      by_cases htl : t < L.length
      · obtain ⟨X, hX⟩ : ∃ X, X = L[t] := ⟨_, rfl⟩
        have hXl : X < p.length := hX ▸ hW.lt hp (List.getElem_mem htl)
        have hrow := hp.row hXl
        focus
          refine Gp<|Gq<|Gw rfl<|Gz u rfl<|Ze Km rfl (Owned.read hO2)<|Zk rfl<|Gk<|Gl rfl (fun h3 => ?_) (fun h3 => ?_); refine Gx<|Gp<|Gv<|Gq<|Zp rfl<|Gk<|Gv ?_; rotate_left; (exfalso; omega)
        refine Zy [9, 11, 12, 13, 58, 59, 60, 61, 62, 63, 64, 65, 66, 67, 68, 69, 70, 71, 72, 73, 74, 75, 76, 77, 78, 79, 80, 81, 82, 83, 84, 85, 86, 87, 88, 89, 90, 91, 92, 93, 94, 95, 96, 97, 98, 99, 100] (fun ((j, u, L') : Nat × Value × List Nat) => [(11, .int .i64 (j : Nat)), (9, u)]) (fun (j, u, L') w' => Ext w4 w' ∧ j ≤ p.length ∧ Owned w4.heap.size XI w' u (ints L') ∧ Wlk p L' ∧ (∃ e, L' = L ++ e) ∧ ∀ j' ∈ arr p X, j' < j → knd p j' ∈ L'.map (knd p)) (fun x => p.length - x.1) (0, u, L) Kg ?_ ?_
        · exact ⟨by exact E6, Nat.zero_le _, hO2, hW, ⟨[], Ki⟩, fun j' _ h => Ka⟩
        clear hO2
        rintro ⟨j, u', L'⟩ ρm w7 ⟨E7, hj, hO2, hW', ⟨e, he⟩, hcl'⟩
        have hLl' := hW'.len hp
        have hLil' := Vw L'
        have htl' : t < L'.length := by rw [he]; simp; omega
        have hXt : L'[t] = X := by simp only [he]; rw [List.getElem_append_left htl, hX]
        have hXm : X ∈ L' := hXt ▸ List.getElem_mem htl'
        have hgt : (ints L')[t]'Ka = (X : Int) := by rw [Yz htl', hXt]
        by_cases hjl : j < p.length
        · have hgX : (p[((ints L')[t]'Ka).toNat]'(by rw [hgt]; omega)) = p[X] := by simp only [hgt, Int.toNat_natCast]
          have hgXl : (p[((ints L')[t]'Ka).toNat]'(by rw [hgt]; omega)).length = p.length := by rw [hgX]; exact hrow
          have hgXj : (p[((ints L')[t]'Ka).toNat]'(by rw [hgt]; omega))[j]'Ka = p[X][j] := by simp only [hgt, Int.toNat_natCast]
          have harX : j ∈ arr p X ↔ p[X][j] = 1 := by
            rw [Ux hp hXl]; unfold bit; rw [Zz hXl, Zz (show j < p[X].length by omega)]
            exact ⟨fun h => h.2, fun h => ⟨hjl, h⟩⟩
          focus
            have szE7 := E7.size; refine Gp<|Gq<|Gw rfl<|Gz v rfl<|Ze Kp rfl h<|Zk rfl<|Gk<|Gl rfl (fun h4 => ?_) (fun h4 => ?_); refine Gx<|Gp<|Gv<|Gq<|Gz v rfl<|Gz u' rfl<|Gw rfl<|Vc Km Kl Kn rfl (fun _ => rfl) rfl (Owned.read hO2) (Ext.refl _) rfl Kf ?_; rintro _ _ rfl; refine Qe Kp Kt Kx rfl (fun _ => rfl) rfl h exq rfl Kf ?_; rintro _ u2 hu1; refine Gw rfl<|Vc Km Kl Kn rfl (fun _ => rfl) rfl hu1 exq rfl Kf ?_; rintro _ _ rfl; refine Zs rfl<|Zg rfl<|Gk<|Gp<|Gq<|Zp rfl<|Gk<|Gv ?_; rotate_left; (exfalso; omega)
          refine Zy [12, 13, 75, 76, 77, 78, 79, 80, 81, 82, 83, 84, 85, 86, 87, 88, 89, 90, 91, 92, 93, 94, 95] (fun ((m, f) : Nat × Bool) => [(13, .int .i64 (m : Nat)), (12, .bool f)]) (fun (m, f) w' => Ext w7 w' ∧ m ≤ L'.length ∧ (f = true ↔ j ∈ arr p X ∧ knd p j ∉ (L'.take m).map (knd p))) (fun x => L'.length - x.1) (0, decide ((p[((ints L')[t]'Ka).toNat]'(by rw [hgt]; omega))[j]'Ka = 1)) Kg ?_ ?_
          · refine ⟨Ext.refl _, Nat.zero_le _, ?_⟩
            rw [decide_eq_true_iff, hgXj, harX]; simp
          rintro ⟨m, f⟩ ρn w9 ⟨E9, hm, hf⟩
          by_cases hml2 : m < L'.length
          · have hLm := hW'.lt hp (List.getElem_mem hml2)
            have hgm : (ints L')[m]'Ka = (L'[m] : Int) := Yz hml2
            have hkm : (ints (kndL p))[((ints L')[m]'Ka).toNat]'(by rw [hgm, hkl]; omega) = (knd p L'[m] : Int) := by
              simp only [hgm, Int.toNat_natCast]; exact Ui _
            have hkj : (ints (kndL p))[j]'Ka = (knd p j : Int) := Ui _
            have hts := Vb _ _ hml2
            have bm : ((ints L')[m]'Ka).toNat < (ints (kndL p)).length := by rw [hkl, hgm]; omega
            cases f
            · focus
                refine Gp<|Gq<|Gw rfl<|Gz u' rfl<|Ze Km rfl (Owned.read hO2)<|Zk rfl<|Gk<|Gl rfl (fun h5 => ?_) (fun h5 => ?_); refine Gx<|Gp<|Gv<|Yj Yg Kb rfl ?_; refine Uh rfl<|Uh rfl<|Gu rfl<|Gu rfl<|Gu rfl<|Gu rfl<|Gu rfl<|Gu rfl<|Gu rfl<|Gu rfl<|Gu rfl<|Gu rfl<|Gu rfl<|Gu rfl<|Xx rfl<|WqaB rfl<|Yh (fun w8 E8 => ?_); refine Zj<|Gw rfl<|Zt rfl<|Zp rfl<|Gk ?_; rotate_left; (exfalso; omega)
              refine ⟨((m + 1, false)), Kg, Kh, ?_, ?_⟩
              · refine ⟨by exact exq, Ka, ⟨fun h => (by cases h), fun h => ?_⟩⟩
                rw [hts, List.map_append, List.mem_append, not_or] at h
                exact absurd (hf.2 ⟨h.1, h.2.1⟩) Ki
              · simp only; omega
            · focus
                refine Gp<|Gq<|Gw rfl<|Gz u' rfl<|Ze Km rfl (Owned.read hO2)<|Zk rfl<|Gk<|Gl rfl (fun h5 => ?_) (fun h5 => ?_); refine Gx<|Gp<|Gv<|Yj Yg Kb rfl ?_; refine Uh rfl<|Uh rfl<|Xw uk rfl<|Xw u' rfl<|Qj rfl<|Ys Km Kl Kn rfl (fun _ => rfl) rfl (Owned.read hO2) E9 rfl Kf ?_; rintro _ _ rfl; refine Qd Km Kl Kn rfl (fun _ => rfl) rfl rK exq rfl Kf ?_; rintro _ _ rfl; refine Xw uk rfl<|Qj rfl<|Ys Km Kl Kn rfl (fun _ => rfl) rfl rK exq rfl Kf ?_; rintro _ _ rfl; refine Wqneq rfl<|Rj rfl<|WqaB rfl<|Yh (fun w8 E8 => ?_)
                refine Zj<|Gw rfl<|Zt rfl<|Zp rfl<|Gk ?_; rotate_left; (exfalso; omega)
              refine ⟨((m + 1, !decide ((ints (kndL p))[((ints L')[m]'Ka).toNat]'bm = (ints (kndL p))[j]'Ka))), Kg, Kh, ?_, ?_⟩
              · refine ⟨by exact exq, Ka, ?_⟩
                rw [hkm, hkj, hts, List.map_append, List.mem_append, not_or]
                have hf' := hf.1 rfl
                simp only [List.map_cons, List.map_nil, List.mem_singleton, Bool.not_eq_true', decide_eq_false_iff_not]
                constructor
                · intro h; exact ⟨hf'.1, hf'.2, fun e => h (by rw [e])⟩
                · intro h e; exact h.2.2 Ka
              · simp only; omega
          · obtain rfl : m = L'.length := by omega
            rw [List.take_length] at hf
            cases f
            · focus
                refine Gp<|Gq<|Gw rfl<|Gz u' rfl<|Ze Km rfl (Owned.read hO2)<|Zk rfl<|Gk<|Gl rfl (fun h5 => ?_) (fun h5 => ?_); (exfalso; omega); refine Zu ?_; refine Za ?_; refine Gq<|Vx rfl<|Gk<|Zb rfl ?_; refine Gx<|Zj<|Gw rfl<|Zt rfl<|Zp rfl<|Gk ?_
              refine ⟨((j + 1, u', L')), Kg, Kh, ?_, ?_⟩
              · refine ⟨by exact exq, Ka, by exact (Mono.mono E9 hO2), hW', ⟨e, he⟩, fun j' h1 h2 => ?_⟩
                rcases Nat.lt_or_ge j' j with h3 | h3
                · exact hcl' j' h1 h3
                · obtain rfl : j' = j := by omega
                  exact Classical.byContradiction fun h => absurd (hf.2 ⟨h1, h⟩) Ki
              · simp only; omega
            · obtain ⟨hf1, hf2⟩ := hf.1 rfl
              focus
                have szE9 := E9.size; have szE7 := E7.size; refine Gp<|Gq<|Gw rfl<|Gz u' rfl<|Ze Km rfl (Owned.read hO2)<|Zk rfl<|Gk<|Gl rfl (fun h5 => ?_) (fun h5 => ?_); (exfalso; omega); refine Zu ?_; refine Za ?_; refine Gq<|Vx rfl<|Gk<|Vp rfl ?_; refine Zj<|Gz u' rfl<|Gw rfl<|Zm (ps := [(0, .int _ _)]) (cs := [_]) rfl Km Kl Je rfl rfl rfl rfl ?_; rintro b3 w8 hb3 E8 hB1 hHb3; have hs4 := E8.size; refine Vv rfl Xk rfl rfl hB1 (hO2.toB.ext (E9.trans E8)) Owned.int (Nat.le_refl _) Kf Ka Ka ((((E2.trans E4).trans E7).trans E9).trans E8) Ka ?_; have hT1 := (hO2.toB.ext (E9.trans E8)); rintro v1 w10 hO2 E10 M1; have E12 := M1.ext hT1 ((E7.trans E9).trans E8) Ka
                have hB1 := hB1.moves M1 hT1 Ka; refine Vj v1 rfl<|Gk<|Zj<|Gw rfl<|Zt rfl<|Zp rfl<|Gk ?_
              refine ⟨((j + 1, v1, L' ++ [j])), Kg, Kh, ?_, ?_⟩
              · refine ⟨by exact E12, Ka, ?_, hW'.step hXm hf1 hf2, ⟨e ++ [j], by rw [he, List.append_assoc]⟩, fun j' h1 h2 => ?_⟩
                · rw [ints_append]; assumption
                · rw [List.map_append, List.mem_append]
                  rcases Nat.lt_or_ge j' j with h3 | h3
                  · exact .inl (hcl' j' h1 h3)
                  · obtain rfl : j' = j := by omega
                    exact .inr Ki
              · simp only; omega
        · obtain rfl : j = p.length := by omega
          focus
            refine Gp<|Gq<|Gw rfl<|Gz v rfl<|Ze Kp rfl h<|Zk rfl<|Gk<|Gl rfl (fun h4 => ?_) (fun h4 => ?_); contradiction; refine Zu ?_; refine Za ?_; refine Zj<|Gw rfl<|Zt rfl<|Zp rfl<|Gk ?_
          refine ⟨((t + 1, u', L')), Kg, Kh, ?_, ?_⟩
          · refine ⟨by exact E7, by exact hO2, hW', Ka, fun x hx j' hj' => ?_⟩
            rw [Vb _ _ htl'] at hx
            rcases List.mem_append.1 hx with hx | hx
            · have hx2 : x ∈ L.take t := by rw [he, List.take_append_of_le_length Ka] at hx; exact hx
              have := hcl x hx2 j' hj'
              rw [he, List.map_append]
              exact List.mem_append_left _ this
            · rw [List.mem_singleton.1 hx, hXt] at hj'
              exact hcl' j' hj' (Yl hp hXl hj')
          · simp only; omega
      · obtain rfl : t = L.length := by omega
        rw [List.take_length] at hcl
        have hKds := hW.kds hp hcl
        have hLlt : ∀ x ∈ L, x < p.length := fun x hx => hW.lt hp hx
        have hC : Cand p 0 (qp p (L.map (knd p))) := ⟨_, hKds, rfl⟩
        have hcl2 : (qp p (L.map (knd p))).length = L.length := by rw [qp_len, List.length_map]
        have hll := lst_len hp hp1 hC
        rw [hcl2] at hll
        by_cases h5 : L.length ≤ 5
        · have h5' : (lst p 0).length ≤ 5 := by omega
          have hPc := hC.pic hp hp1 Ka
          have k4 : ∀ (w : World) (v u t : Value), ESl Ints w v p → Ints w u (ints (kndL p)) → Ints w t (ints L) → Does Tryz.prog 195 [v, u, t] w (RetO w XR (qp p (L.map (knd p)))) := fun w v u t h1 h2 h3 => by
            rw [← ptV_qp hp hLlt]
            refine l4Part_ok w v u t p _ _ h1 h2 h3 hp hkl (fun x hx => ?_) (by rw [Vw]; omega)
            obtain ⟨y, hy, rfl⟩ := List.mem_map.1 hx
            have := hLlt y hy
            omega
          have k5 : ∀ (w : World) (v : Value), ESl Ints w v (qp p (L.map (knd p))) → Does Tryz.prog 126 [v, .int .i64 0] w (RetO w XR (lst p 0)) := fun w v h => by
            have := Uo w v _ h 0
            rw [if_pos ⟨hPc, Kc, by have := hPc.1; omega⟩] at this
            rw [(lst_same hp (hC.gr hp hp1) hp1 hPc.1).2 (hC.bis hp hp1)]
            exact this
          rw [if_pos h5', decide_eq_true h5']
          focus
            have szE6 := E6.size; refine Gp<|Gq<|Gw rfl<|Gz u rfl<|Ze Km rfl (Owned.read hO2)<|Zk rfl<|Gk<|Gl rfl (fun h3 => ?_) (fun h3 => ?_); (exfalso; omega); refine Zu ?_; refine Za ?_; refine Gp<|Gq<|Gz u rfl<|Ze Km rfl (Owned.read hO2)<|Yi rfl<|Gk<|Gl rfl (fun h4 => ?_) (fun h4 => ?_); (exfalso; omega); refine Gx<|Gp<|Zj<|Gz v rfl<|Gz uk rfl<|Gz u rfl<|Gs rfl (opc3 (a := v) (b := uk) (c := u) Tryz.call195 rfl rfl rfl) (k4 _ _ _ _ ((Mono.mono exq h)) ((Mono.mono E6 rK)) ((Owned.read hO2))) ?_; rintro u2 w7 ⟨E7, hO1⟩; have hs4 := E7.size; refine Gs rfl (Zv (a := u2) (b := .int _ _) Jt rfl rfl) (k5 _ _ ((Owned.read hO1))) ?_; rintro u3 w8 ⟨E8, hO3⟩; refine Vj u3 rfl ?_
            refine Zg rfl<|Gk<|Zi ?_; refine Zl (v := .tuple #[u3, .bool _]) rfl ?_; exact ⟨_, rfl, exq, hO3.toB.o.mono Ka⟩
        · have h5' : ¬ (lst p 0).length ≤ 5 := by omega
          rw [if_neg h5', decide_eq_false h5']
          focus
            have szE6 := E6.size; refine Gp<|Gq<|Gw rfl<|Gz u rfl<|Ze Km rfl (Owned.read hO2)<|Zk rfl<|Gk<|Gl rfl (fun h3 => ?_) (fun h3 => ?_); (exfalso; omega); refine Zu ?_; refine Za ?_; refine Gp<|Gq<|Gz u rfl<|Ze Km rfl (Owned.read hO2)<|Yi rfl<|Gk<|Gl rfl (fun h4 => ?_) (fun h4 => ?_); refine Gq<|Vq (XSl 3 XInt) rfl Xn Kt ?_; rintro b3 w7 hb3 b3lt E7 hO1; refine Vk rfl<|Zg rfl<|Gk<|Zi ?_; refine Zl (v := .tuple #[.slice _ _ _, .bool _]) rfl ?_; exact ⟨_, rfl, exq, hO1.toB.o.mono Ka⟩; (exfalso; omega)
end Go.Proofs.YtbgpppaljpngmaaGreatDoor
namespace Go.Proofs.YtbgpppaljpngmaaGreatDoor
open Go.Hs
set_option maxRecDepth 10000
set_option maxHeartbeats 4000000
set_option linter.unusedVariables false
set_option linter.unusedSimpArgs false
theorem l6Least_put (w : World) (v : Value) (g : List (List Int)) (ms : List Nat) (h : ESl Ints w v (put g ms)) (hg : Gr g) (hn : g.length ≤ 10) :
    Does Tryz.prog 175 [v] w (RetOB w XR (og (putV g ms)) (putV g ms).isSome) := by
  rw [putV_og, putV_is]
  exact l6Least_ok w v _ h (put_gr hg hn)
theorem PairOf_ok (w : World) (v u : Value) (p q : List (List Int)) (h : ESl Ints w v p) (h' : ESl Ints w u q) (a b : Nat) (ha : Nod p a) (hb : Nod q b) : Does Tryz.prog 141 [v, .int .i64 (a : Int), u, .int .i64 (b : Int)] w (RetOB w XR (og (pairV p a q b)) (pairV p a q b).isSome) := by
  have la : a < p.length := by have := ha.2; omega
  have lb : b < q.length := by have := hb.2; omega
  have hle := h.le
  have hle' := h'.le
  have hG := ha.1.bes5 hb.1
  have n1 : ∀ (w : World) (v : Value), ESl Ints w v p → Does Tryz.prog 118 [v, .int .i64 (a : Int)] w (Ret w (.bool true)) := fun w v h => by
    have := Uw w v p h (a : Int); rwa [decide_eq_true ha] at this
  have n2 : ∀ (w : World) (v : Value), ESl Ints w v q → Does Tryz.prog 118 [v, .int .i64 (b : Int)] w (Ret w (.bool true)) := fun w v h => by
    have := Uw w v q h (b : Int); rwa [decide_eq_true hb] at this
  have k1 : ∀ (w : World) (v u vl vr : Value), ESl Ints w v p → ESl Ints w u q → Ints w vl [(a : Int)] → Ints w vr [(b : Int)] → Does Tryz.prog 176 [v, u, vl, vr] w (RetO w XR (put (bes p q) [a, p.length + b])) := fun w v u vl vr h1 h2 h3 h4 =>
    l6Put_ok w v u vl vr p q [a] [b] h1 h2 h3 h4 ha.1 (.inl hb.1) (fun x hx => by rw [List.mem_singleton.1 hx]; exact la) (fun x hx => by rw [List.mem_singleton.1 hx]; exact lb) Ki Ki
  have k2 : ∀ (w : World) (v : Value), ESl Ints w v (put (bes p q) [a, p.length + b]) → Does Tryz.prog 175 [v] w (RetOB w XR (og (pairV p a q b)) (pairV p a q b).isSome) := fun w v h => l6Least_put w v _ _ h hG.1 hG.2
  refine Ub Tryz.func141 rfl Tryz.results141 Tryz.ntmps141 rfl ?_
  have litown : True := trivial
  focus
    refine Gq<|Vk rfl<|Zg rfl<|Gk<|Gp<|Gq<|Gz v rfl<|Gw rfl<|Gs rfl (Zv (a := v) (b := .int _ _) Gf rfl rfl) (n1 _ _ (h)) ?_; rintro _ w1 ⟨rfl, E1⟩; have hs1 := E1.size; refine Vn rfl<|Vr rfl (Zq (v := .bool _) rfl) (fun h1 => ?_) (fun h1 => ?_); contradiction; refine Gz u rfl<|Gw rfl<|Gs rfl (Zv (a := u) (b := .int _ _) Gf rfl rfl) (n2 _ _ ((Mono.mono E1 h'))) ?_; rintro _ w2 ⟨rfl, E2⟩; have hs2 := E2.size; refine Vn rfl<|Ve rfl<|Gk<|Vu rfl (fun h2 => ?_) (fun h2 => ?_); contradiction; refine Gx<|Gq<|Gz v rfl<|Gz u rfl<|Gw rfl ?_
    refine Zm (ps := [(0, .int _ _)]) (cs := [_]) rfl Km Kl Je rfl rfl rfl rfl ?_; rintro b1 w3 hb1 E3 hB1 hHb1; have hlb1 := hB1.lt; have hLb1 := own_lit1 hHb1 hb1; clear hHb1; have hs3 := E3.size; refine Gw rfl<|Zm (ps := [(0, .int _ _)]) (cs := [_]) rfl Km Kl Je rfl rfl rfl rfl ?_; rintro b2 w4 hb2 E4 hB2 hHb2; have hlb2 := hB2.lt; have hLb2 := own_lit1 hHb2 hb2; clear hHb2; have hs4 := E4.size; refine Gs rfl (Rv (a := v) (b := u) (c := .slice _ _ _) (d := .slice _ _ _) Tryz.call176 rfl rfl rfl rfl) (k1 _ _ _ _ _ ((Mono.mono exq h)) ((Mono.mono exq h')) ((Mono.mono E4 (Owned.read hLb1))) ((Owned.read hLb2))) ?_
    rintro u1 w5 ⟨E5, hO1⟩; have ichO1 := OwnedB.isC (Owned.toB hO1); have hs5 := E5.size; refine Gs rfl (Vl (a := u1) Tryz.call175 rfl) (k2 _ _ ((Owned.read hO1))) ?_; rintro _ w6 ⟨u2, rfl, E6, hO2⟩; have ichO2 := OwnedB.isC (Owned.toB hO2); have hs6 := E6.size; refine Xh u2 rfl<|Xe rfl<|Vj u2 rfl<|Zg rfl<|Gk<|Zi ?_; refine Zl (v := .tuple #[u2, .bool _]) rfl ?_; exact ⟨_, rfl, exq, hO2.toB.o.mono Ka⟩
theorem TogetherOf_ok (w : World) (v u : Value) (p q : List (List Int)) (h : ESl Ints w v p) (h' : ESl Ints w u q) (a b : Nat) (ha : Nod p a) (hb : Nod q b) : Does Tryz.prog 142 [v, .int .i64 (a : Int), u, .int .i64 (b : Int)] w (RetOB w XR (og (togV p a q b)) (togV p a q b).isSome) := by
  have la : a < p.length := by have := ha.2; omega
  have lb : b < q.length := by have := hb.2; omega
  have hle := h.le
  have hle' := h'.le
  have hG := ha.1.bes5 hb.1
  have n1 : ∀ (w : World) (v : Value), ESl Ints w v p → Does Tryz.prog 118 [v, .int .i64 (a : Int)] w (Ret w (.bool true)) := fun w v h => by
    have := Uw w v p h (a : Int); rwa [decide_eq_true ha] at this
  have n2 : ∀ (w : World) (v : Value), ESl Ints w v q → Does Tryz.prog 118 [v, .int .i64 (b : Int)] w (Ret w (.bool true)) := fun w v h => by
    have := Uw w v q h (b : Int); rwa [decide_eq_true hb] at this
  have c1 : ∀ (w : World) (v : Value), ESl Ints w v p → Does Tryz.prog 119 [v, .int .i64 (a : Int)] w (RetO w XI (ints (arr p a))) := fun w v h => Rk w v p h ha.1.gr a la
  have c2 : ∀ (w : World) (v : Value), ESl Ints w v q → Does Tryz.prog 119 [v, .int .i64 (b : Int)] w (RetO w XI (ints (arr q b))) := fun w v h => Rk w v q h hb.1.gr b lb
  have k1 : ∀ (w : World) (v u vl vr : Value), ESl Ints w v p → ESl Ints w u q → Ints w vl (ints (arr p a)) → Ints w vr (ints (arr q b)) → Does Tryz.prog 176 [v, u, vl, vr] w (RetO w XR (put (bes p q) (arr p a ++ (arr q b).map (p.length + ·)))) := fun w v u vl vr h1 h2 h3 h4 =>
    l6Put_ok w v u vl vr p q _ _ h1 h2 h3 h4 ha.1 (.inl hb.1) (fun x hx => Yl ha.1.gr la hx) (fun x hx => Yl hb.1.gr lb hx) (by have := arr_le ha.1.gr la; have := ha.1.2.1; omega) (by have := arr_le hb.1.gr lb; have := hb.1.2.1; omega)
  have k2 : ∀ (w : World) (v : Value), ESl Ints w v (put (bes p q) (arr p a ++ (arr q b).map (p.length + ·))) → Does Tryz.prog 175 [v] w (RetOB w XR (og (togV p a q b)) (togV p a q b).isSome) := fun w v h => by
    rw [togV_eq ha.1.gr hb.1.gr la lb]
    exact l6Least_put w v _ _ h hG.1 hG.2
  refine Ub Tryz.func142 rfl Tryz.results142 Tryz.ntmps142 rfl ?_
  focus
    refine Gq<|Vk rfl<|Zg rfl<|Gk<|Gp<|Gq<|Gz v rfl<|Gw rfl<|Gs rfl (Zv (a := v) (b := .int _ _) Gf rfl rfl) (n1 _ _ (h)) ?_; rintro _ w1 ⟨rfl, E1⟩; have hs1 := E1.size; refine Vn rfl<|Vr rfl (Zq (v := .bool _) rfl) (fun h1 => ?_) (fun h1 => ?_); contradiction; refine Gz u rfl<|Gw rfl<|Gs rfl (Zv (a := u) (b := .int _ _) Gf rfl rfl) (n2 _ _ ((Mono.mono E1 h'))) ?_; rintro _ w2 ⟨rfl, E2⟩; have hs2 := E2.size; refine Vn rfl<|Ve rfl<|Gk<|Vu rfl (fun h2 => ?_) (fun h2 => ?_); contradiction; refine Gx<|Gq<|Gz v rfl<|Gz u rfl<|Gz v rfl<|Gw rfl<|Gs rfl (Zv (a := v) (b := .int _ _) Gj rfl rfl) (c1 _ _ ((Mono.mono exq h))) ?_; rintro u1 w3 ⟨E3, hO1⟩; have hs3 := E3.size; refine Gz u rfl ?_
    refine Gw rfl<|Gs rfl (Zv (a := u) (b := .int _ _) Gj rfl rfl) (c2 _ _ ((Mono.mono exq h'))) ?_; rintro u2 w4 ⟨E4, hO2⟩; have hs4 := E4.size; refine Gs rfl (Rv (a := v) (b := u) (c := u1) (d := u2) Tryz.call176 rfl rfl rfl rfl) (k1 _ _ _ _ _ ((Mono.mono exq h)) ((Mono.mono exq h')) ((Mono.mono E4 (Owned.read hO1))) ((Owned.read hO2))) ?_; rintro u3 w5 ⟨E5, hO3⟩; have hs5 := E5.size; refine Gs rfl (Vl (a := u3) Tryz.call175 rfl) (k2 _ _ ((Owned.read hO3))) ?_; rintro _ w6 ⟨u4, rfl, E6, hO4⟩; have hs6 := E6.size; refine Xh u4 rfl<|Xe rfl<|Vj u4 rfl<|Zg rfl<|Gk<|Zi ?_; refine Zl (v := .tuple #[u4, .bool _]) rfl ?_; exact ⟨_, rfl, exq, hO4.toB.o.mono Ka⟩
open Classical in
theorem WithoutSet_ok (w : World) (v u : Value) (p q : List (List Int)) (h : ESl Ints w v p) (h' : ESl Ints w u q) (a b : Nat) (ha : Nod p a) (hb : Nod q b) : Does Tryz.prog 143 [v, .int .i64 (a : Int), u, .int .i64 (b : Int)] w (RetOB w XR (og (wosV p a q b)) (wosV p a q b).isSome) := by
  have la : a < p.length := by have := ha.2; omega
  have lb : b < q.length := by have := hb.2; omega
  have hle := h.le
  have hle' := h'.le
  have n1 : ∀ (w : World) (v : Value), ESl Ints w v p → Does Tryz.prog 118 [v, .int .i64 (a : Int)] w (Ret w (.bool true)) := fun w v h => by
    have := Uw w v p h (a : Int); rwa [decide_eq_true ha] at this
  have n2 : ∀ (w : World) (v : Value), ESl Ints w v q → Does Tryz.prog 118 [v, .int .i64 (b : Int)] w (Ret w (.bool true)) := fun w v h => by
    have := Uw w v q h (b : Int); rwa [decide_eq_true hb] at this
  have c1 : ∀ (w : World) (v : Value), ESl Ints w v p → Does Tryz.prog 119 [v, .int .i64 (a : Int)] w (RetO w XI (ints (arr p a))) := fun w v h => Rk w v p h ha.1.gr a la
  have hal := arr_le ha.1.gr la
  have hail := Vw (arr p a)
  have hp5 := ha.1.2.1
  refine Ub Tryz.func143 rfl Tryz.results143 Tryz.ntmps143 rfl ?_
  focus
    refine Gq<|Vk rfl<|Zg rfl<|Gk<|Gp<|Gq<|Gz v rfl<|Gw rfl<|Gs rfl (Zv (a := v) (b := .int _ _) Gf rfl rfl) (n1 _ _ (h)) ?_; rintro _ w1 ⟨rfl, E1⟩; have hs1 := E1.size; refine Vn rfl<|Vr rfl (Zq (v := .bool _) rfl) (fun h1 => ?_) (fun h1 => ?_); contradiction; refine Gz u rfl<|Gw rfl<|Gs rfl (Zv (a := u) (b := .int _ _) Gf rfl rfl) (n2 _ _ ((Mono.mono E1 h'))) ?_; rintro _ w2 ⟨rfl, E2⟩; have hs2 := E2.size; refine Vn rfl<|Ve rfl<|Gk<|Vu rfl (fun h2 => ?_) (fun h2 => ?_); contradiction; refine Gx<|Gq<|Vq XInt rfl Xk Kl ?_; rintro b1 w3 hb1 b1lt E3 hO1; have hs3 := E3.size; refine Vk rfl<|Gk<|Gq ?_
    refine Gz v rfl<|Gw rfl<|Gs rfl (Zv (a := v) (b := .int _ _) Gj rfl rfl) (c1 _ _ ((Mono.mono exq h))) ?_; rintro u1 w4 ⟨E4, hO2⟩; have hs4 := E4.size; refine Vj u1 rfl<|Gk<|Gp<|Gq<|Zp rfl<|Gk<|Gv ?_
  have hO3 : Owned w.heap.size XI w4 (.slice (some ⟨b1, 0, none⟩) 0 0) (ints []) := (hO1.ext E4).mono Ka
  have hBe : Besides (Value.ownBlock (.slice (some ⟨b1, 0, none⟩) 0 0)) Ints w4 u1 (ints (arr p a)) := Besides.start hO1 hO2.above
  clear hO1 hO2
  have E0 : Ext w w4 := by exact (((E1.trans E2).trans E3).trans E4)
  refine Zy [10, 12, 28, 29, 30, 31, 32, 33, 34, 35, 36, 37, 38, 39, 40, 41, 42, 43, 44, 45, 46, 47, 48, 49] (fun ((k, u, L) : Nat × Value × List Nat) => [(12, .int .i64 (k : Nat)), (10, u)]) (fun (k, u, L) w' => Ext w w' ∧ k ≤ (arr p a).length ∧ Owned w.heap.size XI w' u (ints L) ∧ Besides u.ownBlock Ints w' u1 (ints (arr p a)) ∧ L = ((arr p a).take k).filter fun v => !decide (Bis p v q b)) (fun x => (arr p a).length - x.1) (0, .slice (some ⟨b1, 0, none⟩) 0 0, []) Kg ?_ ?_
  · exact ⟨by exact E0, Nat.zero_le _, hO3, hBe, Ki⟩
  clear hO3 hBe
  rintro ⟨k, uk, L⟩ ρj w5 ⟨E5, hk, hO3, hBe, hL⟩
  have hLle : L.length ≤ (arr p a).length := by rw [hL]; exact Nat.le_trans (List.length_filter_le _ _) (by rw [List.length_take]; omega)
  have hLil := Vw L
  by_cases hkl : k < (arr p a).length
  · have hm := Yl ha.1.gr la (List.getElem_mem hkl)
    have hgk : (ints (arr p a))[k]'Ka = ((arr p a)[k] : Int) := Yz hkl
    have hts := Vb _ _ hkl
    have hnk : Nod p ((arr p a)[k] : Nat) := ⟨ha.1, Ka, Ka⟩
    by_cases hB : Bis p (arr p a)[k] q b
    · have k3 : ∀ (w : World) (v u : Value), ESl Ints w v p → ESl Ints w u q → Does Tryz.prog 121 [v, .int .i64 ((ints (arr p a))[k]'Ka), u, .int .i64 (b : Int)] w (Ret w (.bool true)) := fun w v u h1 h2 => by
        have := spec_SameSet_ok w v u p q h1 h2 (((arr p a)[k] : Nat) : Int) (b : Int) hnk hb
        rw [hgk]; simp only [Int.toNat_natCast] at this
        rwa [decide_eq_true hB] at this
      focus
        have szE5 := E5.size; have szE0 := E0.size; have szE4 := E4.size; have szE3 := E3.size; have szE2 := E2.size; have szE1 := E1.size; refine Gp<|Gq<|Gw rfl<|Gz u1 rfl<|Ze Km rfl (Besides.here hBe)<|Zk rfl<|Gk<|Gl rfl (fun h3 => ?_) (fun h3 => ?_); refine Gx<|Gp<|Gv<|Gq<|Gz v rfl<|Gz u1 rfl<|Gw rfl<|Vc Km Kl Kn rfl (fun _ => rfl) rfl (Besides.here hBe) (Ext.refl _) rfl Kf ?_; rintro _ _ rfl; refine Gz u rfl<|Gw rfl<|Gs rfl (Rv (a := v) (b := .int _ _) (c := u) (d := .int _ _) Tryz.call121 rfl rfl rfl rfl) (k3 _ _ _ ((Mono.mono E5 h)) ((Mono.mono E5 h'))) ?_; rintro _ w6 ⟨rfl, E6⟩; have hs5 := E6.size
        refine Vn rfl<|Gk<|Vu rfl (fun h4 => ?_) (fun h4 => ?_); contradiction; refine Gx<|Zj<|Gw rfl<|Zt rfl<|Zp rfl<|Gk ?_; rotate_left; (exfalso; omega)
      refine ⟨((k + 1, uk, L)), Kg, Kh, ?_, ?_⟩
      · refine ⟨by exact (E5.trans E6), Ka, by exact (Mono.mono E6 hO3), by exact (hBe.ext E6), ?_⟩
        rw [hL, hts, List.filter_append]; simp [hB]
      · simp only; omega
    · have k3 : ∀ (w : World) (v u : Value), ESl Ints w v p → ESl Ints w u q → Does Tryz.prog 121 [v, .int .i64 ((ints (arr p a))[k]'Ka), u, .int .i64 (b : Int)] w (Ret w (.bool false)) := fun w v u h1 h2 => by
        have := spec_SameSet_ok w v u p q h1 h2 (((arr p a)[k] : Nat) : Int) (b : Int) hnk hb
        rw [hgk]; simp only [Int.toNat_natCast] at this
        rwa [decide_eq_false hB] at this
      focus
        have szE5 := E5.size; have szE0 := E0.size; have szE4 := E4.size; have szE3 := E3.size; have szE2 := E2.size; have szE1 := E1.size; refine Gp<|Gq<|Gw rfl<|Gz u1 rfl<|Ze Km rfl (Besides.here hBe)<|Zk rfl<|Gk<|Gl rfl (fun h3 => ?_) (fun h3 => ?_); refine Gx<|Gp<|Gv<|Gq<|Gz v rfl<|Gz u1 rfl<|Gw rfl<|Vc Km Kl Kn rfl (fun _ => rfl) rfl (Besides.here hBe) (Ext.refl _) rfl Kf ?_; rintro _ _ rfl; refine Gz u rfl<|Gw rfl<|Gs rfl (Rv (a := v) (b := .int _ _) (c := u) (d := .int _ _) Tryz.call121 rfl rfl rfl rfl) (k3 _ _ _ ((Mono.mono E5 h)) ((Mono.mono E5 h'))) ?_; rintro _ w6 ⟨rfl, E6⟩; have hs5 := E6.size
        refine Vn rfl<|Gk<|Vu rfl (fun h4 => ?_) (fun h4 => ?_); refine Zj<|Gz uk rfl<|Gz u1 rfl<|Gw rfl<|Vc Km Kl Kn rfl (fun _ => rfl) rfl (Besides.here hBe) E6 rfl Kf ?_; rintro _ _ rfl; refine Zm (ps := [(0, .int _ _)]) (cs := [_]) rfl Km Kl Je rfl rfl rfl rfl ?_; rintro b2 w7 hb2 E7 hB1 hHb2; have hlb2 := hB1.lt; have hs6 := E7.size; refine Vv rfl Xk rfl rfl hB1 (hO3.toB.ext (E6.trans E7)) Owned.int (Nat.le_refl _) Kf Ka Ka ((E5.trans E6).trans E7) Ka ?_; have hT1 := (hO3.toB.ext (E6.trans E7)); rintro v1 w8 hO3 E8 M1; have hBe := (hBe.ext exq).moves M1; have hB1 := hB1.moves M1 hT1 Ka; have hs7 := E8.size; refine Vj v1 rfl<|Gk<|Zj ?_
        refine Gw rfl<|Zt rfl<|Zp rfl<|Gk ?_; rotate_left; contradiction; (exfalso; omega)
      refine ⟨((k + 1, v1, L ++ [(arr p a)[k]])), Kg, Kh, ?_, ?_⟩
      · refine ⟨by exact E8, Ka, ?_, by exact hBe, ?_⟩
        · rw [ints_append, show ints [(arr p a)[k]] = [(ints (arr p a))[k]'Ka] by rw [hgk]; rfl]
          assumption
        · rw [hL, hts, List.filter_append]; simp [hB]
      · simp only; omega
  · obtain rfl : k = (arr p a).length := by omega
    rw [List.take_length] at hL
    have hLm : ∀ x ∈ L, x < p.length := fun x hx => Yl ha.1.gr la (List.mem_filter.1 (hL ▸ hx)).1
    have rL := hO3.read
    have rA := hBe.here
    clear hO3 hBe
    have hpp := ha.1.gr
    have k1 : ∀ (w : World) (v u vl vr : Value), ESl Ints w v p → ESl Ints w u [] → Ints w vl (ints L) → Ints w vr [] → Does Tryz.prog 176 [v, u, vl, vr] w (RetO w XR (put (bes p []) (L ++ ([] : List Nat).map (p.length + ·)))) := fun w v u vl vr h1 h2 h3 h4 =>
      l6Put_ok w v u vl vr p [] _ [] h1 h2 h3 h4 ha.1 (.inr rfl) hLm (fun x hx => by cases hx) Ka Ki
    have k2 : ∀ (w : World) (v : Value), ESl Ints w v (put (bes p []) (L ++ ([] : List Nat).map (p.length + ·))) → Does Tryz.prog 175 [v] w (RetOB w XR (og (wosV p a q b)) (wosV p a q b).isSome) := fun w v h => by
      rw [wosV_eq, ← hL]
      exact l6Least_put w v _ _ h (by rw [bes_nil]; exact hpp) (by rw [bes_nil]; omega)
    focus
      have szE5 := E5.size; have szE0 := E0.size; have szE4 := E4.size; have szE3 := E3.size; have szE2 := E2.size; have szE1 := E1.size; refine Gp<|Gq<|Gw rfl<|Gz u1 rfl<|Ze Km rfl rA<|Zk rfl<|Gk<|Gl rfl (fun h3 => ?_) (fun h3 => ?_); (exfalso; omega); refine Zu ?_; refine Za ?_; refine Gq<|Gz v rfl<|Vq (XSl 3 XInt) rfl Xn Kt ?_; rintro b2 w6 hb2 b2lt E6 hO1; have hs5 := E6.size; refine Gz uk rfl<|Vq XInt rfl Xk Kl ?_; rintro b3 w7 hb3 b3lt E7 hO2; have hs6 := E7.size; refine Gs rfl (Rv (a := v) (b := .slice _ _ _) (c := uk) (d := .slice _ _ _) Tryz.call176 rfl rfl rfl rfl) (k1 _ _ _ _ _ ((Mono.mono exq h)) ((Mono.mono E7 (Owned.read hO1))) ((Mono.mono exq rL)) ((Owned.read hO2))) ?_
      rintro u2 w8 ⟨E8, hO3⟩; have hs7 := E8.size; refine Gs rfl (Vl (a := u2) Tryz.call175 rfl) (k2 _ _ ((Owned.read hO3))) ?_; rintro _ w9 ⟨u3, rfl, E9, hO4⟩; have hs8 := E9.size; refine Xh u3 rfl<|Xe rfl<|Vj u3 rfl<|Zg rfl<|Gk<|Zi ?_; refine Zl (v := .tuple #[u3, .bool _]) rfl ?_; exact ⟨_, rfl, exq, hO4.toB.o.mono Ka⟩
end Go.Proofs.YtbgpppaljpngmaaGreatDoor
