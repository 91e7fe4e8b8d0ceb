/- Lemmas for FnDeskRun. -/
import Derived.Test.YtbgpppaljpngmaaGreatDoorMFnDeskRun4
import Derived.Laws.StructEq
import Derived.Tactics
import Derived.Tactics2
import Derived.Test.YtbgpppaljpngmaaGreatDoorProg
namespace Go.Proofs.YtbgpppaljpngmaaGreatDoor
open Go.Hs
set_option maxRecDepth 10000
set_option maxHeartbeats 4000000
set_option linter.unusedVariables false
set_option linter.unusedSimpArgs false
theorem l11Rows_ok (w : World) (v : Value) (p : List (List Int)) (h : ESl Ints w v p) (hp : p.length ≤ 100) (hr : ∀ r ∈ p, r.length ≤ 100) : Does Tryz.prog 113 [v] w (RetO w XR p) := by
  refine Zr Tryz.func113 rfl Tryz.results113 Tryz.ntmps113 rfl ?_
  focus
    refine Gq<|Vk rfl<|Gk<|Gq<|Vq (XSl 3 XInt) rfl Xn Kt ?_; rintro b1 w1 hb1 b1lt E1 hO1; refine Vk rfl<|Gk<|Gp<|Gq<|Zp rfl<|Gk<|Gv ?_
  refine Zy [3, 4, 6, 7, 8, 9, 10, 11, 12, 13, 14, 15, 16, 17, 18, 19, 20] (fun ((k, u) : Nat × Value) => [(4, .int .i64 (k : Nat)), (3, u)]) (fun (k, u) w' => Ext w w' ∧ k ≤ p.length ∧ Owned w.heap.size XR w' u (p.take k)) (fun x => p.length - x.1) (0, .slice (some ⟨b1, 0, none⟩) 0 0) Kg ?_ ?_
  · exact ⟨by exact E1, Nat.zero_le _, by simpa using hO1⟩
  clear hO1
  rintro ⟨k, u⟩ ρj w2 ⟨E2, hk, hO1⟩
  have hlt' : (p.take k).length = k := by simp; omega
  by_cases hlt : k < p.length
  · have hrl := hr _ (List.getElem_mem hlt)
    have heldS : w = w := rfl
    focus
      have szE2 := E2.size; refine Gp<|Gq<|Gw rfl<|Gz v rfl<|Ze Kp rfl h<|Zk rfl<|Gk<|Gl rfl (fun h1 => ?_) (fun h1 => ?_); refine Gx<|Gp<|Gv<|Zj<|Gz u rfl<|Vq XInt rfl Xk Kl ?_; rintro b2 w3 hb2 b2lt E3 hO2; have hs2 := E3.size; refine Gz v rfl<|Gw rfl<|Vc Kp Kt Kx rfl (fun _ => rfl) rfl h exq rfl Kf ?_; rintro _ u1 hu1; refine Wo_appS rfl Xk rfl rfl (Mono.mono (E2.trans E3) hu1) hO2.toB Kf Ka Ka (E2.trans E3) Ka ?_; have hT1 := hO2.toB; rintro v1 w4 hO2 E4 M1; have hO1 := (hO1.toB.ext E3).moves M1 hT1 Ka; have szM1 := M1.1.size
      refine Yd rfl Kp Kt Ji rfl (OwnedB.isC hO2.toB) rfl ?_; rintro b3 w5 hb3 E6 hB1 hHb3; have hs4 := E6.size; refine Vv rfl Xn rfl rfl hB1 (hO1.ext E6) (hO2.toB.ext E6).o Ka Kf Ka Ka (E4.trans E6) Ka ?_; rintro v2 w6 hO1 E7 M2; refine Vj v2 rfl<|Gk<|Zj<|Gw rfl<|Zt rfl<|Zp rfl<|Gk ?_; rotate_left; (exfalso; omega)
    refine ⟨((k + 1, v2)), Kg, Kh, ?_, ?_⟩
    · refine ⟨by exact E7, Ka, ?_⟩
      rw [Vb _ _ hlt]
      exact hO1
    · simp only; omega
  · obtain rfl : k = p.length := by omega
    rw [List.take_length] at hO1
    focus
      refine Gp<|Gq<|Gw rfl<|Gz v rfl<|Ze Kp rfl h<|Zk rfl<|Gk<|Gl rfl (fun h1 => ?_) (fun h1 => ?_); (exfalso; omega); refine Zu ?_; refine Za ?_; refine Gp<|Zj<|Gz u rfl<|Vj u rfl<|Gk<|Zi ?_; exact ⟨E2, hO1.toB.o.mono Ka⟩
theorem l11Copy_ok (w : World) (u1 u2 : Value) (now : List (List Int)) (past : List (List (List Int))) (h1 : ESl Ints w u1 now) (h2 : ESl (ESl Ints) w u2 past) (hn : now.length ≤ 100 ∧ ∀ r ∈ now, r.length ≤ 100) (hpl : past.length ≤ 100) (hp : ∀ p ∈ past, p.length ≤ 100 ∧ ∀ r ∈ p, r.length ≤ 100) :
    Does Tryz.prog 60 [.agg #[u1, u2]] w (RetDk w 23 88 3 now past) := by
  have k1 : ∀ (w : World) (v : Value), ESl Ints w v now → Does Tryz.prog 113 [v] w (RetO w XR now) := fun w v h => l11Rows_ok w v now h hn.1 hn.2
  have k2 : ∀ (k : Nat) (hk : k < past.length) (w : World) (v : Value), ESl Ints w v past[k] → Does Tryz.prog 113 [v] w (RetO w XR past[k]) := fun k hk w v h => l11Rows_ok w v _ h (hp _ (List.getElem_mem hk)).1 (hp _ (List.getElem_mem hk)).2
  refine fn_of_Wc Tryz.func60 rfl Tryz.results60 Tryz.ntmps60 rfl Ks Ko ?_
  focus
    refine Gq<|Vg rfl rfl rfl ?_; rintro b1 w1 hb1 E1 hB1; have hlb1 := hB1.lt; refine Zn rfl Vd ?_; rintro b2 w2 hb2 E2 hB2; have hlb2 := hB2.lt; have hs2 := E2.size; refine Gk<|Gq<|Zf Kr Ku rfl<|Vh u1 Kw (hB1.ext E2) rfl<|Gs rfl (Vl (a := u1) Tryz.call113 rfl) (k1 _ _ ((Mono.mono exq h1))) ?_; rintro u3 w3 ⟨E3, hO1⟩; have ichO1 := OwnedB.isC (Owned.toB hO1); have hs3 := E3.size; refine Wo rfl (opv_buildF0 Vd rfl (OwnedB.isC hO1.toB))<|Zn rfl Vd ?_; rintro b3 w4 hb3 E4 hB3; have hlb3 := hB3.lt; have hs4 := E4.size; refine Yp rfl Ko rfl rfl Ke Ke hB3 Ka (((E1.trans E2).trans E3).trans E4) ?_; rintro w5 E5 hB3 K1 hz1
    have E6 := ((E2.trans E3).trans E4).wroteAt exq E5 K1 hz1 Ka; have szE6 := E6.size; have E7 := (E3.trans E4).wroteAt exq E5 K1 hz1 Ka; have szE7 := E7.size; have E8 := E4.wroteAt exq E5 K1 hz1 Ka; simp only [List.set] at hB3; have hB1 := (hB1.ext exq).of_heap (K1 _ Ka); have hB2 := (hB2.ext exq).of_heap (K1 _ Ka); have hO1 := (hO1.toB.ext E4).wrote K1 Ka; refine Gk<|Gp<|Gq<|Zp rfl<|Gk<|Gv ?_
  have hO0 : Owned w4.heap.size (XSl 23 XR) w5 (.slice none 0 0) ([] : List (List (List Int))) := Owned.nil
  have hN := hO1
  clear hO1 hB1 hB2 k1
  refine Zy [4, 9, 10, 11, 12, 13, 14, 15, 16, 17, 18, 19, 20, 21, 22, 23, 24, 25, 26] (fun ((k, u) : Nat × Value) => [(4, .int .i64 (k : Nat))]) (fun (k, u) w' => Ext w3 w' ∧ k ≤ past.length ∧ w4.heap.size ≤ w'.heap.size ∧ Blk w' b3 [u3, u] ∧ Owned w4.heap.size (XSl 23 XR) w' u (past.take k) ∧ OwnedB w2.heap.size w3.heap.size XR w' u3 now) (fun x => past.length - x.1) (0, .slice none 0 0) Kg ?_ ?_
  · exact ⟨by exact E8, Nat.zero_le _, Ka, hB3, by simpa using hO0, hN⟩
  clear hO0 hB3 hN
  rintro ⟨k, u⟩ ρj w6 ⟨E6, hk, hsz, hB4, hO1, hN⟩
  have icu : isCell u = true := OwnedB.isC hO1.toB
  have hlt' : (past.take k).length = k := by simp; omega
  by_cases hlt : k < past.length
  · have k2k := k2 k hlt
    have ht := Vb _ _ hlt
    have heldS : w = w := rfl
    focus
      have szE5 := E5.size; have szE4 := E4.size; refine Gp<|Gp<|Zj<|Gw rfl<|Zf Kr Kv rfl<|Vh u2 Jc (hB1.ext exq) rfl<|Ze Ja rfl h2<|Zk rfl<|Gk<|Gl rfl (fun h3 => ?_) (fun h3 => ?_); refine Gx<|Gp<|Gv<|Un (fun w' => Ext w w') Yg rfl Kb ?_; intro w7 E9 K2 hz2; have hs5 := E9.size; refine Qf 0 Kr Kv rfl rfl exq<|Qf 2 Kr Kv rfl rfl exq<|WtmI 4 rfl rfl exq<|Wha [1, 3]<|Gm rfl ?_ ?_; refine Vh u Jc (hB4.ext E9) rfl<|Gk ?_; refine ⟨exq, ?_⟩; refine Wha [3]<|Gm rfl ?_ ?_; refine Vh u2 Jc (hB1.ext exq) rfl<|Gk ?_; refine ⟨exq, ?_⟩
      refine Wh_get 5 6 rfl Kb Kb rfl rfl Kb Kb (fun _ => rfl) Ja Ku Kw rfl h2 (fun w' hw' => Ext.trans (Ext.refl _) hw') rfl Kf exq ?_; rintro _ u4 hu1; refine Wha [7]<|Gm rfl ?_ ?_; refine Gs rfl (Vl (a := u4) Tryz.call113 rfl) (k2k _ _ ((Mono.mono exq hu1))) ?_; rintro u5 w8 ⟨E10, hO2⟩; have hs6 := E10.size; refine Gk ?_; refine ⟨exq, ?_⟩; refine Wha [8]<|Gm rfl ?_ ?_; refine Yd rfl Ja Ku Jp rfl (OwnedB.isC hO2.toB) rfl ?_; rintro b4 w9 hb4 E11 hB5 hHb4; have hlb4 := hB5.lt; have hs7 := E11.size; refine Gk ?_; refine ⟨exq, ?_⟩; refine Wha [9]<|Gm rfl ?_ ?_
      refine Vv rfl el24 rfl rfl hB5 (hO1.toB.ext ((E9.trans E10).trans E11)) (hO2.toB.ext E11).o Ka Kf Ka Ka ((((((E1.trans E2).trans E3).trans E6).trans E9).trans E10).trans E11) Ka ?_; have hT1 := (hO1.toB.ext ((E9.trans E10).trans E11)); rintro v1 w10 hO1 E12 M1; have E15 := M1.ext hT1 (((E6.trans E9).trans E10).trans E11) Ka; have hB4 := (hB4.ext exq).moves M1 hT1 Ka; have hN := (hN.ext exq).moves M1 hT1 Ka; have szM1 := M1.1.size; refine Gk ?_; refine ⟨E12, ?_⟩; refine Qf 10 Kr Kv rfl rfl E12<|Wha [11]<|Gm rfl ?_ ?_; refine Ye (v := v1) rfl Kv rfl rfl (OwnedB.isC hO1.toB) hB4 Ki Ka E12 ?_; rintro w11 E16 hB4 K3 hz3; have E19 := E15.wroteAt E12 E16 K3 hz3 Ka; simp only [List.set] at hB4; have hO1 := hO1.toB.wrote K3 Ka
      have hN := hN.wrote K3 Ka; refine Gk ?_; refine ⟨E16, ?_⟩; refine Va Kb ?_; refine Zj<|Gw rfl<|Zt rfl<|Zp rfl<|Gk ?_; rotate_left; exact Gt; exact Gt; exact Gt; exact Gt; exact Gt; refine Gm rfl ?_ ?_; refine Vh u2 Jc (hB1.ext exq) rfl<|Gk ?_; refine ⟨exq, ?_⟩; refine Wh_get 5 6 rfl Kb Kb rfl rfl Kb Kb (fun _ => rfl) Ja Ku Kw rfl h2 (fun w' hw' => Ext.trans (Ext.refl _) hw') rfl Kf exq ?_; rintro _ u4 hu1; refine Wha [1, 7]<|Gm rfl ?_ ?_; refine Vh u Jc (hB4.ext E9) rfl<|Gk ?_; refine ⟨exq, ?_⟩; refine Wha [7]<|Gm rfl ?_ ?_
      refine Gs rfl (Vl (a := u4) Tryz.call113 rfl) (k2k _ _ ((Mono.mono exq hu1))) ?_; rintro u5 w8 ⟨E10, hO2⟩; have hs6 := E10.size; refine Gk ?_; refine ⟨exq, ?_⟩; refine Wha [8]<|Gm rfl ?_ ?_; refine Yd rfl Ja Ku Jp rfl (OwnedB.isC hO2.toB) rfl ?_; rintro b4 w9 hb4 E11 hB5 hHb4; have hlb4 := hB5.lt; have hs7 := E11.size; refine Gk ?_; refine ⟨exq, ?_⟩; refine Wha [9]<|Gm rfl ?_ ?_; refine Vv rfl el24 rfl rfl hB5 (hO1.toB.ext ((E9.trans E10).trans E11)) (hO2.toB.ext E11).o Ka Kf Ka Ka ((((((E1.trans E2).trans E3).trans E6).trans E9).trans E10).trans E11) Ka ?_; have hT1 := (hO1.toB.ext ((E9.trans E10).trans E11)); rintro v1 w10 hO1 E12 M1; have E15 := M1.ext hT1 (((E6.trans E9).trans E10).trans E11) Ka
      have hB4 := (hB4.ext exq).moves M1 hT1 Ka; have hN := (hN.ext exq).moves M1 hT1 Ka; have szM1 := M1.1.size; refine Gk ?_; refine ⟨E12, ?_⟩; refine Qf 10 Kr Kv rfl rfl E12<|Wha [11]<|Gm rfl ?_ ?_; refine Ye (v := v1) rfl Kv rfl rfl (OwnedB.isC hO1.toB) hB4 Ki Ka E12 ?_; rintro w11 E16 hB4 K3 hz3; have E19 := E15.wroteAt E12 E16 K3 hz3 Ka; simp only [List.set] at hB4; have hO1 := hO1.toB.wrote K3 Ka; have hN := hN.wrote K3 Ka; refine Gk ?_; refine ⟨E16, ?_⟩; refine Va Kb ?_; refine Zj<|Gw rfl<|Zt rfl<|Zp rfl<|Gk ?_; rotate_left; exact Gt; exact Gt; exact Gt; exact Gt; refine Gm rfl ?_ ?_
      refine Gs rfl (Vl (a := u4) Tryz.call113 rfl) (k2k _ _ ((Mono.mono exq hu1))) ?_; rintro u5 w8 ⟨E10, hO2⟩; have hs6 := E10.size; refine Gk ?_; refine ⟨exq, ?_⟩; refine Wha [1, 8]<|Gm rfl ?_ ?_; refine Vh u Jc (hB4.ext exq) rfl<|Gk ?_; refine ⟨exq, ?_⟩; refine Wha [8]<|Gm rfl ?_ ?_; refine Yd rfl Ja Ku Jp rfl (OwnedB.isC hO2.toB) rfl ?_; rintro b4 w9 hb4 E11 hB5 hHb4; have hlb4 := hB5.lt; have hs7 := E11.size; refine Gk ?_; refine ⟨exq, ?_⟩; refine Wha [9]<|Gm rfl ?_ ?_; refine Vv rfl el24 rfl rfl hB5 (hO1.toB.ext ((E9.trans E10).trans E11)) (hO2.toB.ext E11).o Ka Kf Ka Ka ((((((E1.trans E2).trans E3).trans E6).trans E9).trans E10).trans E11) Ka ?_
      have hT1 := (hO1.toB.ext ((E9.trans E10).trans E11)); rintro v1 w10 hO1 E12 M1; have E15 := M1.ext hT1 (((E6.trans E9).trans E10).trans E11) Ka; have hB4 := (hB4.ext exq).moves M1 hT1 Ka; have hN := (hN.ext exq).moves M1 hT1 Ka; have szM1 := M1.1.size; refine Gk ?_; refine ⟨E12, ?_⟩; refine Qf 10 Kr Kv rfl rfl E12<|Wha [11]<|Gm rfl ?_ ?_; refine Ye (v := v1) rfl Kv rfl rfl (OwnedB.isC hO1.toB) hB4 Ki Ka E12 ?_; rintro w11 E16 hB4 K3 hz3; have E19 := E15.wroteAt E12 E16 K3 hz3 Ka; simp only [List.set] at hB4; have hO1 := hO1.toB.wrote K3 Ka; have hN := hN.wrote K3 Ka; refine Gk ?_; refine ⟨E16, ?_⟩; refine Va Kb ?_; refine Zj<|Gw rfl<|Zt rfl<|Zp rfl ?_
      refine Gk ?_; rotate_left; exact Gt; exact Gt; exact Gt; refine Gm rfl ?_ ?_; refine Yd rfl Ja Ku Jp rfl (OwnedB.isC hO2.toB) rfl ?_; rintro b4 w9 hb4 E11 hB5 hHb4; have hlb4 := hB5.lt; have hs7 := E11.size; refine Gk ?_; refine ⟨exq, ?_⟩; refine Wha [1]<|Gm rfl ?_ ?_; refine Vh u Jc (hB4.ext exq) rfl<|Gk ?_; refine ⟨exq, ?_⟩; refine Wha [9]<|Gm rfl ?_ ?_; refine Vv rfl el24 rfl rfl hB5 (hO1.toB.ext ((E9.trans E10).trans E11)) (hO2.toB.ext E11).o Ka Kf Ka Ka ((((((E1.trans E2).trans E3).trans E6).trans E9).trans E10).trans E11) Ka ?_; have hT1 := (hO1.toB.ext ((E9.trans E10).trans E11)); rintro v1 w10 hO1 E12 M1; have E15 := M1.ext hT1 (((E6.trans E9).trans E10).trans E11) Ka
      have hB4 := (hB4.ext exq).moves M1 hT1 Ka; have hN := (hN.ext exq).moves M1 hT1 Ka; have szM1 := M1.1.size; refine Gk ?_; refine ⟨E12, ?_⟩; refine Qf 10 Kr Kv rfl rfl E12<|Wha [11]<|Gm rfl ?_ ?_; refine Ye (v := v1) rfl Kv rfl rfl (OwnedB.isC hO1.toB) hB4 Ki Ka E12 ?_; rintro w11 E16 hB4 K3 hz3; have E19 := E15.wroteAt E12 E16 K3 hz3 Ka; simp only [List.set] at hB4; have hO1 := hO1.toB.wrote K3 Ka; have hN := hN.wrote K3 Ka; refine Gk ?_; refine ⟨E16, ?_⟩; refine Va Kb ?_; refine Zj<|Gw rfl<|Zt rfl<|Zp rfl<|Gk ?_; rotate_left; exact Gt; exact Gt; exact Gt; exact Gt; exact Gt; exact Gt; (exfalso; omega)
    · refine ⟨((k + 1, v1)), Kg, Kh, ?_, ?_⟩
      · refine ⟨by exact E19, Ka, Ka, hB4, ?_, hN⟩
        rw [ht]; exact hO1.o
      · simp only; omega
    · refine ⟨((k + 1, v1)), Kg, Kh, ?_, ?_⟩
      · refine ⟨by exact E19, Ka, Ka, hB4, ?_, hN⟩
        rw [ht]; exact hO1.o
      · simp only; omega
    · refine ⟨((k + 1, v1)), Kg, Kh, ?_, ?_⟩
      · refine ⟨by exact E19, Ka, Ka, hB4, ?_, hN⟩
        rw [ht]; exact hO1.o
      · simp only; omega
    · refine ⟨((k + 1, v1)), Kg, Kh, ?_, ?_⟩
      · refine ⟨by exact E19, Ka, Ka, hB4, ?_, hN⟩
        rw [ht]; exact hO1.o
      · simp only; omega
  · obtain rfl : k = past.length := by omega
    rw [List.take_length] at hO1
    focus
      have szE6 := E6.size; have szE4 := E4.size; refine Gp<|Gp<|Zj<|Gw rfl<|Zf Kr Kv rfl<|Vh u2 Jc (hB1.ext exq) rfl<|Ze Ja rfl h2<|Zk rfl<|Gk<|Gl rfl (fun h3 => ?_) (fun h3 => ?_); (exfalso; omega); refine Zu ?_; refine Za ?_; refine Gq<|Vs Ks Ko hB4 rfl<|Yp rfl Ko rfl rfl Ke Ke (hB2.ext (E3.trans E6)) Ka (((E1.trans E2).trans E3).trans E6) ?_; rintro w7 E9 hB2 K2 hz2; have hN := hN.wrote K2 Ka; have hO1 := hO1.toB.wrote K2 Ka; refine Gk<|Zi ?_
    refine ⟨b2, u3, u, rfl, Kd, u3, u, w3.heap.size, rfl, by exact E9, ?_, hO1.o.mono Ka, Ka, Ka⟩
    exact hN.wide Ka (Nat.le_refl _)
end Go.Proofs.YtbgpppaljpngmaaGreatDoor
namespace Go.Proofs.YtbgpppaljpngmaaGreatDoor
open Go.Hs
set_option maxRecDepth 10000
set_option maxHeartbeats 4000000
set_option linter.unusedVariables false
set_option linter.unusedSimpArgs false
theorem spec_ReadPicture_ok (w : World) (s : List UInt8) (hs : s.length ≤ 1048576) : Does Tryz.prog 122 [str s] w (RetOB w XR ((rdP s).getD []) (rdP s).isSome) := by
  obtain ⟨ps, hps⟩ : ∃ ps, ps = cutB 47 s := ⟨_, rfl⟩
  have k1 : ∀ w, Does Tryz.prog 70 [str s, .int .u8 47] w (RetO w XS ps) := fun w => hps ▸ l1Cut_ok w s 47 hs
  have hpl : ps.length ≤ 1048577 := by rw [hps, cutB_len]; have := List.count_le_length (a := (47 : UInt8)) (l := s); omega
  have hpe : ∀ (k : Nat) (hk : k < ps.length), ps[k].length ≤ 1048576 := fun k hk => by
    have : ps[k] ∈ cutB 47 s := hps ▸ List.getElem_mem hk
    have := Ry s.length s (Nat.le_refl _) _ this; omega
  refine Ub Tryz.func122 rfl Tryz.results122 Tryz.ntmps122 rfl ?_
  focus
    refine Gq<|Vk rfl<|Zg rfl<|Gk<|Gq<|Vq (XSl 3 XInt) rfl Xn Kt ?_; rintro b1 w1 hb1 b1lt E1 hO1; refine Vk rfl<|Gk<|Gq<|Ri rfl<|Gs rfl (Zv (a := .string _) (b := .int _ _) Tryz.call70 rfl rfl) (k1 _) ?_; rintro u1 w2 ⟨E2, hO2⟩; refine Vj u1 rfl<|Gk<|Gp<|Gq<|Zp rfl<|Gk<|Gv ?_
  have hBe : Besides (Value.ownBlock (.slice (some ⟨b1, 0, none⟩) 0 0)) Strs w2 u1 ps := Besides.start hO1 hO2.above
  refine Zy [2, 3, 4, 6, 7, 8, 9, 13, 14, 15, 16, 17, 18, 19, 20, 21, 22, 23, 24, 25, 26, 27, 28, 29, 30, 31, 32, 33, 34, 35, 36, 37, 38, 39, 40, 41, 42, 43, 44, 45, 46, 47, 48, 49, 50, 51, 52] (fun (k, u) => [(6, .int .i64 (k : Nat)), (4, u)]) (fun (k, u) w' => Ext w w' ∧ k ≤ ps.length ∧ Owned w.heap.size XR w' u ((ps.take k).map (rowB ps.length)) ∧ Besides u.ownBlock Strs w' u1 ps ∧ ∀ x ∈ ps.take k, inR ps.length x) (fun x => ps.length - x.1) (0, .slice (some ⟨b1, 0, none⟩) 0 0) Kg ?_ ?_
  · exact ⟨E1.trans E2, Nat.zero_le _, hO1.ext E2, hBe, Ki⟩
  clear hO1 hO2 hBe
  rintro ⟨k, u⟩ ρj w3 ⟨E3, hk, hO3, hBe, hin⟩
  by_cases hkl : k < ps.length
  · have hpk := hpe k hkl
    focus
      have szE3 := E3.size; refine Gp<|Gq<|Gw rfl<|Gz u1 rfl<|Ze Jf rfl (Besides.here hBe)<|Zk rfl<|Gk<|Gl rfl (fun h1 => ?_) (fun h1 => ?_); refine Gx<|Gp<|Gv<|Gq<|Gz u1 rfl<|Ze Jf rfl (Besides.here hBe)<|Rg rfl Xk rfl Ka ?_; rintro b2 w4 hb2 b2lt E4 hO1; refine Vk rfl<|Gk<|Gp<|Gq<|Zp rfl<|Gk<|Gv ?_; rotate_left; (exfalso; omega)
    refine Zy [2, 3, 8, 9, 22, 23, 24, 25, 26, 27, 28, 29, 30, 31, 32, 33, 34, 35, 36, 37, 38, 39, 40, 41, 42, 43, 44, 45, 46, 47, 48] (fun (j : Nat) => [(8, .int .i64 (j : Nat))]) (fun j w' => Ext w3 w' ∧ j ≤ ps[k].length ∧ Owned w3.heap.size XI w' (.slice (some ⟨b2, 0, none⟩) ps.length ps.length) (rowB ps.length (ps[k].take j)) ∧ inR ps.length (ps[k].take j)) (fun j => ps[k].length - j) 0 Kg ?_ ?_
    · refine ⟨Kd, Nat.zero_le _, ?_, fun c hc => by cases hc⟩
      rw [List.take_zero, rowB_nil]
      simpa using hO1
    clear hO1
    rintro j ρk w5 ⟨E5, hj, hO5, hir⟩
    have hrl : (rowB ps.length (ps[k].take j)).length = ps.length := Qv
    by_cases hjl : j < ps[k].length
    · have hc8 : (ps[k].getD j 0).toNat < 256 := UInt8.toNat_lt _
      have hcd : ps[k].getD j 0 = ps[k][j] := Zz hjl
      have hts : ps[k].take (j + 1) = ps[k].take j ++ [ps[k].getD j 0] := by rw [hcd]; exact List.take_succ_eq_append_getElem hjl
      have hmem : ps[k] ∈ cutB 47 s := hps ▸ List.getElem_mem hkl
      have hnl : (ps.length : Int) = (cutB 47 s).length := by rw [hps]
      by_cases hr : 48 ≤ (ps[k].getD j 0).toNat ∧ (ps[k].getD j 0).toNat < 48 + ps.length
      · focus
          have szE5 := E5.size; refine Gp<|Gq<|Gw rfl<|Gz u1 rfl<|Gw rfl<|Vc Jf Ky Jd rfl (fun _ => rfl) rfl (Besides.here hBe) E5 rfl Kf ?_; rintro _ _ ⟨rfl, -⟩; refine Wo rfl (Qw Js rfl)<|Zk rfl<|Gk<|Gl rfl (fun h2 => ?_) (fun h2 => ?_); refine Gx<|Gp<|Gv<|Gq<|Gz u1 rfl<|Gw rfl<|Vc Jf Ky Jd rfl (fun _ => rfl) rfl (Besides.here hBe) E5 rfl Kf ?_; rintro _ _ ⟨rfl, -⟩; refine Gw rfl<|Wo rfl (Us Js rfl rfl Ka) ?_; refine Wo rfl (Ud Jv Ge rfl Ka) ?_; refine Uu rfl<|Zp rfl<|Gk<|Gp<|Gq<|Gw rfl<|Gz u1 rfl ?_
          refine Ze Jf rfl (Besides.here hBe)<|Uu rfl<|Gs rfl (opc3 (a := .int _ _) (b := .int _ _) (c := .int _ _) Jr rfl rfl rfl) (Uv _ _ _ _) ?_; rintro _ w6 ⟨rfl, E6⟩; refine Vn rfl<|Gk<|Vi rfl (fun h3 => ?_) (fun h3 => ?_); (exfalso; omega); refine Gx<|Zj<|Yw rfl<|Gw rfl<|Wo rfl (Yk Km Kl rfl rfl Ka) ?_; refine Wo_set rfl Kl rfl rfl (hO5.toB.ext E6) Kf Owned.int (Nat.le_refl _) Ka ?_; rintro w7 hO5 On1 K1 hz1; have E7 := On1.ext1 ((E3.trans E5).trans E6) Ka; have E8 := On1.ext1 (E5.trans E6) Ka; have szE8 := E8.size; have hO3 := (hO3.toB.ext exq).wrote K1 Ka; have hs5 := On1.size; refine Gk<|Zj<|Gw rfl<|Zt rfl<|Zp rfl<|Gk ?_; rotate_left
          (exfalso; omega)
        · refine ⟨(j + 1), Kg, Kh, ?_, ?_⟩
          · refine ⟨Kd, Ka, ?_, ?_⟩
            · rw [rowB_set (c := ps[k].getD j 0) Ka Ka, ← hts] at hO5
              exact hO5
            · rw [hts]
              intro c hc
              rcases List.mem_append.1 hc with hc | hc
              · exact hir c hc
              · obtain rfl := List.mem_singleton.1 hc; exact hr
          · omega
        all_goals omega
      · rw [rd_no1 hmem (List.getElem_mem hjl) (fun h => hr (by rw [hcd]; omega))]
        focus
          have szE5 := E5.size; refine Gp<|Gq<|Gw rfl<|Gz u1 rfl<|Gw rfl<|Vc Jf Ky Jd rfl (fun _ => rfl) rfl (Besides.here hBe) E5 rfl Kf ?_; rintro _ _ ⟨rfl, -⟩; refine Wo rfl (Qw Js rfl)<|Zk rfl<|Gk<|Gl rfl (fun h2 => ?_) (fun h2 => ?_); refine Gx<|Gp<|Gv<|Gq<|Gz u1 rfl<|Gw rfl<|Vc Jf Ky Jd rfl (fun _ => rfl) rfl (Besides.here hBe) E5 rfl Kf ?_; rintro _ _ ⟨rfl, -⟩; refine Gw rfl<|Wo rfl (Us Js rfl rfl Ka) ?_; refine Wo rfl (Ud Jv Ge rfl Ka) ?_; refine Uu rfl<|Zp rfl<|Gk<|Gp<|Gq<|Gw rfl<|Gz u1 rfl ?_
          refine Ze Jf rfl (Besides.here hBe)<|Uu rfl<|Gs rfl (opc3 (a := .int _ _) (b := .int _ _) (c := .int _ _) Jr rfl rfl rfl) (Uv _ _ _ _) ?_; rintro _ w6 ⟨rfl, E6⟩; have hs4 := E6.size; refine Vn rfl<|Gk<|Vi rfl (fun h3 => ?_) (fun h3 => ?_); refine Gq<|Vq (XSl 3 XInt) rfl Xn Kt ?_; rintro b3 w7 hb3 b3lt E7 hO1; refine Vk rfl<|Zg rfl<|Gk<|Zi ?_; refine Zl (v := .tuple #[.slice _ _ _, .bool _]) rfl ?_; exact ⟨_, rfl, exq, hO1.toB.o.mono Ka⟩; (exfalso; omega); (exfalso; omega)
        all_goals omega
    · obtain rfl : j = ps[k].length := by omega
      rw [List.take_length] at hO5 hir
      focus
        have szE5 := E5.size; have szE3 := E3.size; refine Gp<|Gq<|Gw rfl<|Gz u1 rfl<|Gw rfl<|Vc Jf Ky Jd rfl (fun _ => rfl) rfl (Besides.here hBe) E5 rfl Kf ?_; rintro _ _ ⟨rfl, -⟩; refine Wo rfl (Qw Js rfl)<|Zk rfl<|Gk<|Gl rfl (fun h2 => ?_) (fun h2 => ?_); (exfalso; omega); refine Zu ?_; refine Za ?_; refine Zj<|Gz u rfl<|Yw rfl<|Vt (ps := [(0, .slice _ _ _)]) (cs := [_]) rfl Kp Kt Ji rfl rfl rfl rfl ?_; rintro b3 w6 hb3 E6 hB1; have hs4 := E6.size; refine Vv rfl Xn rfl rfl hB1 (hO3.toB.ext (E5.trans E6)) (hO5.toB.ext E6).o Ka Kf Ka Ka ((E3.trans E5).trans E6) Ka ?_
        rintro v1 w7 hO3 E7 M1; have hBe := (hBe.ext exq).moves M1; refine Wo rfl (Vz (v := v1) rfl)<|Gk<|Yx rfl<|Wo rfl (Zq (v := .int _ _) rfl)<|Wo rfl (Yb rfl rfl Ka) ?_; refine Wo rfl (Vz (v := .int _ _) rfl)<|Gk ?_
      refine ⟨((k + 1, v1)), Kg, Kh, ?_, ?_⟩
      · have hts : ps.take (k + 1) = ps.take k ++ [ps[k]] := List.take_succ_eq_append_getElem hkl
        refine ⟨Kd, Ka, ?_, Kd, ?_⟩
        · rw [hts, List.map_append]; exact hO3
        · rw [hts]
          intro x hx
          rcases List.mem_append.1 hx with hx | hx
          · exact hin x hx
          · obtain rfl := List.mem_singleton.1 hx; exact hir
      · simp only; omega
  · obtain rfl : k = ps.length := by omega
    have eM : ps.map (rowB ps.length) = rdM s := by rw [hps]; rfl
    rw [List.take_length, eM] at hO3
    clear k1
    by_cases hP : Pic (rdM s)
    · by_cases hT : txt (rdM s) = s
      · rw [rd_yes hP hT]
        have k2 : ∀ w v, ESl Ints w v (rdM s) → Does Tryz.prog 115 [v] w (Ret w (.bool true)) := fun w v h => by
          have := Yr w v _ h
          rwa [decide_eq_true hP] at this
        have k3 : ∀ w v, ESl Ints w v (rdM s) → Does Tryz.prog 62 [v] w (Ret w (str s)) := fun w v h => by
          have := Yf w v _ h
          rwa [if_pos hP, hT] at this
        focus
          refine Gp<|Gq<|Gw rfl<|Gz u1 rfl<|Ze Jf rfl (Besides.here hBe)<|Zk rfl<|Gk<|Gl rfl (fun h1 => ?_) (fun h1 => ?_); (exfalso; omega); refine Zu ?_; refine Za ?_; refine Gp<|Gq<|Gz u rfl<|Gs rfl (Vl (a := u) Jo rfl) (k2 _ _ ((Owned.read hO3))) ?_; rintro _ w4 ⟨rfl, E4⟩; refine Vn rfl<|Vr rfl (Zq (v := .bool _) rfl) (fun h2 => ?_) (fun h2 => ?_); contradiction; refine Gz u rfl<|Gs rfl (Vl (a := u) Jh rfl) (k3 _ _ ((Mono.mono E4 (Owned.read hO3)))) ?_; rintro _ w5 ⟨rfl, E5⟩; refine Ri rfl<|Wo rfl (Xu rfl rfl)<|Ve rfl<|Gk<|Vi rfl (fun h3 => ?_) (fun h3 => ?_); contradiction; refine Gx<|Gq<|Gz u rfl<|Vj u rfl<|Zg rfl<|Gk<|Zi ?_; refine Zl (v := .tuple #[u, .bool _]) rfl ?_
          exact ⟨_, rfl, exq, (hO3.toB.ext exq).o.mono Ka⟩
      · rw [rd_no3 hT]
        have k2 : ∀ w v, ESl Ints w v (rdM s) → Does Tryz.prog 115 [v] w (Ret w (.bool true)) := fun w v h => by
          have := Yr w v _ h
          rwa [decide_eq_true hP] at this
        have k3 : ∀ w v, ESl Ints w v (rdM s) → Does Tryz.prog 62 [v] w (Ret w (str (txt (rdM s)))) := fun w v h => by
          have := Yf w v _ h
          rwa [if_pos hP] at this
        focus
          have szE3 := E3.size; refine Gp<|Gq<|Gw rfl<|Gz u1 rfl<|Ze Jf rfl (Besides.here hBe)<|Zk rfl<|Gk<|Gl rfl (fun h1 => ?_) (fun h1 => ?_); (exfalso; omega); refine Zu ?_; refine Za ?_; refine Gp<|Gq<|Gz u rfl<|Gs rfl (Vl (a := u) Jo rfl) (k2 _ _ ((Owned.read hO3))) ?_; rintro _ w4 ⟨rfl, E4⟩; have hs3 := E4.size; refine Vn rfl<|Vr rfl (Zq (v := .bool _) rfl) (fun h2 => ?_) (fun h2 => ?_); contradiction; refine Gz u rfl<|Gs rfl (Vl (a := u) Jh rfl) (k3 _ _ ((Mono.mono E4 (Owned.read hO3)))) ?_; rintro _ w5 ⟨rfl, E5⟩; have hs4 := E5.size; refine Ri rfl<|Wo rfl (Xu rfl rfl)<|Ve rfl<|Gk<|Vi rfl (fun h3 => ?_) (fun h3 => ?_); refine Gq<|Vq (XSl 3 XInt) rfl Xn Kt ?_
          rintro b2 w6 hb2 b2lt E6 hO1; refine Vk rfl<|Zg rfl<|Gk<|Zi ?_; refine Zl (v := .tuple #[.slice _ _ _, .bool _]) rfl ?_; exact ⟨_, rfl, exq, hO1.toB.o.mono Ka⟩; contradiction
    · rw [rd_no2 hP]
      have k2 : ∀ w v, ESl Ints w v (rdM s) → Does Tryz.prog 115 [v] w (Ret w (.bool false)) := fun w v h => by
        have := Yr w v _ h
        rwa [decide_eq_false hP] at this
      focus
        have szE3 := E3.size; refine Gp<|Gq<|Gw rfl<|Gz u1 rfl<|Ze Jf rfl (Besides.here hBe)<|Zk rfl<|Gk<|Gl rfl (fun h1 => ?_) (fun h1 => ?_); (exfalso; omega); refine Zu ?_; refine Za ?_; refine Gp<|Gq<|Gz u rfl<|Gs rfl (Vl (a := u) Jo rfl) (k2 _ _ ((Owned.read hO3))) ?_; rintro _ w4 ⟨rfl, E4⟩; have hs3 := E4.size; refine Vn rfl<|Vr rfl (Zq (v := .bool _) rfl) (fun h2 => ?_) (fun h2 => ?_); refine Gn rfl<|Gn rfl<|Gn rfl<|Gn rfl<|Yc rfl<|Gk<|Vp rfl ?_; refine Gq<|Vq (XSl 3 XInt) rfl Xn Kt ?_; rintro b2 w5 hb2 b2lt E5 hO1; refine Vk rfl<|Zg rfl<|Gk<|Zi ?_; refine Zl (v := .tuple #[.slice _ _ _, .bool _]) rfl ?_; exact ⟨_, rfl, exq, hO1.toB.o.mono Ka⟩; contradiction
end Go.Proofs.YtbgpppaljpngmaaGreatDoor
namespace Go.Proofs.YtbgpppaljpngmaaGreatDoor
open Go.Hs
set_option maxRecDepth 10000
set_option maxHeartbeats 4000000
set_option linter.unusedVariables false
set_option linter.unusedSimpArgs false
theorem Vy : Flat Tryz.prog 48 [.int .i64 0, str [], .int .i64 0] := ⟨_, Tryz.underlying48, fun _ => Kb, fun _ => Kb⟩
theorem Qn {ρ : Env} {w : World} {x y : Operand} {t' ty : TypeId} {k n k' n' : Int} {a b : List UInt8} (hx : evalE ρ x = .agg #[.int .i64 k, str a, .int .i64 n]) (hy : evalE ρ y = .agg #[.int .i64 k', str b, .int .i64 n']) :
    OpV Tryz.prog (.binOp .eql 48 x y t') ty ρ w (.bool (decide ((⟨k, a, n⟩ : Deed) = ⟨k', b, n'⟩))) := by
  have u3 := Tryz.underlying3
  have a3 := Tryz.isAgg3
  have z3 := Tryz.sizeOf3
  have u9 := Tryz.underlying9
  have a9 := Tryz.isAgg9
  have z9 := Tryz.sizeOf9
  have hS : Tryz.prog.underlying 48 = some (.struct (Tryz.prog.fieldsOf 48)) := Kb
  have hp : Tryz.prog.stoodInHeld 48 = false := Kb
  have hg : Tryz.prog.eqGuardType Tryz.prog.depth 48 = false := Kb
  have e : ((binOp .eql 48 (.agg #[.int .i64 k, str a, .int .i64 n]) (.agg #[.int .i64 k', str b, .int .i64 n'])).run Tryz.prog w) = .ok (.bool (decide ((⟨k, a, n⟩ : Deed) = ⟨k', b, n'⟩))) w := by
    rw [run_eql_struct, show (10000 : Nat) = 9999 + 1 from rfl, run_equalIn_agg w 9999 48 _ _ hS hp]
    simp only [Program.fieldsOf, Tryz.underlying48]
    go_simp
    by_cases h1 : k = k' <;> by_cases h2 : a = b <;> by_cases h3 : n = n' <;> simp [h1, h2, h3]
  simp [OpV, execOp, hx, hy, run_eqGuard_agg, hg, e]
end Go.Proofs.YtbgpppaljpngmaaGreatDoor
namespace Go.Proofs.YtbgpppaljpngmaaGreatDoor
open Go.Hs
set_option maxRecDepth 10000
set_option maxHeartbeats 4000000
set_option linter.unusedVariables false
set_option linter.unusedSimpArgs false
open Classical in
theorem l11Made_ok (w : World) (v : Value) (p : List (List Int)) (h : ESl Ints w v p) (hp : Pic p) (k n : Int) (t : List UInt8) (ht : t.length ≤ 1048576) :
    Does Tryz.prog 93 [v, .agg #[.int .i64 k, str t, .int .i64 n]] w (RetOB w XR (og (madeV p ⟨k, t, n⟩)) (madeV p ⟨k, t, n⟩).isSome) := by
  have hle := h.le
  have hp1 := hp.1
  have hp5 := hp.2.1
  have hN : Nod p (0 : Nat) := ⟨hp, Kc, Ka⟩
  obtain ⟨Q, hQ⟩ : ∃ Q, Q = (rdP t).getD [] := ⟨_, rfl⟩
  obtain ⟨B, hB⟩ : ∃ B, B = (rdP t).isSome := ⟨_, rfl⟩
  obtain ⟨M, hM⟩ : ∃ M, M = madeV p ⟨k, t, n⟩ := ⟨_, rfl⟩
  rw [← hM]
  have k0 : ∀ w, Does Tryz.prog 122 [str t] w (RetOB w XR Q B) := fun w => hQ ▸ hB ▸ spec_ReadPicture_ok w t ht
  refine Ub Tryz.func93 rfl Tryz.results93 Tryz.ntmps93 rfl ?_
  by_cases e0 : k = 0
  · subst e0
    by_cases e : t = [] ∧ n = 0
    · obtain ⟨rfl, rfl⟩ := e
      have hm : M = pairV p 0 p 0 := hM.trans (by simp [madeV])
      rw [hm]
      have k1 : ∀ (w : World) (v u : Value), ESl Ints w v p → ESl Ints w u p → Does Tryz.prog 141 [v, .int .i64 0, u, .int .i64 0] w (RetOB w XR (og (pairV p 0 p 0)) (pairV p 0 p 0).isSome) := fun w v u h1 h2 => PairOf_ok w v u p p h1 h2 0 0 hN hN
      focus
        refine Gq<|Vg rfl rfl rfl ?_; rintro b1 w1 hb1 E1 hB1; have hlb1 := hB1.lt; refine Vk rfl<|Zg rfl<|Gk<|Gq<|Zf Kq Ky rfl<|Xp Jd hB1 rfl<|Gs rfl (Vl (a := .string _) Jm rfl) (k0 _) ?_; rintro _ w2 ⟨u1, rfl, E2, hO1⟩; have hs2 := E2.size; refine Xl rfl<|Xh u1 rfl<|Xe rfl<|Vj u1 rfl<|Zg rfl<|Gk<|Gp<|Gv<|Gq<|Zf Kq Kl rfl<|Vm Kn (hB1.ext E2) rfl<|Zs rfl<|Zx rfl (fun h1 => ?_) (fun h1 => ?_); refine Zf Kq Ky rfl<|Xp Jd (hB1.ext E2) rfl<|Wo rfl (Xa rfl rfl)<|Yc rfl<|Zx rfl (fun h2 => ?_) (fun h2 => ?_); refine Zf Kq Kl rfl ?_
        refine Vm Kn (hB1.ext E2) rfl<|Zs rfl<|Yc rfl<|Zg rfl<|Gk<|Gl rfl (fun h3 => ?_) (fun h3 => ?_); refine Gq<|Gz v rfl<|Gz v rfl<|Gs rfl (Rv (a := v) (b := .int _ _) (c := v) (d := .int _ _) Tryz.call141 rfl rfl rfl rfl) (k1 _ _ _ ((Mono.mono exq h)) ((Mono.mono exq h))) ?_; rintro _ w3 ⟨u2, rfl, E3, hO2⟩; refine Xh u2 rfl<|Xe rfl<|Vj u2 rfl<|Zg rfl<|Gk<|Zi ?_; refine Zl (v := .tuple #[u2, .bool _]) rfl ?_; exact ⟨_, rfl, exq, hO2.toB.o.mono Ka⟩; contradiction; contradiction; contradiction
    · have hm : M = none := hM.trans (by simp only [madeV]; rw [if_neg (fun h => e ⟨h.2.1, h.2.2⟩), if_neg (fun h => absurd h.1 Kc), if_neg (fun h => absurd h.1 Kc), if_neg (fun h => absurd h.1 Kc)])
      rw [hm, show og none = [] from rfl, show (none : Option (List (List Int))).isSome = false from rfl]
      by_cases et : t = []
      · have en : ¬ n = 0 := fun h => e ⟨et, h⟩
        subst et
        focus
          refine Gq<|Vg rfl rfl rfl ?_; rintro b1 w1 hb1 E1 hB1; have hlb1 := hB1.lt; refine Vk rfl<|Zg rfl<|Gk<|Gq<|Zf Kq Ky rfl<|Xp Jd hB1 rfl<|Gs rfl (Vl (a := .string _) Jm rfl) (k0 _) ?_; rintro _ w2 ⟨u1, rfl, E2, hO1⟩; have hs2 := E2.size; refine Xl rfl<|Xh u1 rfl<|Xe rfl<|Vj u1 rfl<|Zg rfl<|Gk<|Gp<|Gv<|Gq<|Zf Kq Kl rfl<|Vm Kn (hB1.ext E2) rfl<|Zs rfl<|Zx rfl (fun h1 => ?_) (fun h1 => ?_); refine Zf Kq Ky rfl<|Xp Jd (hB1.ext E2) rfl<|Wo rfl (Xa rfl rfl)<|Yc rfl<|Zx rfl (fun h2 => ?_) (fun h2 => ?_); refine Zf Kq Kl rfl ?_
          refine Vm Kn (hB1.ext E2) rfl<|Zs rfl<|Yc rfl<|Zg rfl<|Gk<|Gl rfl (fun h3 => ?_) (fun h3 => ?_); contradiction; refine Gq<|Zf Kq Kl rfl<|Vm Kn (hB1.ext E2) rfl<|Zs rfl<|Zx rfl (fun h4 => ?_) (fun h4 => ?_); contradiction; refine Gn rfl<|Ve rfl<|Vx rfl<|Gn rfl<|Gn rfl<|Gn rfl<|Ve rfl<|Zg rfl<|Gk<|Zb rfl ?_; refine Gq<|Zf Kq Kl rfl<|Vm Kn (hB1.ext E2) rfl<|Zs rfl<|Zx rfl (fun h5 => ?_) (fun h5 => ?_); contradiction; refine Gn rfl<|Ve rfl<|Vx rfl<|Gn rfl<|Gn rfl<|Gn rfl<|Ve rfl<|Zg rfl<|Gk<|Zb rfl ?_
          refine Gp<|Yj Yg Kb rfl ?_; refine Yy Kq Kl rfl<|Ya (v := .int _ _) rfl (fun w' hw' => Zw Kn rfl (((hB1.ext E2).ext hw').cell rfl)) ?_; refine Ua rfl<|Xc rfl (fun h6 => ?_) (fun h6 => ?_); contradiction; refine Gu rfl<|Gu rfl<|Gu rfl<|Xx rfl<|Uh rfl<|Gu rfl<|Gu rfl<|Gu rfl<|Gu rfl<|Gu rfl<|Gu rfl<|Xx rfl<|Uh rfl<|Gu rfl<|Gu rfl<|Gu rfl<|Gu rfl<|Gu rfl<|Gu rfl<|Gu rfl<|Gu rfl<|Xx rfl<|WqaB rfl<|Yh (fun w3 E3 => ?_); have hs3 := E3.size; refine Zb rfl ?_; refine Gx<|Gq<|Vq (XSl 3 XInt) rfl Xn Kt ?_; rintro b2 w4 hb2 b2lt E4 hO2; refine Vk rfl<|Zg rfl<|Gk ?_
          refine Zi ?_; refine Zl (v := .tuple #[.slice _ _ _, .bool _]) rfl ?_; exact ⟨_, rfl, exq, hO2.toB.o.mono Ka⟩; contradiction; contradiction
      · focus
          refine Gq<|Vg rfl rfl rfl ?_; rintro b1 w1 hb1 E1 hB1; have hlb1 := hB1.lt; refine Vk rfl<|Zg rfl<|Gk<|Gq<|Zf Kq Ky rfl<|Xp Jd hB1 rfl<|Gs rfl (Vl (a := .string _) Jm rfl) (k0 _) ?_; rintro _ w2 ⟨u1, rfl, E2, hO1⟩; have hs2 := E2.size; refine Xl rfl<|Xh u1 rfl<|Xe rfl<|Vj u1 rfl<|Zg rfl<|Gk<|Gp<|Gv<|Gq<|Zf Kq Kl rfl<|Vm Kn (hB1.ext E2) rfl<|Zs rfl<|Zx rfl (fun h1 => ?_) (fun h1 => ?_); refine Zf Kq Ky rfl<|Xp Jd (hB1.ext E2) rfl<|Wo rfl (Xa rfl rfl)<|Yc rfl<|Zx rfl (fun h2 => ?_) (fun h2 => ?_); contradiction; refine Gn rfl<|Gn rfl<|Gn rfl ?_
          refine Ve rfl<|Zg rfl<|Gk<|Zb rfl ?_; refine Gq<|Zf Kq Kl rfl<|Vm Kn (hB1.ext E2) rfl<|Zs rfl<|Zx rfl (fun h3 => ?_) (fun h3 => ?_); contradiction; refine Gn rfl<|Ve rfl<|Vx rfl<|Gn rfl<|Gn rfl<|Gn rfl<|Ve rfl<|Zg rfl<|Gk<|Zb rfl ?_; refine Gq<|Zf Kq Kl rfl<|Vm Kn (hB1.ext E2) rfl<|Zs rfl<|Zx rfl (fun h4 => ?_) (fun h4 => ?_); contradiction; refine Gn rfl<|Ve rfl<|Vx rfl<|Gn rfl<|Gn rfl<|Gn rfl<|Ve rfl<|Zg rfl<|Gk<|Zb rfl ?_; refine Gp<|Yj Yg Kb rfl ?_; refine Yy Kq Kl rfl ?_
          refine Ya (v := .int _ _) rfl (fun w' hw' => Zw Kn rfl (((hB1.ext E2).ext hw').cell rfl)) ?_; refine Ua rfl<|Xc rfl (fun h5 => ?_) (fun h5 => ?_); contradiction; refine Gu rfl<|Gu rfl<|Gu rfl<|Xx rfl<|Uh rfl<|Gu rfl<|Gu rfl<|Gu rfl<|Gu rfl<|Gu rfl<|Gu rfl<|Xx rfl<|Uh rfl<|Gu rfl<|Gu rfl<|Gu rfl<|Gu rfl<|Gu rfl<|Gu rfl<|Gu rfl<|Gu rfl<|Xx rfl<|WqaB rfl<|Yh (fun w3 E3 => ?_); have hs3 := E3.size; refine Zb rfl ?_; refine Gx<|Gq<|Vq (XSl 3 XInt) rfl Xn Kt ?_; rintro b2 w4 hb2 b2lt E4 hO2; refine Vk rfl<|Zg rfl<|Gk ?_
          refine Zi ?_; refine Zl (v := .tuple #[.slice _ _ _, .bool _]) rfl ?_; exact ⟨_, rfl, exq, hO2.toB.o.mono Ka⟩; contradiction
  by_cases e1 : k = 1
  · subst e1
    by_cases en : n = 0
    · subst en
      have hm : M = (rdP t).bind fun q => (pairV q 0 q 0).bind fun s => togV p 0 s 0 := hM.trans (by simp only [madeV]; rw [if_neg (fun h => absurd h.1 Kc), if_pos Ki])
      cases hr : rdP t with
      | none =>
        rw [hr] at hm hB hQ
        rw [hm, show og (none.bind fun q => (pairV q 0 q 0).bind fun s => togV p 0 s 0) = [] from rfl, show (none.bind fun q => (pairV q 0 q 0).bind fun s => togV p 0 s 0).isSome = false from rfl]
        rw [hB, show (none : Option (List (List Int))).isSome = false from rfl] at k0
        focus
          refine Gq<|Vg rfl rfl rfl ?_; rintro b1 w1 hb1 E1 hB1; have hlb1 := hB1.lt; refine Vk rfl<|Zg rfl<|Gk<|Gq<|Zf Kq Ky rfl<|Xp Jd hB1 rfl<|Gs rfl (Vl (a := .string _) Jm rfl) (k0 _) ?_; rintro _ w2 ⟨u1, rfl, E2, hO1⟩; have hs2 := E2.size; refine Xl rfl<|Xh u1 rfl<|Xe rfl<|Vj u1 rfl<|Zg rfl<|Gk<|Gp<|Gv<|Gq<|Zf Kq Kl rfl<|Vm Kn (hB1.ext E2) rfl<|Zs rfl<|Zx rfl (fun h1 => ?_) (fun h1 => ?_); contradiction; refine Gn rfl<|Gn rfl<|Gn rfl<|Ve rfl<|Vx rfl<|Gn rfl<|Gn rfl<|Gn rfl<|Ve rfl<|Zg rfl<|Gk<|Zb rfl ?_; refine Gq ?_
          refine Zf Kq Kl rfl<|Vm Kn (hB1.ext E2) rfl<|Zs rfl<|Zx rfl (fun h2 => ?_) (fun h2 => ?_); refine Vx rfl<|Yc rfl<|Vx rfl<|Gn rfl<|Gn rfl<|Gn rfl<|Ve rfl<|Zg rfl<|Gk<|Zb rfl ?_; refine Gq<|Zf Kq Kl rfl<|Vm Kn (hB1.ext E2) rfl<|Zs rfl<|Zx rfl (fun h3 => ?_) (fun h3 => ?_); contradiction; refine Gn rfl<|Ve rfl<|Vx rfl<|Gn rfl<|Gn rfl<|Gn rfl<|Ve rfl<|Zg rfl<|Gk<|Zb rfl ?_; refine Gp<|Yj Yg Kb rfl ?_; refine Yy Kq Kl rfl<|Ya (v := .int _ _) rfl (fun w' hw' => Zw Kn rfl (((hB1.ext E2).ext hw').cell rfl)) ?_
          refine Ua rfl<|Xc rfl (fun h4 => ?_) (fun h4 => ?_); contradiction; refine Gu rfl<|Gu rfl<|Gu rfl<|Xx rfl<|Uh rfl<|Gu rfl<|Gu rfl<|Gu rfl<|Gu rfl<|Gu rfl<|Gu rfl<|Xx rfl<|Uh rfl<|Gu rfl<|Gu rfl<|Gu rfl<|Gu rfl<|Gu rfl<|Gu rfl<|Gu rfl<|Gu rfl<|Xx rfl<|WqaB rfl<|Yh (fun w3 E3 => ?_); have hs3 := E3.size; refine Zb rfl ?_; refine Gx<|Gq<|Vq (XSl 3 XInt) rfl Xn Kt ?_; rintro b2 w4 hb2 b2lt E4 hO2; refine Vk rfl<|Zg rfl<|Gk<|Zi ?_; refine Zl (v := .tuple #[.slice _ _ _, .bool _]) rfl ?_; exact ⟨_, rfl, exq, hO2.toB.o.mono Ka⟩; contradiction
      | some q =>
        rw [hr] at hm hB hQ
        rw [hB, hQ, show (some q).isSome = true from rfl, show (some q).getD [] = q from rfl] at k0
        have hq := (Rp hr).1
        have hNq : Nod q (0 : Nat) := ⟨hq, Kc, by have := hq.1; omega⟩
        have k1 : ∀ (w : World) (v u : Value), ESl Ints w v q → ESl Ints w u q → Does Tryz.prog 141 [v, .int .i64 0, u, .int .i64 0] w (RetOB w XR (og (pairV q 0 q 0)) (pairV q 0 q 0).isSome) := fun w v u h1 h2 => PairOf_ok w v u q q h1 h2 0 0 hNq hNq
        rw [hm, show ((some q).bind fun q => (pairV q 0 q 0).bind fun s => togV p 0 s 0) = (pairV q 0 q 0).bind fun s => togV p 0 s 0 from rfl]
        cases hs : pairV q 0 q 0 with
        | none =>
          rw [hs] at k1
          rw [show (none.bind fun s => togV p 0 s 0) = none from rfl]
          rw [show og none = [] from rfl, show (none : Option (List (List Int))).isSome = false from rfl] at k1 ⊢
          focus
            refine Gq<|Vg rfl rfl rfl ?_; rintro b1 w1 hb1 E1 hB1; have hlb1 := hB1.lt; refine Vk rfl<|Zg rfl<|Gk<|Gq<|Zf Kq Ky rfl<|Xp Jd hB1 rfl<|Gs rfl (Vl (a := .string _) Jm rfl) (k0 _) ?_; rintro _ w2 ⟨u1, rfl, E2, hO1⟩; have hs2 := E2.size; refine Xl rfl<|Xh u1 rfl<|Xe rfl<|Vj u1 rfl<|Zg rfl<|Gk<|Gp<|Gv<|Gq<|Zf Kq Kl rfl<|Vm Kn (hB1.ext E2) rfl<|Zs rfl<|Zx rfl (fun h1 => ?_) (fun h1 => ?_); contradiction; refine Gn rfl<|Gn rfl<|Gn rfl<|Ve rfl<|Vx rfl<|Gn rfl<|Gn rfl<|Gn rfl<|Ve rfl<|Zg rfl<|Gk<|Zb rfl ?_; refine Gq ?_
            refine Zf Kq Kl rfl<|Vm Kn (hB1.ext E2) rfl<|Zs rfl<|Zx rfl (fun h2 => ?_) (fun h2 => ?_); refine Vx rfl<|Yc rfl<|Vx rfl<|Zf Kq Kl rfl<|Vm Kn (hB1.ext E2) rfl<|Zs rfl<|Yc rfl<|Zg rfl<|Gk<|Gl rfl (fun h3 => ?_) (fun h3 => ?_); refine Gp<|Zj<|Gz u1 rfl<|Gz u1 rfl<|Gs rfl (Rv (a := u1) (b := .int _ _) (c := u1) (d := .int _ _) Tryz.call141 rfl rfl rfl rfl) (k1 _ _ _ ((Owned.read hO1)) ((Owned.read hO1))) ?_; rintro _ w3 ⟨u2, rfl, E3, hO2⟩; have hs3 := E3.size; refine Xl rfl<|Xh u2 rfl<|Xe rfl<|Vj u2 rfl<|Zg rfl<|Gk<|Gp<|Gq<|Vx rfl<|Vn rfl<|Gk ?_
            refine Vu rfl (fun h4 => ?_) (fun h4 => ?_); refine Gq<|Vq (XSl 3 XInt) rfl Xn Kt ?_; rintro b2 w4 hb2 b2lt E4 hO3; refine Vk rfl<|Zg rfl<|Gk<|Zi ?_; refine Zl (v := .tuple #[.slice _ _ _, .bool _]) rfl ?_; exact ⟨_, rfl, exq, hO3.toB.o.mono Ka⟩; contradiction; contradiction; contradiction
        | some s =>
          rw [hs] at k1
          rw [show ((some s).bind fun s => togV p 0 s 0) = togV p 0 s 0 from rfl]
          rw [show og (some s) = s from rfl, show (some s).isSome = true from rfl] at k1
          have hsp := (Rx hq hq hs).1
          have hNs : Nod s (0 : Nat) := ⟨hsp, Kc, by have := hsp.1; omega⟩
          have k2 : ∀ (w : World) (v u : Value), ESl Ints w v p → ESl Ints w u s → Does Tryz.prog 142 [v, .int .i64 0, u, .int .i64 0] w (RetOB w XR (og (togV p 0 s 0)) (togV p 0 s 0).isSome) := fun w v u h1 h2 => TogetherOf_ok w v u p s h1 h2 0 0 hN hNs
          focus
            refine Gq<|Vg rfl rfl rfl ?_; rintro b1 w1 hb1 E1 hB1; have hlb1 := hB1.lt; refine Vk rfl<|Zg rfl<|Gk<|Gq<|Zf Kq Ky rfl<|Xp Jd hB1 rfl<|Gs rfl (Vl (a := .string _) Jm rfl) (k0 _) ?_; rintro _ w2 ⟨u1, rfl, E2, hO1⟩; have hs2 := E2.size; refine Xl rfl<|Xh u1 rfl<|Xe rfl<|Vj u1 rfl<|Zg rfl<|Gk<|Gp<|Gv<|Gq<|Zf Kq Kl rfl<|Vm Kn (hB1.ext E2) rfl<|Zs rfl<|Zx rfl (fun h1 => ?_) (fun h1 => ?_); contradiction; refine Gn rfl<|Gn rfl<|Gn rfl<|Ve rfl<|Vx rfl<|Gn rfl<|Gn rfl<|Gn rfl<|Ve rfl<|Zg rfl<|Gk<|Zb rfl ?_; refine Gq ?_
            refine Zf Kq Kl rfl<|Vm Kn (hB1.ext E2) rfl<|Zs rfl<|Zx rfl (fun h2 => ?_) (fun h2 => ?_); refine Vx rfl<|Yc rfl<|Vx rfl<|Zf Kq Kl rfl<|Vm Kn (hB1.ext E2) rfl<|Zs rfl<|Yc rfl<|Zg rfl<|Gk<|Gl rfl (fun h3 => ?_) (fun h3 => ?_); refine Gp<|Zj<|Gz u1 rfl<|Gz u1 rfl<|Gs rfl (Rv (a := u1) (b := .int _ _) (c := u1) (d := .int _ _) Tryz.call141 rfl rfl rfl rfl) (k1 _ _ _ ((Owned.read hO1)) ((Owned.read hO1))) ?_; rintro _ w3 ⟨u2, rfl, E3, hO2⟩; have hs3 := E3.size; refine Xl rfl<|Xh u2 rfl<|Xe rfl<|Vj u2 rfl<|Zg rfl<|Gk<|Gp<|Gq<|Vx rfl<|Vn rfl<|Gk ?_
            refine Vu rfl (fun h4 => ?_) (fun h4 => ?_); contradiction; refine Gx<|Gq<|Gz v rfl<|Gz u2 rfl<|Gs rfl (Rv (a := v) (b := .int _ _) (c := u2) (d := .int _ _) Tryz.call142 rfl rfl rfl rfl) (k2 _ _ _ ((Mono.mono exq h)) ((Owned.read hO2))) ?_; rintro _ w4 ⟨u3, rfl, E4, hO3⟩; refine Xh u3 rfl<|Xe rfl<|Vj u3 rfl<|Zg rfl<|Gk<|Zi ?_; refine Zl (v := .tuple #[u3, .bool _]) rfl ?_; exact ⟨_, rfl, exq, hO3.toB.o.mono Ka⟩; contradiction; contradiction
    · have hm : M = none := hM.trans (by simp only [madeV]; rw [if_neg (fun h => absurd h.1 Kc), if_neg (fun h => en h.2), if_neg (fun h => absurd h.1 Kc), if_neg (fun h => absurd h.1 Kc)])
      rw [hm, show og none = [] from rfl, show (none : Option (List (List Int))).isSome = false from rfl]
      cases B
      · focus
          refine Gq<|Vg rfl rfl rfl ?_; rintro b1 w1 hb1 E1 hB1; have hlb1 := hB1.lt; refine Vk rfl<|Zg rfl<|Gk<|Gq<|Zf Kq Ky rfl<|Xp Jd hB1 rfl<|Gs rfl (Vl (a := .string _) Jm rfl) (k0 _) ?_; rintro _ w2 ⟨u1, rfl, E2, hO1⟩; have hs2 := E2.size; refine Xl rfl<|Xh u1 rfl<|Xe rfl<|Vj u1 rfl<|Zg rfl<|Gk<|Gp<|Gv<|Gq<|Zf Kq Kl rfl<|Vm Kn (hB1.ext E2) rfl<|Zs rfl<|Zx rfl (fun h1 => ?_) (fun h1 => ?_); contradiction; refine Gn rfl<|Gn rfl<|Gn rfl<|Ve rfl<|Vx rfl<|Gn rfl<|Gn rfl<|Gn rfl<|Ve rfl<|Zg rfl<|Gk<|Zb rfl ?_; refine Gq ?_
          refine Zf Kq Kl rfl<|Vm Kn (hB1.ext E2) rfl<|Zs rfl<|Zx rfl (fun h2 => ?_) (fun h2 => ?_); refine Vx rfl<|Yc rfl<|Vx rfl<|Gn rfl<|Gn rfl<|Gn rfl<|Ve rfl<|Zg rfl<|Gk<|Zb rfl ?_; refine Gq<|Zf Kq Kl rfl<|Vm Kn (hB1.ext E2) rfl<|Zs rfl<|Zx rfl (fun h3 => ?_) (fun h3 => ?_); contradiction; refine Gn rfl<|Ve rfl<|Vx rfl<|Gn rfl<|Gn rfl<|Gn rfl<|Ve rfl<|Zg rfl<|Gk<|Zb rfl ?_; refine Gp<|Yj Yg Kb rfl ?_; refine Yy Kq Kl rfl<|Ya (v := .int _ _) rfl (fun w' hw' => Zw Kn rfl (((hB1.ext E2).ext hw').cell rfl)) ?_
          refine Ua rfl<|Xc rfl (fun h4 => ?_) (fun h4 => ?_); contradiction; refine Gu rfl<|Gu rfl<|Gu rfl<|Xx rfl<|Uh rfl<|Gu rfl<|Gu rfl<|Gu rfl<|Gu rfl<|Gu rfl<|Gu rfl<|Xx rfl<|Uh rfl<|Gu rfl<|Gu rfl<|Gu rfl<|Gu rfl<|Gu rfl<|Gu rfl<|Gu rfl<|Gu rfl<|Xx rfl<|WqaB rfl<|Yh (fun w3 E3 => ?_); have hs3 := E3.size; refine Zb rfl ?_; refine Gx<|Gq<|Vq (XSl 3 XInt) rfl Xn Kt ?_; rintro b2 w4 hb2 b2lt E4 hO2; refine Vk rfl<|Zg rfl<|Gk<|Zi ?_; refine Zl (v := .tuple #[.slice _ _ _, .bool _]) rfl ?_; exact ⟨_, rfl, exq, hO2.toB.o.mono Ka⟩; contradiction
      · focus
          refine Gq<|Vg rfl rfl rfl ?_; rintro b1 w1 hb1 E1 hB1; have hlb1 := hB1.lt; refine Vk rfl<|Zg rfl<|Gk<|Gq<|Zf Kq Ky rfl<|Xp Jd hB1 rfl<|Gs rfl (Vl (a := .string _) Jm rfl) (k0 _) ?_; rintro _ w2 ⟨u1, rfl, E2, hO1⟩; have hs2 := E2.size; refine Xl rfl<|Xh u1 rfl<|Xe rfl<|Vj u1 rfl<|Zg rfl<|Gk<|Gp<|Gv<|Gq<|Zf Kq Kl rfl<|Vm Kn (hB1.ext E2) rfl<|Zs rfl<|Zx rfl (fun h1 => ?_) (fun h1 => ?_); contradiction; refine Gn rfl<|Gn rfl<|Gn rfl<|Ve rfl<|Vx rfl<|Gn rfl<|Gn rfl<|Gn rfl<|Ve rfl<|Zg rfl<|Gk<|Zb rfl ?_; refine Gq ?_
          refine Zf Kq Kl rfl<|Vm Kn (hB1.ext E2) rfl<|Zs rfl<|Zx rfl (fun h2 => ?_) (fun h2 => ?_); refine Vx rfl<|Yc rfl<|Vx rfl<|Zf Kq Kl rfl<|Vm Kn (hB1.ext E2) rfl<|Zs rfl<|Yc rfl<|Zg rfl<|Gk<|Gl rfl (fun h3 => ?_) (fun h3 => ?_); contradiction; refine Gq<|Zf Kq Kl rfl<|Vm Kn (hB1.ext E2) rfl<|Zs rfl<|Zx rfl (fun h4 => ?_) (fun h4 => ?_); contradiction; refine Gn rfl<|Ve rfl<|Vx rfl<|Gn rfl<|Gn rfl<|Gn rfl<|Ve rfl<|Zg rfl<|Gk<|Zb rfl ?_; refine Gp<|Yj Yg Kb rfl ?_; refine Yy Kq Kl rfl ?_
          refine Ya (v := .int _ _) rfl (fun w' hw' => Zw Kn rfl (((hB1.ext E2).ext hw').cell rfl)) ?_; refine Ua rfl<|Xc rfl (fun h5 => ?_) (fun h5 => ?_); contradiction; refine Gu rfl<|Gu rfl<|Gu rfl<|Xx rfl<|Uh rfl<|Gu rfl<|Gu rfl<|Gu rfl<|Gu rfl<|Gu rfl<|Gu rfl<|Xx rfl<|Uh rfl<|Gu rfl<|Gu rfl<|Gu rfl<|Gu rfl<|Gu rfl<|Gu rfl<|Gu rfl<|Gu rfl<|Xx rfl<|WqaB rfl<|Yh (fun w3 E3 => ?_); have hs3 := E3.size; refine Zb rfl ?_; refine Gx<|Gq<|Vq (XSl 3 XInt) rfl Xn Kt ?_; rintro b2 w4 hb2 b2lt E4 hO2; refine Vk rfl<|Zg rfl<|Gk ?_
          refine Zi ?_; refine Zl (v := .tuple #[.slice _ _ _, .bool _]) rfl ?_; exact ⟨_, rfl, exq, hO2.toB.o.mono Ka⟩; contradiction
  by_cases e2 : k = 2
  · subst e2
    by_cases en : n = 0
    · subst en
      have hm : M = (rdP t).bind fun q => wosV p 0 q 0 := hM.trans (by simp only [madeV]; rw [if_neg (fun h => absurd h.1 Kc), if_neg (fun h => absurd h.1 Kc), if_pos Ki])
      cases hr : rdP t with
      | none =>
        rw [hr] at hm hB hQ
        rw [hm, show og (none.bind fun q => wosV p 0 q 0) = [] from rfl, show (none.bind fun q => wosV p 0 q 0).isSome = false from rfl]
        rw [hB, show (none : Option (List (List Int))).isSome = false from rfl] at k0
        focus
          refine Gq<|Vg rfl rfl rfl ?_; rintro b1 w1 hb1 E1 hB1; have hlb1 := hB1.lt; refine Vk rfl<|Zg rfl<|Gk<|Gq<|Zf Kq Ky rfl<|Xp Jd hB1 rfl<|Gs rfl (Vl (a := .string _) Jm rfl) (k0 _) ?_; rintro _ w2 ⟨u1, rfl, E2, hO1⟩; have hs2 := E2.size; refine Xl rfl<|Xh u1 rfl<|Xe rfl<|Vj u1 rfl<|Zg rfl<|Gk<|Gp<|Gv<|Gq<|Zf Kq Kl rfl<|Vm Kn (hB1.ext E2) rfl<|Zs rfl<|Zx rfl (fun h1 => ?_) (fun h1 => ?_); contradiction; refine Gn rfl<|Gn rfl<|Gn rfl<|Ve rfl<|Vx rfl<|Gn rfl<|Gn rfl<|Gn rfl<|Ve rfl<|Zg rfl<|Gk<|Zb rfl ?_; refine Gq ?_
          refine Zf Kq Kl rfl<|Vm Kn (hB1.ext E2) rfl<|Zs rfl<|Zx rfl (fun h2 => ?_) (fun h2 => ?_); contradiction; refine Gn rfl<|Ve rfl<|Vx rfl<|Gn rfl<|Gn rfl<|Gn rfl<|Ve rfl<|Zg rfl<|Gk<|Zb rfl ?_; refine Gq<|Zf Kq Kl rfl<|Vm Kn (hB1.ext E2) rfl<|Zs rfl<|Zx rfl (fun h3 => ?_) (fun h3 => ?_); refine Vx rfl<|Yc rfl<|Vx rfl<|Gn rfl<|Gn rfl<|Gn rfl<|Ve rfl<|Zg rfl<|Gk<|Zb rfl ?_; refine Gp<|Yj Yg Kb rfl ?_; refine Yy Kq Kl rfl<|Ya (v := .int _ _) rfl (fun w' hw' => Zw Kn rfl (((hB1.ext E2).ext hw').cell rfl)) ?_; refine Ua rfl ?_
          refine Xc rfl (fun h4 => ?_) (fun h4 => ?_); contradiction; refine Gu rfl<|Gu rfl<|Gu rfl<|Xx rfl<|Uh rfl<|Gu rfl<|Gu rfl<|Gu rfl<|Gu rfl<|Gu rfl<|Gu rfl<|Xx rfl<|Uh rfl<|Gu rfl<|Gu rfl<|Gu rfl<|Gu rfl<|Gu rfl<|Gu rfl<|Gu rfl<|Gu rfl<|Xx rfl<|WqaB rfl<|Yh (fun w3 E3 => ?_); have hs3 := E3.size; refine Zb rfl ?_; refine Gx<|Gq<|Vq (XSl 3 XInt) rfl Xn Kt ?_; rintro b2 w4 hb2 b2lt E4 hO2; refine Vk rfl<|Zg rfl<|Gk<|Zi ?_; refine Zl (v := .tuple #[.slice _ _ _, .bool _]) rfl ?_; exact ⟨_, rfl, exq, hO2.toB.o.mono Ka⟩; contradiction
      | some q =>
        rw [hr] at hm hB hQ
        rw [hB, hQ, show (some q).isSome = true from rfl, show (some q).getD [] = q from rfl] at k0
        have hq := (Rp hr).1
        have hNq : Nod q (0 : Nat) := ⟨hq, Kc, by have := hq.1; omega⟩
        have k1 : ∀ (w : World) (v u : Value), ESl Ints w v p → ESl Ints w u q → Does Tryz.prog 143 [v, .int .i64 0, u, .int .i64 0] w (RetOB w XR (og (wosV p 0 q 0)) (wosV p 0 q 0).isSome) := fun w v u h1 h2 => WithoutSet_ok w v u p q h1 h2 0 0 hN hNq
        rw [hm, show ((some q).bind fun q => wosV p 0 q 0) = wosV p 0 q 0 from rfl]
        focus
          refine Gq<|Vg rfl rfl rfl ?_; rintro b1 w1 hb1 E1 hB1; have hlb1 := hB1.lt; refine Vk rfl<|Zg rfl<|Gk<|Gq<|Zf Kq Ky rfl<|Xp Jd hB1 rfl<|Gs rfl (Vl (a := .string _) Jm rfl) (k0 _) ?_; rintro _ w2 ⟨u1, rfl, E2, hO1⟩; have hs2 := E2.size; refine Xl rfl<|Xh u1 rfl<|Xe rfl<|Vj u1 rfl<|Zg rfl<|Gk<|Gp<|Gv<|Gq<|Zf Kq Kl rfl<|Vm Kn (hB1.ext E2) rfl<|Zs rfl<|Zx rfl (fun h1 => ?_) (fun h1 => ?_); contradiction; refine Gn rfl<|Gn rfl<|Gn rfl<|Ve rfl<|Vx rfl<|Gn rfl<|Gn rfl<|Gn rfl<|Ve rfl<|Zg rfl<|Gk<|Zb rfl ?_; refine Gq ?_
          refine Zf Kq Kl rfl<|Vm Kn (hB1.ext E2) rfl<|Zs rfl<|Zx rfl (fun h2 => ?_) (fun h2 => ?_); contradiction; refine Gn rfl<|Ve rfl<|Vx rfl<|Gn rfl<|Gn rfl<|Gn rfl<|Ve rfl<|Zg rfl<|Gk<|Zb rfl ?_; refine Gq<|Zf Kq Kl rfl<|Vm Kn (hB1.ext E2) rfl<|Zs rfl<|Zx rfl (fun h3 => ?_) (fun h3 => ?_); refine Vx rfl<|Yc rfl<|Vx rfl<|Zf Kq Kl rfl<|Vm Kn (hB1.ext E2) rfl<|Zs rfl<|Yc rfl<|Zg rfl<|Gk<|Gl rfl (fun h4 => ?_) (fun h4 => ?_); refine Gp<|Zj<|Gz v rfl<|Gz u1 rfl ?_
          refine Gs rfl (Rv (a := v) (b := .int _ _) (c := u1) (d := .int _ _) Tryz.call143 rfl rfl rfl rfl) (k1 _ _ _ ((Mono.mono exq h)) ((Owned.read hO1))) ?_; rintro _ w3 ⟨u2, rfl, E3, hO2⟩; refine Xh u2 rfl<|Xe rfl<|Vj u2 rfl<|Zg rfl<|Gk<|Zi ?_; refine Zl (v := .tuple #[u2, .bool _]) rfl ?_; exact ⟨_, rfl, exq, hO2.toB.o.mono Ka⟩; contradiction; contradiction
    · have hm : M = none := hM.trans (by simp only [madeV]; rw [if_neg (fun h => absurd h.1 Kc), if_neg (fun h => absurd h.1 Kc), if_neg (fun h => en h.2), if_neg (fun h => absurd h.1 Kc)])
      rw [hm, show og none = [] from rfl, show (none : Option (List (List Int))).isSome = false from rfl]
      cases B
      · focus
          refine Gq<|Vg rfl rfl rfl ?_; rintro b1 w1 hb1 E1 hB1; have hlb1 := hB1.lt; refine Vk rfl<|Zg rfl<|Gk<|Gq<|Zf Kq Ky rfl<|Xp Jd hB1 rfl<|Gs rfl (Vl (a := .string _) Jm rfl) (k0 _) ?_; rintro _ w2 ⟨u1, rfl, E2, hO1⟩; have hs2 := E2.size; refine Xl rfl<|Xh u1 rfl<|Xe rfl<|Vj u1 rfl<|Zg rfl<|Gk<|Gp<|Gv<|Gq<|Zf Kq Kl rfl<|Vm Kn (hB1.ext E2) rfl<|Zs rfl<|Zx rfl (fun h1 => ?_) (fun h1 => ?_); contradiction; refine Gn rfl<|Gn rfl<|Gn rfl<|Ve rfl<|Vx rfl<|Gn rfl<|Gn rfl<|Gn rfl<|Ve rfl<|Zg rfl<|Gk<|Zb rfl ?_; refine Gq ?_
          refine Zf Kq Kl rfl<|Vm Kn (hB1.ext E2) rfl<|Zs rfl<|Zx rfl (fun h2 => ?_) (fun h2 => ?_); contradiction; refine Gn rfl<|Ve rfl<|Vx rfl<|Gn rfl<|Gn rfl<|Gn rfl<|Ve rfl<|Zg rfl<|Gk<|Zb rfl ?_; refine Gq<|Zf Kq Kl rfl<|Vm Kn (hB1.ext E2) rfl<|Zs rfl<|Zx rfl (fun h3 => ?_) (fun h3 => ?_); refine Vx rfl<|Yc rfl<|Vx rfl<|Gn rfl<|Gn rfl<|Gn rfl<|Ve rfl<|Zg rfl<|Gk<|Zb rfl ?_; refine Gp<|Yj Yg Kb rfl ?_; refine Yy Kq Kl rfl<|Ya (v := .int _ _) rfl (fun w' hw' => Zw Kn rfl (((hB1.ext E2).ext hw').cell rfl)) ?_; refine Ua rfl ?_
          refine Xc rfl (fun h4 => ?_) (fun h4 => ?_); contradiction; refine Gu rfl<|Gu rfl<|Gu rfl<|Xx rfl<|Uh rfl<|Gu rfl<|Gu rfl<|Gu rfl<|Gu rfl<|Gu rfl<|Gu rfl<|Xx rfl<|Uh rfl<|Gu rfl<|Gu rfl<|Gu rfl<|Gu rfl<|Gu rfl<|Gu rfl<|Gu rfl<|Gu rfl<|Xx rfl<|WqaB rfl<|Yh (fun w3 E3 => ?_); have hs3 := E3.size; refine Zb rfl ?_; refine Gx<|Gq<|Vq (XSl 3 XInt) rfl Xn Kt ?_; rintro b2 w4 hb2 b2lt E4 hO2; refine Vk rfl<|Zg rfl<|Gk<|Zi ?_; refine Zl (v := .tuple #[.slice _ _ _, .bool _]) rfl ?_; exact ⟨_, rfl, exq, hO2.toB.o.mono Ka⟩; contradiction
      · focus
          refine Gq<|Vg rfl rfl rfl ?_; rintro b1 w1 hb1 E1 hB1; have hlb1 := hB1.lt; refine Vk rfl<|Zg rfl<|Gk<|Gq<|Zf Kq Ky rfl<|Xp Jd hB1 rfl<|Gs rfl (Vl (a := .string _) Jm rfl) (k0 _) ?_; rintro _ w2 ⟨u1, rfl, E2, hO1⟩; have hs2 := E2.size; refine Xl rfl<|Xh u1 rfl<|Xe rfl<|Vj u1 rfl<|Zg rfl<|Gk<|Gp<|Gv<|Gq<|Zf Kq Kl rfl<|Vm Kn (hB1.ext E2) rfl<|Zs rfl<|Zx rfl (fun h1 => ?_) (fun h1 => ?_); contradiction; refine Gn rfl<|Gn rfl<|Gn rfl<|Ve rfl<|Vx rfl<|Gn rfl<|Gn rfl<|Gn rfl<|Ve rfl<|Zg rfl<|Gk<|Zb rfl ?_; refine Gq ?_
          refine Zf Kq Kl rfl<|Vm Kn (hB1.ext E2) rfl<|Zs rfl<|Zx rfl (fun h2 => ?_) (fun h2 => ?_); contradiction; refine Gn rfl<|Ve rfl<|Vx rfl<|Gn rfl<|Gn rfl<|Gn rfl<|Ve rfl<|Zg rfl<|Gk<|Zb rfl ?_; refine Gq<|Zf Kq Kl rfl<|Vm Kn (hB1.ext E2) rfl<|Zs rfl<|Zx rfl (fun h3 => ?_) (fun h3 => ?_); refine Vx rfl<|Yc rfl<|Vx rfl<|Zf Kq Kl rfl<|Vm Kn (hB1.ext E2) rfl<|Zs rfl<|Yc rfl<|Zg rfl<|Gk<|Gl rfl (fun h4 => ?_) (fun h4 => ?_); contradiction; refine Gp<|Yj Yg Kb rfl ?_; refine Yy Kq Kl rfl ?_
          refine Ya (v := .int _ _) rfl (fun w' hw' => Zw Kn rfl (((hB1.ext E2).ext hw').cell rfl)) ?_; refine Ua rfl<|Xc rfl (fun h5 => ?_) (fun h5 => ?_); contradiction; refine Gu rfl<|Gu rfl<|Gu rfl<|Xx rfl<|Uh rfl<|Gu rfl<|Gu rfl<|Gu rfl<|Gu rfl<|Gu rfl<|Gu rfl<|Xx rfl<|Uh rfl<|Gu rfl<|Gu rfl<|Gu rfl<|Gu rfl<|Gu rfl<|Gu rfl<|Gu rfl<|Gu rfl<|Xx rfl<|WqaB rfl<|Yh (fun w3 E3 => ?_); have hs3 := E3.size; refine Zb rfl ?_; refine Gx<|Gq<|Vq (XSl 3 XInt) rfl Xn Kt ?_; rintro b2 w4 hb2 b2lt E4 hO2; refine Vk rfl<|Zg rfl<|Gk ?_
          refine Zi ?_; refine Zl (v := .tuple #[.slice _ _ _, .bool _]) rfl ?_; exact ⟨_, rfl, exq, hO2.toB.o.mono Ka⟩; contradiction
  by_cases e3 : k = 3
  · subst e3
    by_cases et : t = []
    · subst et
      by_cases en : 0 ≤ n ∧ n ≤ (p.length : Int) - 1
      · have k2 : ∀ w, Does Tryz.prog 116 [.int .i64 n, .int .i64 0, .int .i64 ((p.length : Int) - 1)] w (Ret w (.bool true)) := fun w => by
          have := Uv n 0 ((p.length : Int) - 1) w; rwa [decide_eq_true en] at this
        have hrow : p[0].length = p.length := hp.row hp1
        obtain ⟨i, rfl⟩ : ∃ i : Nat, n = i := ⟨n.toNat, Ka⟩
        have hbit : bit p 0 i = p[0][i] := by unfold bit; rw [Zz hp1, Zz (show i < p[0].length by omega)]
        by_cases eb : p[0][i] = 1
        · have hm : M = some (lst p i) := hM.trans (by simp only [madeV]; rw [if_neg (fun h => absurd h.1 Kc), if_neg (fun h => absurd h.1 Kc), if_neg (fun h => absurd h.1 Kc), if_pos ⟨trivial, trivial, Ka, Ka, by rw [Int.toNat_natCast, hbit, eb]⟩, Int.toNat_natCast])
          have hNi : Nod p (i : Int) := ⟨hp, Ka, Ka⟩
          have k3 : ∀ (w : World) (v : Value), ESl Ints w v p → Does Tryz.prog 126 [v, .int .i64 (i : Int)] w (RetO w XR (lst p i)) := fun w v h => by
            have := Uo w v p h (i : Int); rw [if_pos hNi] at this; exact this
          rw [hm, show og (some (lst p i)) = lst p i from rfl, show (some (lst p i)).isSome = true from rfl]
          focus
            refine Gq<|Vg rfl rfl rfl ?_; rintro b1 w1 hb1 E1 hB1; have hlb1 := hB1.lt; refine Vk rfl<|Zg rfl<|Gk<|Gq<|Zf Kq Ky rfl<|Xp Jd hB1 rfl<|Gs rfl (Vl (a := .string _) Jm rfl) (k0 _) ?_; rintro _ w2 ⟨u1, rfl, E2, hO1⟩; have hs2 := E2.size; refine Xl rfl<|Xh u1 rfl<|Xe rfl<|Vj u1 rfl<|Zg rfl<|Gk<|Gp<|Gv<|Gq<|Zf Kq Kl rfl<|Vm Kn (hB1.ext E2) rfl<|Zs rfl<|Zx rfl (fun h1 => ?_) (fun h1 => ?_); contradiction; refine Gn rfl<|Gn rfl<|Gn rfl<|Ve rfl<|Vx rfl<|Gn rfl<|Gn rfl<|Gn rfl<|Ve rfl<|Zg rfl<|Gk<|Zb rfl ?_; refine Gq ?_
            refine Zf Kq Kl rfl<|Vm Kn (hB1.ext E2) rfl<|Zs rfl<|Zx rfl (fun h2 => ?_) (fun h2 => ?_); contradiction; refine Gn rfl<|Ve rfl<|Vx rfl<|Gn rfl<|Gn rfl<|Gn rfl<|Ve rfl<|Zg rfl<|Gk<|Zb rfl ?_; refine Gq<|Zf Kq Kl rfl<|Vm Kn (hB1.ext E2) rfl<|Zs rfl<|Zx rfl (fun h3 => ?_) (fun h3 => ?_); contradiction; refine Gn rfl<|Ve rfl<|Vx rfl<|Gn rfl<|Gn rfl<|Gn rfl<|Ve rfl<|Zg rfl<|Gk<|Zb rfl ?_; refine Gp<|Yj Yg Kb rfl ?_; refine Yy Kq Kl rfl<|Ya (v := .int _ _) rfl (fun w' hw' => Zw Kn rfl (((hB1.ext E2).ext hw').cell rfl)) ?_; refine Ua rfl ?_
            refine Xc rfl (fun h4 => ?_) (fun h4 => ?_); refine Yy Kq Ky rfl<|Ya (v := .string _) rfl (fun w' hw' => Zw Jd rfl (((hB1.ext E2).ext hw').cell rfl)) ?_; refine Ya rfl (fun _ _ => Xa rfl rfl) ?_; refine Rj rfl<|Xc rfl (fun h5 => ?_) (fun h5 => ?_); refine Yy Kq Kl rfl<|Ya (v := .int _ _) rfl (fun w' hw' => Zw Kn rfl (((hB1.ext E2).ext hw').cell rfl)) ?_; refine Xw v rfl<|Ya rfl (fun _ _ => Xj Kp rfl h) ?_; refine Ya rfl (fun _ _ => opv_sub rfl rfl Ka) ?_; refine Xq rfl (fun _ _ => opc3 (a := .int _ _) (b := .int _ _) (c := .int _ _) Jr rfl rfl rfl) (fun w' hw' => (k2 _)) ?_; refine Rj rfl<|Uh rfl<|Xw v rfl ?_
            refine Ys (k := 0) Kp Kt Kx rfl (fun _ => rfl) rfl h exq rfl Kf ?_; rintro _ u2 hu1; refine Yy Kq Kl rfl<|Ya (v := .int _ _) rfl (fun w' hw' => Zw Kn rfl (((hB1.ext E2).ext hw').cell rfl)) ?_; refine Ys Km Kl Kn rfl (fun _ => rfl) rfl hu1 exq rfl Kf ?_; rintro _ _ rfl; refine Ua rfl<|Rj rfl<|WqaB rfl<|Yh (fun w3 E3 => ?_); have hs3 := E3.size; refine Gl rfl (fun h6 => ?_) (fun h6 => ?_); refine Gq<|Gz v rfl<|Zf Kq Kl rfl<|Vm Kn (hB1.ext exq) rfl<|Gs rfl (Zv (a := v) (b := .int _ _) Jt rfl rfl) (k3 _ _ ((Mono.mono exq h))) ?_
            rintro u3 w4 ⟨E4, hO2⟩; refine Vj u3 rfl<|Zg rfl<|Gk<|Zi ?_; refine Zl (v := .tuple #[u3, .bool _]) rfl ?_; exact ⟨_, rfl, exq, hO2.toB.o.mono Ka⟩; contradiction; contradiction; contradiction
        · have hm : M = none := hM.trans (by simp only [madeV]; rw [if_neg (fun h => absurd h.1 Kc), if_neg (fun h => absurd h.1 Kc), if_neg (fun h => absurd h.1 Kc), if_neg (fun h => eb (by have := h.2.2.2.2; rwa [Int.toNat_natCast, hbit] at this))])
          rw [hm, show og none = [] from rfl, show (none : Option (List (List Int))).isSome = false from rfl]
          focus
            refine Gq<|Vg rfl rfl rfl ?_; rintro b1 w1 hb1 E1 hB1; have hlb1 := hB1.lt; refine Vk rfl<|Zg rfl<|Gk<|Gq<|Zf Kq Ky rfl<|Xp Jd hB1 rfl<|Gs rfl (Vl (a := .string _) Jm rfl) (k0 _) ?_; rintro _ w2 ⟨u1, rfl, E2, hO1⟩; have hs2 := E2.size; refine Xl rfl<|Xh u1 rfl<|Xe rfl<|Vj u1 rfl<|Zg rfl<|Gk<|Gp<|Gv<|Gq<|Zf Kq Kl rfl<|Vm Kn (hB1.ext E2) rfl<|Zs rfl<|Zx rfl (fun h1 => ?_) (fun h1 => ?_); contradiction; refine Gn rfl<|Gn rfl<|Gn rfl<|Ve rfl<|Vx rfl<|Gn rfl<|Gn rfl<|Gn rfl<|Ve rfl<|Zg rfl<|Gk<|Zb rfl ?_; refine Gq ?_
            refine Zf Kq Kl rfl<|Vm Kn (hB1.ext E2) rfl<|Zs rfl<|Zx rfl (fun h2 => ?_) (fun h2 => ?_); contradiction; refine Gn rfl<|Ve rfl<|Vx rfl<|Gn rfl<|Gn rfl<|Gn rfl<|Ve rfl<|Zg rfl<|Gk<|Zb rfl ?_; refine Gq<|Zf Kq Kl rfl<|Vm Kn (hB1.ext E2) rfl<|Zs rfl<|Zx rfl (fun h3 => ?_) (fun h3 => ?_); contradiction; refine Gn rfl<|Ve rfl<|Vx rfl<|Gn rfl<|Gn rfl<|Gn rfl<|Ve rfl<|Zg rfl<|Gk<|Zb rfl ?_; refine Gp<|Yj Yg Kb rfl ?_; refine Yy Kq Kl rfl<|Ya (v := .int _ _) rfl (fun w' hw' => Zw Kn rfl (((hB1.ext E2).ext hw').cell rfl)) ?_; refine Ua rfl ?_
            refine Xc rfl (fun h4 => ?_) (fun h4 => ?_); refine Yy Kq Ky rfl<|Ya (v := .string _) rfl (fun w' hw' => Zw Jd rfl (((hB1.ext E2).ext hw').cell rfl)) ?_; refine Ya rfl (fun _ _ => Xa rfl rfl) ?_; refine Rj rfl<|Xc rfl (fun h5 => ?_) (fun h5 => ?_); refine Yy Kq Kl rfl<|Ya (v := .int _ _) rfl (fun w' hw' => Zw Kn rfl (((hB1.ext E2).ext hw').cell rfl)) ?_; refine Xw v rfl<|Ya rfl (fun _ _ => Xj Kp rfl h) ?_; refine Ya rfl (fun _ _ => opv_sub rfl rfl Ka) ?_; refine Xq rfl (fun _ _ => opc3 (a := .int _ _) (b := .int _ _) (c := .int _ _) Jr rfl rfl rfl) (fun w' hw' => (k2 _)) ?_; refine Rj rfl<|Uh rfl<|Xw v rfl ?_
            refine Ys (k := 0) Kp Kt Kx rfl (fun _ => rfl) rfl h exq rfl Kf ?_; rintro _ u2 hu1; refine Yy Kq Kl rfl<|Ya (v := .int _ _) rfl (fun w' hw' => Zw Kn rfl (((hB1.ext E2).ext hw').cell rfl)) ?_; refine Ys Km Kl Kn rfl (fun _ => rfl) rfl hu1 exq rfl Kf ?_; rintro _ _ rfl; refine Ua rfl<|Rj rfl<|WqaB rfl<|Yh (fun w3 E3 => ?_); have hs3 := E3.size; refine Gl rfl (fun h6 => ?_) (fun h6 => ?_); contradiction; refine Gx<|Gq<|Vq (XSl 3 XInt) rfl Xn Kt ?_; rintro b2 w4 hb2 b2lt E4 hO2; refine Vk rfl<|Zg rfl<|Gk<|Zi ?_; refine Zl (v := .tuple #[.slice _ _ _, .bool _]) rfl ?_
            exact ⟨_, rfl, exq, hO2.toB.o.mono Ka⟩; contradiction; contradiction
      · have k2 : ∀ w, Does Tryz.prog 116 [.int .i64 n, .int .i64 0, .int .i64 ((p.length : Int) - 1)] w (Ret w (.bool false)) := fun w => by
          have := Uv n 0 ((p.length : Int) - 1) w; rwa [decide_eq_false en] at this
        have hm : M = none := hM.trans (by simp only [madeV]; rw [if_neg (fun h => absurd h.1 Kc), if_neg (fun h => absurd h.1 Kc), if_neg (fun h => absurd h.1 Kc), if_neg (fun h => en ⟨h.2.2.1, by have := h.2.2.2.1; omega⟩)])
        rw [hm, show og none = [] from rfl, show (none : Option (List (List Int))).isSome = false from rfl]
        focus
          refine Gq<|Vg rfl rfl rfl ?_; rintro b1 w1 hb1 E1 hB1; have hlb1 := hB1.lt; refine Vk rfl<|Zg rfl<|Gk<|Gq<|Zf Kq Ky rfl<|Xp Jd hB1 rfl<|Gs rfl (Vl (a := .string _) Jm rfl) (k0 _) ?_; rintro _ w2 ⟨u1, rfl, E2, hO1⟩; have hs2 := E2.size; refine Xl rfl<|Xh u1 rfl<|Xe rfl<|Vj u1 rfl<|Zg rfl<|Gk<|Gp<|Gv<|Gq<|Zf Kq Kl rfl<|Vm Kn (hB1.ext E2) rfl<|Zs rfl<|Zx rfl (fun h1 => ?_) (fun h1 => ?_); contradiction; refine Gn rfl<|Gn rfl<|Gn rfl<|Ve rfl<|Vx rfl<|Gn rfl<|Gn rfl<|Gn rfl<|Ve rfl<|Zg rfl<|Gk<|Zb rfl ?_; refine Gq ?_
          refine Zf Kq Kl rfl<|Vm Kn (hB1.ext E2) rfl<|Zs rfl<|Zx rfl (fun h2 => ?_) (fun h2 => ?_); contradiction; refine Gn rfl<|Ve rfl<|Vx rfl<|Gn rfl<|Gn rfl<|Gn rfl<|Ve rfl<|Zg rfl<|Gk<|Zb rfl ?_; refine Gq<|Zf Kq Kl rfl<|Vm Kn (hB1.ext E2) rfl<|Zs rfl<|Zx rfl (fun h3 => ?_) (fun h3 => ?_); contradiction; refine Gn rfl<|Ve rfl<|Vx rfl<|Gn rfl<|Gn rfl<|Gn rfl<|Ve rfl<|Zg rfl<|Gk<|Zb rfl ?_; refine Gp<|Yj Yg Kb rfl ?_; refine Yy Kq Kl rfl<|Ya (v := .int _ _) rfl (fun w' hw' => Zw Kn rfl (((hB1.ext E2).ext hw').cell rfl)) ?_; refine Ua rfl ?_
          refine Xc rfl (fun h4 => ?_) (fun h4 => ?_); refine Yy Kq Ky rfl<|Ya (v := .string _) rfl (fun w' hw' => Zw Jd rfl (((hB1.ext E2).ext hw').cell rfl)) ?_; refine Ya rfl (fun _ _ => Xa rfl rfl) ?_; refine Rj rfl<|Xc rfl (fun h5 => ?_) (fun h5 => ?_); refine Yy Kq Kl rfl<|Ya (v := .int _ _) rfl (fun w' hw' => Zw Kn rfl (((hB1.ext E2).ext hw').cell rfl)) ?_; refine Xw v rfl<|Ya rfl (fun _ _ => Xj Kp rfl h) ?_; refine Ya rfl (fun _ _ => opv_sub rfl rfl Ka) ?_; refine Xq rfl (fun _ _ => opc3 (a := .int _ _) (b := .int _ _) (c := .int _ _) Jr rfl rfl rfl) (fun w' hw' => (k2 _)) ?_; refine Rj rfl<|Uh rfl<|Gu rfl<|Gu rfl<|Gu rfl<|Gu rfl ?_
          refine Gu rfl<|Gu rfl<|Gu rfl<|Gu rfl<|Xx rfl<|WqaB rfl<|Yh (fun w3 E3 => ?_); have hs3 := E3.size; refine Zb rfl ?_; refine Gx<|Gq<|Vq (XSl 3 XInt) rfl Xn Kt ?_; rintro b2 w4 hb2 b2lt E4 hO2; refine Vk rfl<|Zg rfl<|Gk<|Zi ?_; refine Zl (v := .tuple #[.slice _ _ _, .bool _]) rfl ?_; exact ⟨_, rfl, exq, hO2.toB.o.mono Ka⟩; contradiction; contradiction
    · have hm : M = none := hM.trans (by simp only [madeV]; rw [if_neg (fun h => absurd h.1 Kc), if_neg (fun h => absurd h.1 Kc), if_neg (fun h => absurd h.1 Kc), if_neg (fun h => et h.2.1)])
      rw [hm, show og none = [] from rfl, show (none : Option (List (List Int))).isSome = false from rfl]
      focus
        refine Gq<|Vg rfl rfl rfl ?_; rintro b1 w1 hb1 E1 hB1; have hlb1 := hB1.lt; refine Vk rfl<|Zg rfl<|Gk<|Gq<|Zf Kq Ky rfl<|Xp Jd hB1 rfl<|Gs rfl (Vl (a := .string _) Jm rfl) (k0 _) ?_; rintro _ w2 ⟨u1, rfl, E2, hO1⟩; have hs2 := E2.size; refine Xl rfl<|Xh u1 rfl<|Xe rfl<|Vj u1 rfl<|Zg rfl<|Gk<|Gp<|Gv<|Gq<|Zf Kq Kl rfl<|Vm Kn (hB1.ext E2) rfl<|Zs rfl<|Zx rfl (fun h1 => ?_) (fun h1 => ?_); contradiction; refine Gn rfl<|Gn rfl<|Gn rfl<|Ve rfl<|Vx rfl<|Gn rfl<|Gn rfl<|Gn rfl<|Ve rfl<|Zg rfl<|Gk<|Zb rfl ?_; refine Gq ?_
        refine Zf Kq Kl rfl<|Vm Kn (hB1.ext E2) rfl<|Zs rfl<|Zx rfl (fun h2 => ?_) (fun h2 => ?_); contradiction; refine Gn rfl<|Ve rfl<|Vx rfl<|Gn rfl<|Gn rfl<|Gn rfl<|Ve rfl<|Zg rfl<|Gk<|Zb rfl ?_; refine Gq<|Zf Kq Kl rfl<|Vm Kn (hB1.ext E2) rfl<|Zs rfl<|Zx rfl (fun h3 => ?_) (fun h3 => ?_); contradiction; refine Gn rfl<|Ve rfl<|Vx rfl<|Gn rfl<|Gn rfl<|Gn rfl<|Ve rfl<|Zg rfl<|Gk<|Zb rfl ?_; refine Gp<|Yj Yg Kb rfl ?_; refine Yy Kq Kl rfl<|Ya (v := .int _ _) rfl (fun w' hw' => Zw Kn rfl (((hB1.ext E2).ext hw').cell rfl)) ?_; refine Ua rfl ?_
        refine Xc rfl (fun h4 => ?_) (fun h4 => ?_); refine Yy Kq Ky rfl<|Ya (v := .string _) rfl (fun w' hw' => Zw Jd rfl (((hB1.ext E2).ext hw').cell rfl)) ?_; refine Ya rfl (fun _ _ => Xa rfl rfl) ?_; refine Rj rfl<|Xc rfl (fun h5 => ?_) (fun h5 => ?_); contradiction; refine Gu rfl<|Gu rfl<|Gu rfl<|Gu rfl<|Gu rfl<|Gu rfl<|Xx rfl<|Uh rfl<|Gu rfl<|Gu rfl<|Gu rfl<|Gu rfl<|Gu rfl<|Gu rfl<|Gu rfl<|Gu rfl<|Xx rfl<|WqaB rfl<|Yh (fun w3 E3 => ?_); have hs3 := E3.size; refine Zb rfl ?_; refine Gx<|Gq<|Vq (XSl 3 XInt) rfl Xn Kt ?_; rintro b2 w4 hb2 b2lt E4 hO2; refine Vk rfl<|Zg rfl<|Gk ?_
        refine Zi ?_; refine Zl (v := .tuple #[.slice _ _ _, .bool _]) rfl ?_; exact ⟨_, rfl, exq, hO2.toB.o.mono Ka⟩; contradiction
  have hm : M = none := hM.trans (by simp only [madeV]; rw [if_neg (fun h => e0 h.1), if_neg (fun h => e1 h.1), if_neg (fun h => e2 h.1), if_neg (fun h => e3 h.1)])
  rw [hm, show og none = [] from rfl, show (none : Option (List (List Int))).isSome = false from rfl]
  focus
    refine Gq<|Vg rfl rfl rfl ?_; rintro b1 w1 hb1 E1 hB1; have hlb1 := hB1.lt; refine Vk rfl<|Zg rfl<|Gk<|Gq<|Zf Kq Ky rfl<|Xp Jd hB1 rfl<|Gs rfl (Vl (a := .string _) Jm rfl) (k0 _) ?_; rintro _ w2 ⟨u1, rfl, E2, hO1⟩; have hs2 := E2.size; refine Xl rfl<|Xh u1 rfl<|Xe rfl<|Vj u1 rfl<|Zg rfl<|Gk<|Gp<|Gv<|Gq<|Zf Kq Kl rfl<|Vm Kn (hB1.ext E2) rfl<|Zs rfl<|Zx rfl (fun h1 => ?_) (fun h1 => ?_); contradiction; refine Gn rfl<|Gn rfl<|Gn rfl<|Ve rfl<|Vx rfl<|Gn rfl<|Gn rfl<|Gn rfl<|Ve rfl<|Zg rfl<|Gk<|Zb rfl ?_; refine Gq ?_
    refine Zf Kq Kl rfl<|Vm Kn (hB1.ext E2) rfl<|Zs rfl<|Zx rfl (fun h2 => ?_) (fun h2 => ?_); contradiction; refine Gn rfl<|Ve rfl<|Vx rfl<|Gn rfl<|Gn rfl<|Gn rfl<|Ve rfl<|Zg rfl<|Gk<|Zb rfl ?_; refine Gq<|Zf Kq Kl rfl<|Vm Kn (hB1.ext E2) rfl<|Zs rfl<|Zx rfl (fun h3 => ?_) (fun h3 => ?_); contradiction; refine Gn rfl<|Ve rfl<|Vx rfl<|Gn rfl<|Gn rfl<|Gn rfl<|Ve rfl<|Zg rfl<|Gk<|Zb rfl ?_; refine Gp<|Yj Yg Kb rfl ?_; refine Yy Kq Kl rfl<|Ya (v := .int _ _) rfl (fun w' hw' => Zw Kn rfl (((hB1.ext E2).ext hw').cell rfl)) ?_; refine Ua rfl ?_
    refine Xc rfl (fun h4 => ?_) (fun h4 => ?_); contradiction; refine Gu rfl<|Gu rfl<|Gu rfl<|Xx rfl<|Uh rfl<|Gu rfl<|Gu rfl<|Gu rfl<|Gu rfl<|Gu rfl<|Gu rfl<|Xx rfl<|Uh rfl<|Gu rfl<|Gu rfl<|Gu rfl<|Gu rfl<|Gu rfl<|Gu rfl<|Gu rfl<|Gu rfl<|Xx rfl<|WqaB rfl<|Yh (fun w3 E3 => ?_); have hs3 := E3.size; refine Zb rfl ?_; refine Gx<|Gq<|Vq (XSl 3 XInt) rfl Xn Kt ?_; rintro b2 w4 hb2 b2lt E4 hO2; refine Vk rfl<|Zg rfl<|Gk<|Zi ?_; refine Zl (v := .tuple #[.slice _ _ _, .bool _]) rfl ?_; exact ⟨_, rfl, exq, hO2.toB.o.mono Ka⟩
end Go.Proofs.YtbgpppaljpngmaaGreatDoor
namespace Go.Proofs.YtbgpppaljpngmaaGreatDoor
open Go.Hs
set_option maxRecDepth 10000
set_option maxHeartbeats 4000000
set_option linter.unusedVariables false
set_option linter.unusedSimpArgs false
open Classical in
theorem spec_DeskDo_ok (w : World) (u1 u2 : Value) (d : Dsk) (h1 : ESl Ints w u1 d.now) (h2 : ESl (ESl Ints) w u2 d.past) (k n : Int) (t : List UInt8) (ht : t.length ≤ 1048576) :
    Does Tryz.prog 37 [.agg #[u1, u2], .agg #[.int .i64 k, str t, .int .i64 n]] w (RetDkAB w (if DkOk d then (doV d ⟨k, t, n⟩).1.now else []) (if DkOk d then (doV d ⟨k, t, n⟩).1.past else []) (decide (DkOk d) && (doV d ⟨k, t, n⟩).2)) := by
  obtain ⟨p, pp⟩ := d
  have hle := h2.le
  have i1 : isCell u1 = true := Xb h1
  have i2 : isCell u2 = true := Xb h2
  simp only at h1 h2 hle
  refine Qh Tryz.func37 rfl Tryz.results37 Tryz.ntmps37 rfl Ks Ko ?_
  by_cases hd : DkOk ⟨p, pp⟩
  · have k0 : ∀ w, ESl Ints w u1 p → ESl (ESl Ints) w u2 pp → Does Tryz.prog 16 [.agg #[u1, u2]] w (Ret w (.bool true)) := fun w h1 h2 => by
      have := Xg w u1 u2 ⟨p, pp⟩ h1 h2; rwa [decide_eq_true hd] at this
    have hpp : Pic p := hd.1.1
    have hppl : pp.length ≤ 8 := hd.2.1
    have hb1 : p.length ≤ 100 ∧ ∀ r ∈ p, r.length ≤ 100 := ⟨by have := hpp.2.1; omega, fun r hr => by rw [(hpp.2.2 r hr).1]; have := hpp.2.1; omega⟩
    have hb2 : ∀ q ∈ pp, q.length ≤ 100 ∧ ∀ r ∈ q, r.length ≤ 100 := fun q hq => by
      have hq := (hd.2.2 q hq).1
      exact ⟨by have := hq.2.1; omega, fun r hr => by rw [(hq.2.2 r hr).1]; have := hq.2.1; omega⟩
    have k1 : ∀ w, ESl Ints w u1 p → ESl (ESl Ints) w u2 pp → Does Tryz.prog 60 [.agg #[u1, u2]] w (RetDk w 23 88 3 p pp) := fun w h1 h2 => l11Copy_ok w u1 u2 p pp h1 h2 hb1 Ka hb2
    rw [if_pos hd, if_pos hd, decide_eq_true hd, Bool.true_and]
    by_cases hb : isBack ⟨p, pp⟩ ⟨k, t, n⟩
    · obtain ⟨e, hne⟩ := hb
      cases e
      have hpl : 0 < pp.length := List.length_pos_iff.2 hne
      have hdo : doV ⟨p, pp⟩ ⟨4, [], 0⟩ = (⟨pp.getLastD [], pp.dropLast⟩, true) := by unfold doV; rw [if_pos ⟨rfl, hne⟩]
      rw [hdo]
      simp only
      have stop6 : True := trivial
      focus
        refine Gq<|Vg rfl rfl rfl ?_; rintro b1 w1 hb3 E1 hB1; have hlb1 := hB1.lt; have hs1 := E1.size; refine Vg rfl rfl rfl ?_; rintro b2 w2 hb4 E2 hB2; have hlb2 := hB2.lt; refine Zn rfl Vd ?_; rintro b3 w3 hb5 E3 hB3; have hlb3 := hB3.lt; refine Zg rfl<|Gk<|Gp<|Gp<|Zj<|Vs Ks Ko (hB1.ext exq) rfl<|Gs rfl (Vl (a := .agg _) Jk rfl) (k0 _ ((Mono.mono exq h1)) ((Mono.mono exq h2))) ?_; rintro _ w4 ⟨rfl, E4⟩; have hs4 := E4.size; refine Vn rfl<|Gk<|Vu rfl (fun h3 => ?_) (fun h3 => ?_); contradiction; refine Gx<|Gq<|Vs Ks Ko (hB1.ext exq) rfl<|Gs rfl (Vl (a := .agg _) Jw rfl) (k1 _ ((Mono.mono exq h1)) ((Mono.mono exq h2))) ?_; rintro _ w5 ⟨u3, q1, m1, rfl, E5, hO1, hQ1, hm1, hn1⟩
        have icu3 := OwnedB.isC hO1; have icq1 := OwnedB.isC (Owned.toB hQ1); have cpq1 := OwnedB.capOk (Owned.toB hQ1); have hs5 := E5.size; refine Zn rfl Vd ?_; rintro b4 w6 hb6 E6 hB4; refine Yp rfl Ko rfl rfl Ke Ke hB4 Ka (((((E1.trans E2).trans E3).trans E4).trans E5).trans E6) ?_; rintro w7 E7 hB4 K1 hz1; have E8 := ((((E2.trans E3).trans E4).trans E5).trans E6).wroteAt exq E7 K1 hz1 Ka; have szE8 := E8.size; have E9 := (((E3.trans E4).trans E5).trans E6).wroteAt exq E7 K1 hz1 Ka; have E10 := ((E4.trans E5).trans E6).wroteAt exq E7 K1 hz1 Ka; have E11 := (E5.trans E6).wroteAt exq E7 K1 hz1 Ka; have E12 := E6.wroteAt exq E7 K1 hz1 Ka; have hB1 := (hB1.ext exq).of_heap (K1 _ Ka)
        have hB2 := (hB2.ext exq).of_heap (K1 _ Ka); have hB3 := (hB3.ext exq).of_heap (K1 _ Ka); have hO1 := (hO1.ext E6).wrote K1 Ka; have hQ1 := (hQ1.toB.ext E6).wrote K1 Ka; refine Gk<|Gp<|Gq<|Qz Jg Kz hB2 rfl<|Wo rfl (Vf (ps := [(0, .int _ _)]) (cs := [_, _, _]) Vy rfl rfl)<|Wo rfl (Qn rfl rfl)<|Zx rfl (fun h4 => ?_) (fun h4 => ?_); refine Zf Kr Kv rfl<|Vh u2 Jc hB1 rfl<|Ze Ja rfl h2<|Yi rfl<|Yc rfl<|Gk<|Gl rfl (fun h5 => ?_) (fun h5 => ?_); refine Gq<|Zf Kr Kv rfl<|Vh q1 Jc hB4 rfl<|Ze Ja rfl (OwnedB.read hQ1)<|Uu rfl<|Zp rfl<|Gk<|Gp ?_; rotate_left; (exfalso; omega); contradiction
      clear stop6
      obtain ⟨qb, qc, ur, rfl, hqc, hcl, hel, hqb, hqb2, icr⟩ := hQ1.elem (i := pp.length - 1) Ka
      have hcl : w7.cell? ⟨qb, 0 + ((pp.length : Int) - 1).toNat, none⟩ = some ur := by rw [Nat.zero_add, show ((pp.length : Int) - 1).toNat = pp.length - 1 by omega]; exact hcl
      focus
        have szE7 := E7.size; refine Zj<|Zf Kr Kv rfl<|Xo Jc hB4 rfl<|Gw rfl<|Wo rfl (Yk Ja Ku rfl rfl Ka) ?_; refine Wo rfl (Zw Kw rfl Kd) ?_; refine Zf Kr Ku rfl<|Ye (v := ur) rfl Ku rfl rfl (OwnedB.isC hel) hB4 Ki Ka E7 ?_; rintro w8 E13 hB4 K2 hz2; have E14 := E8.wroteAt E7 E13 K2 hz2 Ka; have E15 := E9.wroteAt E7 E13 K2 hz2 Ka; simp only [List.set] at hB4; have hB3 := hB3.of_heap (K2 _ Ka); have hQ1 := hQ1.wrote K2 Ka; have hel := hel.wrote K2 Ka; refine Gk<|Gp<|Zj<|Zf Kr Kv rfl<|Xo Jc hB4 rfl<|Gw rfl ?_
        refine Wo rfl (Xt Ja Ku rfl rfl Ka) ?_; refine Zf Kr Kv rfl<|Ye (v := .slice _ _ _) rfl Kv rfl rfl rfl hB4 Ki Ka E13 ?_; rintro w9 E19 hB4 K3 hz3; simp only [List.set] at hB4; have hB3 := hB3.of_heap (K3 _ Ka); have hQ1 := hQ1.wrote K3 Ka; have hel := hel.wrote K3 Ka; refine Gk<|Gq<|Vs Ks Ko hB4 rfl<|Yo Ko hB3 rfl E19 ?_; rintro w10 E25 hB3 K4 hz4; have hQ1 := hQ1.wrote K4 Ka; have hel := hel.wrote K4 Ka; refine Zg rfl<|Gk<|Zi ?_
      have hlast : pp.getLastD [] = pp[pp.length - 1] := by rw [List.getLastD_eq_getLast?, List.getLast?_eq_getElem?, List.getElem?_eq_getElem Ka]; rfl
      rw [hlast, List.dropLast_eq_take]
      refine ⟨b3, ur, _, rfl, hB3, ur, _, rfl, E25, hel.above.mono Ka, ?_, icr, rfl, Ka⟩
      rw [show ((pp.length : Int) - 1).toNat = pp.length - 1 by omega]
      exact (hQ1.above.mono Ka).takeS Ka
    · have hdo : doV ⟨p, pp⟩ ⟨k, t, n⟩ = match nextV p ⟨k, t, n⟩ with
        | some c => (⟨c, last8 (pp ++ [p])⟩, true)
        | none => (⟨p, pp⟩, false) := by unfold doV; rw [if_neg hb]; rfl
      rw [hdo]
      have hback : (⟨k, t, n⟩ : Deed) = ⟨4, [], 0⟩ → pp.length = 0 := fun e => Classical.byContradiction fun h => hb ⟨e, fun h' => h (by rw [show pp = [] from h']; rfl)⟩
      have k2 : ∀ w, ESl Ints w u1 p → Does Tryz.prog 93 [u1, .agg #[.int .i64 k, str t, .int .i64 n]] w (RetOB w XR (og (madeV p ⟨k, t, n⟩)) (madeV p ⟨k, t, n⟩).isSome) := fun w h => l11Made_ok w u1 p h hpp k n t ht
      have litown : True := trivial
      by_cases ha : (⟨k, t, n⟩ : Deed) = ⟨4, [], 0⟩
      · have hpl0 := hback ha
        cases ha
        have hmv : madeV p ⟨4, [], 0⟩ = none := by simp [madeV]
        have hnx : nextV p ⟨4, [], 0⟩ = none := by unfold nextV; rw [hmv]
        rw [hmv, show og none = [] from rfl, show (none : Option (List (List Int))).isSome = false from rfl] at k2
        rw [hnx]
        simp only
        focus
          refine Gq<|Vg rfl rfl rfl ?_; rintro b1 w1 hb3 E1 hB1; have hlb1 := hB1.lt; refine Vg rfl rfl rfl ?_; rintro b2 w2 hb4 E2 hB2; have hlb2 := hB2.lt; refine Zn rfl Vd ?_; rintro b3 w3 hb5 E3 hB3; have hlb3 := hB3.lt; refine Zg rfl<|Gk<|Gp<|Gp<|Zj<|Vs Ks Ko (hB1.ext exq) rfl<|Gs rfl (Vl (a := .agg _) Jk rfl) (k0 _ ((Mono.mono exq h1)) ((Mono.mono exq h2))) ?_; rintro _ w4 ⟨rfl, E4⟩; have hs4 := E4.size; refine Vn rfl<|Gk<|Vu rfl (fun h3 => ?_) (fun h3 => ?_); contradiction; refine Gx<|Gq<|Vs Ks Ko (hB1.ext exq) rfl<|Gs rfl (Vl (a := .agg _) Jw rfl) (k1 _ ((Mono.mono exq h1)) ((Mono.mono exq h2))) ?_; rintro _ w5 ⟨u3, q1, m1, rfl, E5, hO1, hQ1, hm1, hn1⟩
          have icu3 := OwnedB.isC hO1; have icq1 := OwnedB.isC (Owned.toB hQ1); have hs5 := E5.size; refine Zn rfl Vd ?_; rintro b4 w6 hb6 E6 hB4; refine Yp rfl Ko rfl rfl Ke Ke hB4 Ka (((((E1.trans E2).trans E3).trans E4).trans E5).trans E6) ?_; rintro w7 E7 hB4 K1 hz1; have E8 := ((((E2.trans E3).trans E4).trans E5).trans E6).wroteAt exq E7 K1 hz1 Ka; have hB1 := (hB1.ext exq).of_heap (K1 _ Ka); have hB2 := (hB2.ext exq).of_heap (K1 _ Ka); have hB3 := (hB3.ext exq).of_heap (K1 _ Ka); have hO1 := (hO1.ext E6).wrote K1 Ka; have hQ1 := (hQ1.toB.ext E6).wrote K1 Ka; refine Gk<|Gp<|Gq<|Qz Jg Kz hB2 rfl ?_
          refine Wo rfl (Vf (ps := [(0, .int _ _)]) (cs := [_, _, _]) Vy rfl rfl)<|Wo rfl (Qn rfl rfl)<|Zx rfl (fun h4 => ?_) (fun h4 => ?_); refine Zf Kr Kv rfl<|Vh u2 Jc hB1 rfl<|Ze Ja rfl h2<|Yi rfl<|Yc rfl<|Gk<|Gl rfl (fun h5 => ?_) (fun h5 => ?_); (exfalso; omega); refine Gx<|Gp<|Zj<|Zf Kr Ku rfl<|Vh u1 Kw hB1 rfl<|Qz Jg Kz hB2 rfl<|Gs rfl (Zv (a := u1) (b := .agg _) Gh rfl rfl) (k2 _ ((Mono.mono E7 h1))) ?_; rintro _ w8 ⟨u4, rfl, E13, hO2⟩; refine Xl rfl<|Xh u4 rfl<|Xe rfl<|Vj u4 rfl<|Zg rfl<|Gk<|Gp<|Gp<|Yj Yg Kb rfl ?_
          refine Uh rfl<|Rs rfl<|Uj rfl (fun _ _ => Zq (v := .bool _) rfl) (fun h6 => ?_) (fun h6 => ?_); refine Gu rfl<|Gu rfl<|Gu rfl<|Gu rfl<|Gu rfl<|Gu rfl<|Gu rfl<|Gu rfl<|Gu rfl<|Gu rfl<|Gu rfl<|Gu rfl<|Gu rfl<|Gu rfl<|Rj rfl<|Yh (fun w9 E14 => ?_); refine Vp rfl ?_; refine Gq<|Vs Ks Ko (hB4.ext exq) rfl<|Yo Ko (hB3.ext (E13.trans E14)) rfl ((E7.trans E13).trans E14) ?_; rintro w10 E15 hB3 K2 hz2; have E16 := ((E8.trans E13).trans E14).wroteAt exq E15 K2 hz2 Ka; have szE16 := E16.size; have hO1 := (hO1.ext exq).wrote K2 Ka; have hQ1 := (hQ1.ext exq).wrote K2 Ka; refine Zg rfl<|Gk<|Zi ?_; rotate_left; contradiction; contradiction
        exact ⟨b3, u3, q1, rfl, hB3, u3, q1, rfl, by exact E15, hO1.above.mono Ka, hQ1.above.mono Ka, icu3, icq1, Ka⟩
      · cases hmv : madeV p ⟨k, t, n⟩ with
        | none =>
          have hnx : nextV p ⟨k, t, n⟩ = none := by unfold nextV; rw [hmv]
          rw [hmv, show og none = [] from rfl, show (none : Option (List (List Int))).isSome = false from rfl] at k2
          rw [hnx]
          simp only
          focus
            refine Gq<|Vg rfl rfl rfl ?_; rintro b1 w1 hb3 E1 hB1; have hlb1 := hB1.lt; refine Vg rfl rfl rfl ?_; rintro b2 w2 hb4 E2 hB2; have hlb2 := hB2.lt; refine Zn rfl Vd ?_; rintro b3 w3 hb5 E3 hB3; have hlb3 := hB3.lt; refine Zg rfl<|Gk<|Gp<|Gp<|Zj<|Vs Ks Ko (hB1.ext exq) rfl<|Gs rfl (Vl (a := .agg _) Jk rfl) (k0 _ ((Mono.mono exq h1)) ((Mono.mono exq h2))) ?_; rintro _ w4 ⟨rfl, E4⟩; have hs4 := E4.size; refine Vn rfl<|Gk<|Vu rfl (fun h3 => ?_) (fun h3 => ?_); contradiction; refine Gx<|Gq<|Vs Ks Ko (hB1.ext exq) rfl<|Gs rfl (Vl (a := .agg _) Jw rfl) (k1 _ ((Mono.mono exq h1)) ((Mono.mono exq h2))) ?_; rintro _ w5 ⟨u3, q1, m1, rfl, E5, hO1, hQ1, hm1, hn1⟩
            have icu3 := OwnedB.isC hO1; have icq1 := OwnedB.isC (Owned.toB hQ1); have hs5 := E5.size; refine Zn rfl Vd ?_; rintro b4 w6 hb6 E6 hB4; refine Yp rfl Ko rfl rfl Ke Ke hB4 Ka (((((E1.trans E2).trans E3).trans E4).trans E5).trans E6) ?_; rintro w7 E7 hB4 K1 hz1; have E8 := ((((E2.trans E3).trans E4).trans E5).trans E6).wroteAt exq E7 K1 hz1 Ka; have hB1 := (hB1.ext exq).of_heap (K1 _ Ka); have hB2 := (hB2.ext exq).of_heap (K1 _ Ka); have hB3 := (hB3.ext exq).of_heap (K1 _ Ka); have hO1 := (hO1.ext E6).wrote K1 Ka; have hQ1 := (hQ1.toB.ext E6).wrote K1 Ka; refine Gk<|Gp<|Gq<|Qz Jg Kz hB2 rfl ?_
            refine Wo rfl (Vf (ps := [(0, .int _ _)]) (cs := [_, _, _]) Vy rfl rfl)<|Wo rfl (Qn rfl rfl)<|Zx rfl (fun h4 => ?_) (fun h4 => ?_); contradiction; refine Gn rfl<|Gn rfl<|Gn rfl<|Gn rfl<|Ve rfl<|Gk<|Zb rfl ?_; refine Gx<|Gp<|Zj<|Zf Kr Ku rfl<|Vh u1 Kw hB1 rfl<|Qz Jg Kz hB2 rfl<|Gs rfl (Zv (a := u1) (b := .agg _) Gh rfl rfl) (k2 _ ((Mono.mono E7 h1))) ?_; rintro _ w8 ⟨u4, rfl, E13, hO2⟩; refine Xl rfl<|Xh u4 rfl<|Xe rfl<|Vj u4 rfl<|Zg rfl<|Gk<|Gp<|Gp<|Yj Yg Kb rfl ?_; refine Uh rfl<|Rs rfl<|Uj rfl (fun _ _ => Zq (v := .bool _) rfl) (fun h5 => ?_) (fun h5 => ?_); refine Gu rfl ?_
            refine Gu rfl<|Gu rfl<|Gu rfl<|Gu rfl<|Gu rfl<|Gu rfl<|Gu rfl<|Gu rfl<|Gu rfl<|Gu rfl<|Gu rfl<|Gu rfl<|Gu rfl<|Rj rfl<|Yh (fun w9 E14 => ?_); refine Vp rfl ?_; refine Gq<|Vs Ks Ko (hB4.ext exq) rfl<|Yo Ko (hB3.ext (E13.trans E14)) rfl ((E7.trans E13).trans E14) ?_; rintro w10 E15 hB3 K2 hz2; have E16 := ((E8.trans E13).trans E14).wroteAt exq E15 K2 hz2 Ka; have szE16 := E16.size; have hO1 := (hO1.ext exq).wrote K2 Ka; have hQ1 := (hQ1.ext exq).wrote K2 Ka; refine Zg rfl<|Gk<|Zi ?_; rotate_left; contradiction
          exact ⟨b3, u3, q1, rfl, hB3, u3, q1, rfl, by exact E15, hO1.above.mono Ka, hQ1.above.mono Ka, icu3, icq1, Ka⟩
        | some c =>
          rw [hmv, show og (some c) = c from rfl, show (some c).isSome = true from rfl] at k2
          have hc : LeastP c := Rm hpp hmv
          have hcp := hc.1
          have k3 : ∀ (w : World) (v : Value), ESl Ints w v c → Does Tryz.prog 62 [v] w (Ret w (str (txt c))) := fun w v h => by
            have := Yf w v _ h
            rwa [if_pos hcp] at this
          by_cases hcq : c = p
          · subst hcq
            have hnx : nextV c ⟨k, t, n⟩ = none := by unfold nextV; rw [hmv]; simp
            rw [hnx]
            simp only
            focus
              refine Gq<|Vg rfl rfl rfl ?_; rintro b1 w1 hb3 E1 hB1; have hlb1 := hB1.lt; refine Vg rfl rfl rfl ?_; rintro b2 w2 hb4 E2 hB2; have hlb2 := hB2.lt; refine Zn rfl Vd ?_; rintro b3 w3 hb5 E3 hB3; have hlb3 := hB3.lt; refine Zg rfl<|Gk<|Gp<|Gp<|Zj<|Vs Ks Ko (hB1.ext exq) rfl<|Gs rfl (Vl (a := .agg _) Jk rfl) (k0 _ ((Mono.mono exq h1)) ((Mono.mono exq h2))) ?_; rintro _ w4 ⟨rfl, E4⟩; have hs4 := E4.size; refine Vn rfl<|Gk<|Vu rfl (fun h3 => ?_) (fun h3 => ?_); contradiction; refine Gx<|Gq<|Vs Ks Ko (hB1.ext exq) rfl<|Gs rfl (Vl (a := .agg _) Jw rfl) (k1 _ ((Mono.mono exq h1)) ((Mono.mono exq h2))) ?_; rintro _ w5 ⟨u3, q1, m1, rfl, E5, hO1, hQ1, hm1, hn1⟩
              have icu3 := OwnedB.isC hO1; have icq1 := OwnedB.isC (Owned.toB hQ1); have hs5 := E5.size; refine Zn rfl Vd ?_; rintro b4 w6 hb6 E6 hB4; refine Yp rfl Ko rfl rfl Ke Ke hB4 Ka (((((E1.trans E2).trans E3).trans E4).trans E5).trans E6) ?_; rintro w7 E7 hB4 K1 hz1; have E8 := ((((E2.trans E3).trans E4).trans E5).trans E6).wroteAt exq E7 K1 hz1 Ka; have hB1 := (hB1.ext exq).of_heap (K1 _ Ka); have hB2 := (hB2.ext exq).of_heap (K1 _ Ka); have hB3 := (hB3.ext exq).of_heap (K1 _ Ka); have hO1 := (hO1.ext E6).wrote K1 Ka; have hQ1 := (hQ1.toB.ext E6).wrote K1 Ka; refine Gk<|Gp<|Gq<|Qz Jg Kz hB2 rfl ?_
              refine Wo rfl (Vf (ps := [(0, .int _ _)]) (cs := [_, _, _]) Vy rfl rfl)<|Wo rfl (Qn rfl rfl)<|Zx rfl (fun h4 => ?_) (fun h4 => ?_); contradiction; refine Gn rfl<|Gn rfl<|Gn rfl<|Gn rfl<|Ve rfl<|Gk<|Zb rfl ?_; refine Gx<|Gp<|Zj<|Zf Kr Ku rfl<|Vh u1 Kw hB1 rfl<|Qz Jg Kz hB2 rfl<|Gs rfl (Zv (a := u1) (b := .agg _) Gh rfl rfl) (k2 _ ((Mono.mono E7 h1))) ?_; rintro _ w8 ⟨u4, rfl, E13, hO2⟩; refine Xl rfl<|Xh u4 rfl<|Xe rfl<|Vj u4 rfl<|Zg rfl<|Gk<|Gp<|Gp<|Yj Yg Kb rfl ?_; refine Uh rfl<|Rs rfl<|Uj rfl (fun _ _ => Zq (v := .bool _) rfl) (fun h5 => ?_) (fun h5 => ?_); contradiction
              refine Xw u4 rfl<|Ya rfl (fun _ _ => Xj Kp rfl (Owned.read hO2)) ?_; refine Yy Kr Ku rfl<|Ya (v := u1) rfl (fun w' hw' => Zw Kw rfl (((hB1.ext E13).ext hw').cell rfl)) ?_; refine Ya rfl (fun _ _ => Xj Kp rfl h1) ?_; refine Ua rfl<|Xc rfl (fun h6 => ?_) (fun h6 => ?_); refine Xw u4 rfl<|Xq rfl (fun _ _ => Vl (a := u4) Jh rfl) (fun w' hw' => (k3 _ _ ((Mono.mono hw' (Owned.read hO2))))) ?_; refine Yy Kr Ku rfl<|Ya (v := u1) rfl (fun w' hw' => Zw Kw rfl (((hB1.ext E13).ext hw').cell rfl)) ?_; refine Xq rfl (fun _ _ => Vl (a := u1) Jh rfl) (fun w' hw' => (k3 _ _ ((Mono.mono exq h1)))) ?_; refine Ya rfl (fun _ _ => Xa rfl rfl) ?_
              refine Rj rfl<|Xx rfl<|Yh (fun w9 E14 => ?_); refine Gl rfl (fun h7 => ?_) (fun h7 => ?_); refine Gq<|Vs Ks Ko (hB4.ext exq) rfl<|Yo Ko (hB3.ext (E13.trans E14)) rfl ((E7.trans E13).trans E14) ?_; rintro w10 E15 hB3 K2 hz2; have E16 := ((E8.trans E13).trans E14).wroteAt exq E15 K2 hz2 Ka; have szE16 := E16.size; have hO1 := (hO1.ext exq).wrote K2 Ka; have hQ1 := (hQ1.ext exq).wrote K2 Ka; refine Zg rfl<|Gk<|Zi ?_; rotate_left; contradiction; contradiction
            exact ⟨b3, u3, q1, rfl, hB3, u3, q1, rfl, by exact E15, hO1.above.mono Ka, hQ1.above.mono Ka, icu3, icq1, Ka⟩
          · have hnx : nextV p ⟨k, t, n⟩ = some c := by unfold nextV; rw [hmv]; simp [hcq]
            rw [hnx]
            simp only
            have k4 : ∀ (w : World) (v : Value), ESl Ints w v p → Does Tryz.prog 62 [v] w (Ret w (str (txt p))) := fun w v h => by
              have := Yf w v _ h
              rwa [if_pos hpp] at this
            have htx : txt c ≠ txt p := fun e => hcq (txt_inj hcp.gr hpp.gr e)
            have stop12 : True := trivial
            focus
              refine Gq<|Vg rfl rfl rfl ?_; rintro b1 w1 hb3 E1 hB1; have hlb1 := hB1.lt; have hs1 := E1.size; refine Vg rfl rfl rfl ?_; rintro b2 w2 hb4 E2 hB2; have hlb2 := hB2.lt; refine Zn rfl Vd ?_; rintro b3 w3 hb5 E3 hB3; have hlb3 := hB3.lt; refine Zg rfl<|Gk<|Gp<|Gp<|Zj<|Vs Ks Ko (hB1.ext exq) rfl<|Gs rfl (Vl (a := .agg _) Jk rfl) (k0 _ ((Mono.mono exq h1)) ((Mono.mono exq h2))) ?_; rintro _ w4 ⟨rfl, E4⟩; have hs4 := E4.size; refine Vn rfl<|Gk<|Vu rfl (fun h3 => ?_) (fun h3 => ?_); contradiction; refine Gx<|Gq<|Vs Ks Ko (hB1.ext exq) rfl<|Gs rfl (Vl (a := .agg _) Jw rfl) (k1 _ ((Mono.mono exq h1)) ((Mono.mono exq h2))) ?_; rintro _ w5 ⟨u3, q1, m1, rfl, E5, hO1, hQ1, hm1, hn1⟩
              have icu3 := OwnedB.isC hO1; have icq1 := OwnedB.isC (Owned.toB hQ1); have hs5 := E5.size; refine Zn rfl Vd ?_; rintro b4 w6 hb6 E6 hB4; have hlb4 := hB4.lt; have hs6 := E6.size; refine Yp rfl Ko rfl rfl Ke Ke hB4 Ka (((((E1.trans E2).trans E3).trans E4).trans E5).trans E6) ?_; rintro w7 E7 hB4 K1 hz1; have E8 := ((((E2.trans E3).trans E4).trans E5).trans E6).wroteAt exq E7 K1 hz1 Ka; have E9 := (((E3.trans E4).trans E5).trans E6).wroteAt exq E7 K1 hz1 Ka; have E10 := ((E4.trans E5).trans E6).wroteAt exq E7 K1 hz1 Ka; have E11 := (E5.trans E6).wroteAt exq E7 K1 hz1 Ka; have hB1 := (hB1.ext exq).of_heap (K1 _ Ka); have hB2 := (hB2.ext exq).of_heap (K1 _ Ka); have hB3 := (hB3.ext exq).of_heap (K1 _ Ka); have hO1 := (hO1.ext E6).wrote K1 Ka
              have hQ1 := (hQ1.toB.ext E6).wrote K1 Ka; refine Gk<|Gp<|Gq<|Qz Jg Kz hB2 rfl<|Wo rfl (Vf (ps := [(0, .int _ _)]) (cs := [_, _, _]) Vy rfl rfl)<|Wo rfl (Qn rfl rfl)<|Zx rfl (fun h4 => ?_) (fun h4 => ?_); contradiction; refine Gn rfl<|Gn rfl<|Gn rfl<|Gn rfl<|Ve rfl<|Gk<|Zb rfl ?_; refine Gx<|Gp<|Zj<|Zf Kr Ku rfl<|Vh u1 Kw hB1 rfl<|Qz Jg Kz hB2 rfl<|Gs rfl (Zv (a := u1) (b := .agg _) Gh rfl rfl) (k2 _ ((Mono.mono E7 h1))) ?_; rintro _ w8 ⟨u4, rfl, E13, hO2⟩; have ichO2 := OwnedB.isC (Owned.toB hO2); have hs7 := E13.size; refine Xl rfl<|Xh u4 rfl<|Xe rfl ?_
              refine Vj u4 rfl<|Zg rfl<|Gk<|Gp<|Gp<|Yj Yg Kb rfl ?_; refine Uh rfl<|Rs rfl<|Uj rfl (fun _ _ => Zq (v := .bool _) rfl) (fun h5 => ?_) (fun h5 => ?_); contradiction; refine Xw u4 rfl<|Ya rfl (fun _ _ => Xj Kp rfl (Owned.read hO2)) ?_; refine Yy Kr Ku rfl<|Ya (v := u1) rfl (fun w' hw' => Zw Kw rfl (((hB1.ext E13).ext hw').cell rfl)) ?_; refine Ya rfl (fun _ _ => Xj Kp rfl h1) ?_; refine Ua rfl<|Xc rfl (fun h6 => ?_) (fun h6 => ?_); refine Xw u4 rfl<|Xq rfl (fun _ _ => Vl (a := u4) Jh rfl) (fun w' hw' => (k3 _ _ ((Mono.mono hw' (Owned.read hO2))))) ?_; refine Yy Kr Ku rfl ?_
              refine Ya (v := u1) rfl (fun w' hw' => Zw Kw rfl (((hB1.ext E13).ext hw').cell rfl)) ?_; refine Xq rfl (fun _ _ => Vl (a := u1) Jh rfl) (fun w' hw' => (k4 _ _ ((Mono.mono exq h1)))) ?_; refine Ya rfl (fun _ _ => Xa rfl rfl) ?_; refine Rj rfl<|Xx rfl<|Yh (fun w9 E14 => ?_); have hs8 := E14.size; refine Gl rfl (fun h7 => ?_) (fun h7 => ?_); contradiction; refine Gx<|Gp ?_; rotate_left; refine Gu rfl<|Gu rfl<|Gu rfl<|Gu rfl<|Gu rfl<|Gu rfl<|Xx rfl<|Xx rfl<|Yh (fun w9 E14 => ?_); have hs8 := E14.size; refine Zb rfl ?_; refine Gx<|Gp ?_; rotate_left
            · clear stop12
              have stop13 : True := trivial
              have hQ0 := hQ1
              focus
                refine Zj<|Zf Kr Kv rfl<|Vh q1 Jc (hB4.ext exq) rfl<|Zf Kr Ku rfl<|Vh u3 Kw (hB4.ext exq) rfl<|Yd rfl Ja Ku Jp rfl (OwnedB.isC (hO1.ext exq)) rfl ?_; rintro b5 w10 hb7 E15 hB5 hHb5; have hs9 := E15.size; refine Wo_app1r rfl el24 rfl rfl hB5 (hQ0.ext ((E13.trans E14).trans E15)) (hO1.ext ((E13.trans E14).trans E15)) Kf Ka Ka (((E7.trans E13).trans E14).trans E15) Ka ?_; have hT1 := (hQ0.ext ((E13.trans E14).trans E15)); rintro v1 w11 hQ0 E16 M1; have E17 := M1.ext hT1 (((E8.trans E13).trans E14).trans E15) Ka; have szE17 := E17.size
                have E18 := M1.ext hT1 (((E9.trans E13).trans E14).trans E15) Ka; have E19 := M1.ext hT1 (((E10.trans E13).trans E14).trans E15) Ka; have E20 := M1.ext hT1 (((E11.trans E13).trans E14).trans E15) Ka; have hB4 := (hB4.ext exq).moves M1 hT1 Ka; have hB1 := (hB1.ext exq).moves M1 hT1 Ka; have hB2 := (hB2.ext exq).moves M1 hT1 Ka; have hB3 := (hB3.ext exq).moves M1 hT1 Ka; have hO1 := (hO1.ext exq).moves M1 hT1 Ka; have hO2 := (hO2.toB.ext exq).moves M1 hT1 Ka; have hB5 := hB5.moves M1 hT1 Ka; have hs10 := E16.size; have icv1 := OwnedB.isC (Owned.toB hQ0); refine Zf Kr Kv rfl<|Ye (v := v1) rfl Kv rfl rfl (OwnedB.isC hQ0.toB) hB4 Ki Ka E16 ?_
                rintro w12 E21 hB4 K2 hz2; have E22 := E17.wroteAt E16 E21 K2 hz2 Ka; have E23 := E18.wroteAt E16 E21 K2 hz2 Ka; have E24 := E19.wroteAt E16 E21 K2 hz2 Ka; have E25 := E20.wroteAt E16 E21 K2 hz2 Ka; simp only [List.set] at hB4; have hB1 := hB1.of_heap (K2 _ Ka); have hB2 := hB2.of_heap (K2 _ Ka); have hB3 := hB3.of_heap (K2 _ Ka); have hO1 := hO1.wrote K2 Ka; have hO2 := hO2.wrote K2 Ka; have hB5 := hB5.of_heap (K2 _ Ka); refine Gk<|Gp<|Gp ?_
              clear stop13
              have hM : Moves w10 q1 w11 v1 := M1
              have hne := hM.ne hQ1 (b := b4) Ka Ka
              clear hQ1
              obtain ⟨nb, nc, rfl, hnc⟩ := hQ0.lit Ki
              have hnl : (pp ++ [p]).length = pp.length + 1 := Ki
              rw [hnl] at hB4 hQ0 hne hnc
              focus
                have szE7 := E7.size; refine Zj<|Zf Kr Kv rfl<|Xo Jc hB4 rfl<|Ze Ja rfl (Owned.read hQ0)<|Yi rfl<|Gk<|Gl rfl (fun h8 => ?_) (fun h8 => ?_); refine Zj<|Zf Kr Kv rfl<|Xo Jc hB4 rfl<|Wo rfl (Xi Ja Ku rfl rfl Ka) ?_; refine Zf Kr Kv rfl<|Ye (v := .slice _ _ _) rfl Kv rfl rfl rfl hB4 Ki Ka E21 ?_; rintro w13 E26 hB4 K3 hz3; have E27 := E22.wroteAt E21 E26 K3 hz3 Ka; have E28 := E23.wroteAt E21 E26 K3 hz3 Ka; simp only [List.set] at hB4; have hB3 := hB3.of_heap (K3 _ Ka); have hO2 := hO2.wrote K3 Ka; refine Gk<|Gq<|Gz u4 rfl ?_
                refine Zf Kr Ku rfl<|Ye (v := u4) rfl Ku rfl rfl (OwnedB.isC hO2) hB4 Ki Ka E26 ?_; rintro w14 E31 hB4 K4 hz4; simp only [List.set] at hB4; have hB3 := hB3.of_heap (K4 _ Ka); have hO2 := hO2.wrote K4 Ka; refine Gk<|Gq<|Vs Ks Ko hB4 rfl<|Yo Ko hB3 rfl E31 ?_; rintro w15 E36 hB3 K5 hz5; have hO2 := hO2.wrote K5 Ka; refine Zg rfl<|Gk<|Zi ?_; rotate_left; refine Gx<|Gq<|Gz u4 rfl<|Zf Kr Ku rfl<|Ye (v := u4) rfl Ku rfl rfl (OwnedB.isC hO2) hB4 Ki Ka E21 ?_; rintro w13 E26 hB4 K3 hz3; simp only [List.set] at hB4; have hB3 := hB3.of_heap (K3 _ Ka); have hO2 := hO2.wrote K3 Ka; refine Gk<|Gq ?_
                refine Vs Ks Ko hB4 rfl<|Yo Ko hB3 rfl E26 ?_; rintro w14 E31 hB3 K4 hz4; have hO2 := hO2.wrote K4 Ka; refine Zg rfl<|Gk<|Zi ?_; rotate_left
              · have hQ3 := (hQ0.wroteLt (w' := w15) (fun k h1 h2 => (K5 k Ka).trans ((K4 k h2).trans ((K3 k h2).trans (K2 k h2)))) Ka hne).above.mono (show w.heap.size ≤ w4.heap.size by omega)
                refine ⟨b3, u4, _, rfl, hB3, u4, _, rfl, by exact E36, hO2.above.mono Ka, ?_, Kd, rfl, Ka⟩
                rw [show last8 (pp ++ [p]) = (pp ++ [p]).drop 1 from if_pos Ka]
                exact hQ3.dropS Ka
              · have hQ3 := (hQ0.wroteLt (w' := w14) (fun k h1 h2 => (K4 k Ka).trans ((K3 k h2).trans (K2 k h2))) Ka hne).above.mono (show w.heap.size ≤ w4.heap.size by omega)
                refine ⟨b3, u4, _, rfl, hB3, u4, _, rfl, by exact E31, hO2.above.mono Ka, ?_, Kd, rfl, Ka⟩
                rw [show last8 (pp ++ [p]) = pp ++ [p] from if_neg Ka]
                exact hQ3
            · clear stop12
              have stop13 : True := trivial
              have hQ0 := hQ1
              focus
                refine Zj<|Zf Kr Kv rfl<|Vh q1 Jc (hB4.ext exq) rfl<|Zf Kr Ku rfl<|Vh u3 Kw (hB4.ext exq) rfl<|Yd rfl Ja Ku Jp rfl (OwnedB.isC (hO1.ext exq)) rfl ?_; rintro b5 w10 hb7 E15 hB5 hHb5; have hs9 := E15.size; refine Wo_app1r rfl el24 rfl rfl hB5 (hQ0.ext ((E13.trans E14).trans E15)) (hO1.ext ((E13.trans E14).trans E15)) Kf Ka Ka (((E7.trans E13).trans E14).trans E15) Ka ?_; have hT1 := (hQ0.ext ((E13.trans E14).trans E15)); rintro v1 w11 hQ0 E16 M1; have E17 := M1.ext hT1 (((E8.trans E13).trans E14).trans E15) Ka; have szE17 := E17.size
                have E18 := M1.ext hT1 (((E9.trans E13).trans E14).trans E15) Ka; have E19 := M1.ext hT1 (((E10.trans E13).trans E14).trans E15) Ka; have E20 := M1.ext hT1 (((E11.trans E13).trans E14).trans E15) Ka; have hB4 := (hB4.ext exq).moves M1 hT1 Ka; have hB1 := (hB1.ext exq).moves M1 hT1 Ka; have hB2 := (hB2.ext exq).moves M1 hT1 Ka; have hB3 := (hB3.ext exq).moves M1 hT1 Ka; have hO1 := (hO1.ext exq).moves M1 hT1 Ka; have hO2 := (hO2.toB.ext exq).moves M1 hT1 Ka; have hB5 := hB5.moves M1 hT1 Ka; have hs10 := E16.size; have icv1 := OwnedB.isC (Owned.toB hQ0); refine Zf Kr Kv rfl<|Ye (v := v1) rfl Kv rfl rfl (OwnedB.isC hQ0.toB) hB4 Ki Ka E16 ?_
                rintro w12 E21 hB4 K2 hz2; have E22 := E17.wroteAt E16 E21 K2 hz2 Ka; have E23 := E18.wroteAt E16 E21 K2 hz2 Ka; have E24 := E19.wroteAt E16 E21 K2 hz2 Ka; have E25 := E20.wroteAt E16 E21 K2 hz2 Ka; simp only [List.set] at hB4; have hB1 := hB1.of_heap (K2 _ Ka); have hB2 := hB2.of_heap (K2 _ Ka); have hB3 := hB3.of_heap (K2 _ Ka); have hO1 := hO1.wrote K2 Ka; have hO2 := hO2.wrote K2 Ka; have hB5 := hB5.of_heap (K2 _ Ka); refine Gk<|Gp<|Gp ?_
              clear stop13
              have hM : Moves w10 q1 w11 v1 := M1
              have hne := hM.ne hQ1 (b := b4) Ka Ka
              clear hQ1
              obtain ⟨nb, nc, rfl, hnc⟩ := hQ0.lit Ki
              have hnl : (pp ++ [p]).length = pp.length + 1 := Ki
              rw [hnl] at hB4 hQ0 hne hnc
              focus
                have szE7 := E7.size; refine Zj<|Zf Kr Kv rfl<|Xo Jc hB4 rfl<|Ze Ja rfl (Owned.read hQ0)<|Yi rfl<|Gk<|Gl rfl (fun h7 => ?_) (fun h7 => ?_); refine Zj<|Zf Kr Kv rfl<|Xo Jc hB4 rfl<|Wo rfl (Xi Ja Ku rfl rfl Ka) ?_; refine Zf Kr Kv rfl<|Ye (v := .slice _ _ _) rfl Kv rfl rfl rfl hB4 Ki Ka E21 ?_; rintro w13 E26 hB4 K3 hz3; have E27 := E22.wroteAt E21 E26 K3 hz3 Ka; have E28 := E23.wroteAt E21 E26 K3 hz3 Ka; simp only [List.set] at hB4; have hB3 := hB3.of_heap (K3 _ Ka); have hO2 := hO2.wrote K3 Ka; refine Gk<|Gq<|Gz u4 rfl ?_
                refine Zf Kr Ku rfl<|Ye (v := u4) rfl Ku rfl rfl (OwnedB.isC hO2) hB4 Ki Ka E26 ?_; rintro w14 E31 hB4 K4 hz4; simp only [List.set] at hB4; have hB3 := hB3.of_heap (K4 _ Ka); have hO2 := hO2.wrote K4 Ka; refine Gk<|Gq<|Vs Ks Ko hB4 rfl<|Yo Ko hB3 rfl E31 ?_; rintro w15 E36 hB3 K5 hz5; have hO2 := hO2.wrote K5 Ka; refine Zg rfl<|Gk<|Zi ?_; rotate_left; refine Gx<|Gq<|Gz u4 rfl<|Zf Kr Ku rfl<|Ye (v := u4) rfl Ku rfl rfl (OwnedB.isC hO2) hB4 Ki Ka E21 ?_; rintro w13 E26 hB4 K3 hz3; simp only [List.set] at hB4; have hB3 := hB3.of_heap (K3 _ Ka); have hO2 := hO2.wrote K3 Ka; refine Gk<|Gq ?_
                refine Vs Ks Ko hB4 rfl<|Yo Ko hB3 rfl E26 ?_; rintro w14 E31 hB3 K4 hz4; have hO2 := hO2.wrote K4 Ka; refine Zg rfl<|Gk<|Zi ?_; rotate_left
              · have hQ3 := (hQ0.wroteLt (w' := w15) (fun k h1 h2 => (K5 k Ka).trans ((K4 k h2).trans ((K3 k h2).trans (K2 k h2)))) Ka hne).above.mono (show w.heap.size ≤ w4.heap.size by omega)
                refine ⟨b3, u4, _, rfl, hB3, u4, _, rfl, by exact E36, hO2.above.mono Ka, ?_, Kd, rfl, Ka⟩
                rw [show last8 (pp ++ [p]) = (pp ++ [p]).drop 1 from if_pos Ka]
                exact hQ3.dropS Ka
              · have hQ3 := (hQ0.wroteLt (w' := w14) (fun k h1 h2 => (K4 k Ka).trans ((K3 k h2).trans (K2 k h2))) Ka hne).above.mono (show w.heap.size ≤ w4.heap.size by omega)
                refine ⟨b3, u4, _, rfl, hB3, u4, _, rfl, by exact E31, hO2.above.mono Ka, ?_, Kd, rfl, Ka⟩
                rw [show last8 (pp ++ [p]) = pp ++ [p] from if_neg Ka]
                exact hQ3
  · have k0 : ∀ w, ESl Ints w u1 p → ESl (ESl Ints) w u2 pp → Does Tryz.prog 16 [.agg #[u1, u2]] w (Ret w (.bool false)) := fun w h1 h2 => by
      have := Xg w u1 u2 ⟨p, pp⟩ h1 h2; rwa [decide_eq_false hd] at this
    rw [if_neg hd, if_neg hd, decide_eq_false hd, Bool.false_and]
    focus
      refine Gq<|Vg rfl rfl rfl ?_; rintro b1 w1 hb1 E1 hB1; have hlb1 := hB1.lt; refine Vg rfl rfl rfl ?_; rintro b2 w2 hb2 E2 hB2; have hlb2 := hB2.lt; refine Zn rfl Vd ?_; rintro b3 w3 hb3 E3 hB3; refine Zg rfl<|Gk<|Gp<|Gp<|Zj<|Vs Ks Ko (hB1.ext exq) rfl<|Gs rfl (Vl (a := .agg _) Jk rfl) (k0 _ ((Mono.mono exq h1)) ((Mono.mono exq h2))) ?_; rintro _ w4 ⟨rfl, E4⟩; refine Vn rfl<|Gk<|Vu rfl (fun h3 => ?_) (fun h3 => ?_); refine Gq<|Wo rfl (Vf (ps := []) (cs := [_, _]) Vd rfl rfl)<|Yp rfl Ko rfl rfl Ke Ke (hB3.ext E4) Ka (((E1.trans E2).trans E3).trans E4) ?_; rintro w5 E5 hB3 K1 hz1; have E6 := ((E2.trans E3).trans E4).wroteAt exq E5 K1 hz1 Ka; have szE6 := E6.size
      refine Zg rfl<|Gk<|Zi ?_; rotate_left; contradiction
    exact ⟨b3, _, _, rfl, hB3, _, _, rfl, by exact E5, (Owned.nil (e := 0) (X := XSl 0 XInt)).above, (Owned.nil (e := 0) (X := XSl 0 (XSl 0 XInt))).above, rfl, rfl, Ka⟩
end Go.Proofs.YtbgpppaljpngmaaGreatDoor
namespace Go.Proofs.YtbgpppaljpngmaaGreatDoor
open Go.Hs
set_option maxRecDepth 10000
set_option maxHeartbeats 4000000
set_option linter.unusedVariables false
set_option linter.unusedSimpArgs false
theorem sameDesk_ok (w : World) (u1 u2 v1 v2 : Value) (p p' : List (List Int)) (q q' : List (List (List Int))) (h1 : ESl Ints w u1 p) (h2 : ESl (ESl Ints) w u2 q) (h3 : ESl Ints w v1 p') (h4 : ESl (ESl Ints) w v2 q') :
    Does Tryz.prog 15 [.agg #[u1, u2], .agg #[v1, v2]] w (Ret w (.bool (decide (p = p' ∧ q = q')))) := by
  have icu1 : isCell u1 = true := Xb h1
  have icu2 : isCell u2 = true := Xb h2
  have icv1 : isCell v1 = true := Xb h3
  have icv2 : isCell v2 = true := Xb h4
  have hle := h2.le
  have hle' := h4.le
  refine Zr Tryz.func15 rfl Tryz.results15 Tryz.ntmps15 rfl ?_
  focus
    refine Gq<|Vg rfl rfl rfl ?_; rintro b1 w1 hb1 E1 hB1; refine Vg rfl rfl rfl ?_; rintro b2 w2 hb2 E2 hB2; refine Zg rfl<|Gk<|Gp<|Gq<|Zf Kr Kv rfl<|Vh u2 Jc (hB1.ext E2) rfl<|Ze Ja rfl h2<|Zf Kr Kv rfl<|Vh v2 Jc hB2 rfl<|Ze Ja rfl h4<|Xz rfl<|Gk<|Vi rfl (fun h5 => ?_) (fun h5 => ?_); refine Gq<|Zg rfl<|Gk<|Zi ?_; refine Zl (v := .bool _) rfl ?_; refine ⟨congrArg Value.bool ?_, exq⟩; rotate_left; refine Gx<|Gp<|Gq<|Zp rfl<|Gk<|Gv ?_; rotate_left
  · exact (decide_eq_false (fun e => by obtain ⟨_, e⟩ := e; subst e; omega)).symm
  refine Zy [4, 5, 13, 14, 15, 16, 17, 18, 19, 20, 21, 22, 23, 24, 25, 26, 27, 28, 29, 30, 31] (fun (k : Nat) => [(5, .int .i64 (k : Nat))]) (fun k w' => Ext w2 w' ∧ k ≤ q.length ∧ q.take k = q'.take k) (fun x => q.length - x) 0 Kg ?_ ?_
  · exact ⟨Ext.refl _, Nat.zero_le _, Ki⟩
  rintro k ρj w3 ⟨E3, hk, he⟩
  focus
    refine Gp<|Gq<|Gw rfl<|Zf Kr Kv rfl<|Vh u2 Jc (hB1.ext exq) rfl<|Ze Ja rfl h2<|Zk rfl<|Gk<|Gl rfl (fun h6 => ?_) (fun h6 => ?_); refine Gx<|Gp<|Gv<|Gp<|Yj Yg Kb rfl ?_; refine Yy Kr Kv rfl<|Ya (v := u2) rfl (fun w' hw' => Zw Jc rfl (((hB1.ext exq).ext hw').cell rfl)) ?_; refine Qj rfl<|Ys Ja Ku Kw rfl (fun _ => rfl) rfl h2 exq rfl Kf ?_; rintro _ u3 hu1; refine Yy Kr Kv rfl<|Ya (v := v2) rfl (fun w' hw' => Zw Jc rfl (((hB2.ext E3).ext hw').cell rfl)) ?_
    refine Qj rfl<|Ys Ja Ku Kw rfl (fun _ => rfl) rfl h4 exq rfl Kf ?_; rintro _ u4 hu2; refine Xq rfl (fun _ _ => Zv (a := u3) (b := u4) Tryz.call72 rfl rfl) (fun w' hw' => (sameRows_ok _ _ _ _ _ ((Mono.mono exq hu1)) ((Mono.mono exq hu2)))) ?_; refine Rs rfl<|Yh (fun w4 E4 => ?_); refine Vi rfl (fun h7 => ?_) (fun h7 => ?_); refine Gq<|Zg rfl<|Gk<|Zi ?_; refine Zl (v := .bool _) rfl ?_; refine ⟨congrArg Value.bool ?_, exq⟩; rotate_left; refine Gx<|Zj<|Gw rfl<|Zt rfl<|Zp rfl<|Gk ?_; rotate_left; refine Zu ?_; refine Za ?_; refine Gq<|Zf Kr Ku rfl<|Vh u1 Kw (hB1.ext exq) rfl<|Zf Kr Ku rfl<|Vh v1 Kw (hB2.ext E3) rfl ?_
    refine Gs rfl (Zv (a := u1) (b := v1) Tryz.call72 rfl rfl) (sameRows_ok _ _ _ _ _ ((Mono.mono exq h1)) ((Mono.mono exq h3))) ?_; rintro _ w4 ⟨rfl, E4⟩; refine Zg rfl<|Gk<|Zi ?_; refine Zl (v := .bool _) rfl ?_; refine ⟨congrArg Value.bool ?_, exq⟩; rotate_left
  · exact (decide_eq_false (fun e => ne_at (k := k) Ka Ka Kd e.2)).symm
  · refine ⟨(k + 1), Kg, Kh, ?_, ?_⟩
    · exact ⟨E3.trans Kd, Ka, (Qb Ka Ka).2 ⟨he, Kd⟩⟩
    · omega
  · obtain rfl : k = q.length := by omega
    have hq := ext_take Ka he
    rw [hq]
    simp
theorem noDesk_ok (w : World) (u1 u2 : Value) (p : List (List Int)) (q : List (List (List Int))) (h1 : ESl Ints w u1 p) (h2 : ESl (ESl Ints) w u2 q) :
    Does Tryz.prog 17 [.agg #[u1, u2]] w (Ret w (.bool (decide (p = [] ∧ q = [])))) := by
  have icu1 : isCell u1 = true := Xb h1
  have icu2 : isCell u2 = true := Xb h2
  have kD := fun (w : World) (h1 : ESl Ints w u1 p) (h2 : ESl (ESl Ints) w u2 q) => sameDesk_ok w u1 u2 (.slice none 0 0) (.slice none 0 0) p [] q [] h1 h2 ⟨_, _, rfl, RSl.nil⟩ ⟨_, _, rfl, RSl.nil⟩
  refine Zr Tryz.func17 rfl Tryz.results17 Tryz.ntmps17 rfl ?_
  focus
    refine Gq<|Vg rfl rfl rfl ?_; rintro b1 w1 hb1 E1 hB1; refine Zg rfl<|Gk<|Gp<|Zj<|Vs Ks Ko hB1 rfl<|Wo rfl (Vf (ps := []) (cs := [_, _]) Vd rfl rfl)<|Gs rfl (Zv (a := .agg _) (b := .agg _) Tryz.call15 rfl rfl) (kD _ ((Mono.mono E1 h1)) ((Mono.mono E1 h2))) ?_; rintro _ w2 ⟨rfl, E2⟩; refine Zg rfl<|Gk<|Zi ?_; exact ⟨rfl, exq⟩
end Go.Proofs.YtbgpppaljpngmaaGreatDoor
namespace Go.Proofs.YtbgpppaljpngmaaGreatDoor
open Go.Hs
set_option maxRecDepth 10000
set_option maxHeartbeats 4000000
set_option linter.unusedVariables false
set_option linter.unusedSimpArgs false
end Go.Proofs.YtbgpppaljpngmaaGreatDoor
set_option linter.unusedVariables false
set_option linter.unusedSimpArgs false
namespace Go.Hs
open Go.RowKit (Below)
def dcs (l : List Deed) : List Value := l.flatMap fun a => [.int .i64 a.kind, str a.text, .int .i64 a.node]
theorem dcs_len (l : List Deed) : (dcs l).length = l.length * 3 := by
  induction l with
  | nil => rfl
  | cons a l ih => simp only [dcs, List.flatMap_cons, List.length_append, List.length_cons, List.length_nil] at ih ⊢; omega
theorem dcs_app (l m : List Deed) : dcs (l ++ m) = dcs l ++ dcs m := by simp [dcs]
theorem dcs_at : ∀ (l : List Deed) (i : Nat) (h : i < l.length), (dcs l)[i * 3]? = some (.int .i64 l[i].kind) ∧ (dcs l)[i * 3 + 1]? = some (str l[i].text) ∧ (dcs l)[i * 3 + 2]? = some (.int .i64 l[i].node)
  | a :: l, 0, _ => ⟨rfl, rfl, rfl⟩
  | a :: l, i + 1, h => by
    have := dcs_at l i (by simpa using h)
    simp only [List.getElem_cons_succ]
    have e : dcs (a :: l) = [.int .i64 a.kind, str a.text, .int .i64 a.node] ++ dcs l := rfl
    have e1 : (i + 1) * 3 = i * 3 + 3 := Ka
    rw [e, e1]
    refine ⟨?_, ?_, ?_⟩
    · rw [List.getElem?_append_right Ki]; simpa using this.1
    · rw [List.getElem?_append_right Ki]; simpa using this.2.1
    · rw [List.getElem?_append_right Ki]; simpa using this.2.2
theorem dcs_one {l : List Deed} {u : Value} (h : u ∈ dcs l) : isCell u = true := by
  obtain ⟨a, _, h⟩ := List.mem_flatMap.1 h
  simp only [List.mem_cons, List.not_mem_nil, or_false] at h
  rcases h with rfl | rfl | rfl <;> rfl
def OD (e : TypeId) (lo : Nat) (w : World) (v : Value) (l : List Deed) : Prop := w.ownsRow lo e 3 v l.length (dcs l) ∧ ∀ a ∈ l, a.text.length ≤ 9223372036854775807
section
variable {e : TypeId} {lo : Nat} {w w' w0 : World} {v : Value} {l m : List Deed}
theorem OD.ext (h : OD e lo w v l) (k : Ext w w') : OD e lo w' v l :=
  ⟨h.1.kept (row := none) ⟨k.os, k.tape, k.output, k.size, fun i hi _ => k.block i hi⟩ (by cases hv : v.ownBlock <;> simp), h.2⟩
instance : Mono (OD e lo) := ⟨fun k h => h.ext k⟩
theorem OD.lt (h : OD e lo w v l) {k : Nat} (hk : v.ownBlock = some k) : lo ≤ k ∧ k < w.heap.size := h.1.lt k hk
theorem OD.read (h : OD e lo w v l) : ESD w v l := by
  have hA := h.1.2
  rcases hA with ⟨rfl, h0⟩ | ⟨g, cap, cur, rfl, hb, hg, hnc, hcm, hcs, ht⟩
  · have : l = [] := List.eq_nil_of_length_eq_zero h0
    subst this
    exact ⟨none, 0, rfl, Ki, .inl rfl⟩
  · refine ⟨_, _, rfl, by unfold maxLen at hcm; omega, .inr ⟨g, 0, rfl, fun i hi => ?_⟩⟩
    obtain ⟨h1, h2, h3⟩ := dcs_at l i hi
    have c0 := h.1.cellAt (i * 3) Ka
    have c1 := h.1.cellAt (i * 3 + 1) Ka
    have c2 := h.1.cellAt (i * 3 + 2) Ka
    rw [Nat.zero_add]
    exact ⟨c0.trans h1, c1.trans h2, c2.trans h3, h.2 _ (List.getElem_mem hi)⟩
theorem OD.blk {b n : Nat} (hb : w.heap[b]? = some (.cells (dcs l).toArray e (0, 0))) (hl : lo ≤ b) (hn : l.length = n) (hm : n ≤ maxLen) (hx : ∀ a ∈ l, a.text.length ≤ 9223372036854775807) : OD e lo w (.slice (some ⟨b, 0, none⟩) n n) l := by
  subst hn
  exact ⟨⟨dcs_len l, .inr ⟨b, l.length, (dcs l).toArray, rfl, hl, hb, Nat.le_refl _, hm, by simp [dcs_len], by rw [List.take_of_length_le (by simp [dcs_len])]⟩⟩, hx⟩
end
structure ElD (P : Program) (t e : TypeId) : Prop where
  und : P.underlying t = some (.slice e)
  info : ∃ i, P.info? e = some i ∧ i.zero = some (.agg #[.int .i64 0, str [], .int .i64 0]) ∧ i.size = 3 ∧ i.bytes ≤ 64
  size : ∀ w, (sizeOf e).run P w = .ok 3 w
  zero : ∀ w, (zeroValue e).run P w = .ok (.agg #[.int .i64 0, str [], .int .i64 0]) w
theorem ElD.of {P : Program} {t e : TypeId} (hu : P.underlying t = some (.slice e)) (h : (P.info? e).map (fun i => (i.zero, i.size, Nat.ble i.bytes 64)) = some (some (.agg #[.int .i64 0, str [], .int .i64 0]), 3, true))
    (hs : ∀ w, (sizeOf e).run P w = .ok 3 w) (hz : ∀ w, (zeroValue e).run P w = .ok (.agg #[.int .i64 0, str [], .int .i64 0]) w) : ElD P t e := by
  refine ⟨hu, ?_, hs, hz⟩
  cases hi : P.info? e with
  | none => rw [hi] at h; cases h
  | some i =>
    rw [hi] at h
    simp only [Option.map_some, Option.some.injEq, Prod.mk.injEq] at h
    exact ⟨i, rfl, h.1, h.2.1, by simpa using h.2.2⟩
section
variable {P : Program} {n : Nat} {N : Env → World → Prop} {ρ : Env} {w w0 : World} {all : Array Oper} {rest : List Oper} {d : Nat} {ty t el : TypeId} {pos : String} {after : Array Edge} {g : Option (Nat × Bool)} {x y z s : Operand} {v : Value} {l m : List Deed} {lo : Nat} {a1 a2 a3 : Deed}
theorem run_buildD1 (hT : ElD P t el) : (Instr.buildSlice t 1 #[(0, dv a1)]).run P w = .ok (.slice (some ⟨w.heap.size, 0, none⟩) 1 1) (w.alloc (.cells (dcs [a1]).toArray el)) := by
  simp [Instr.buildSlice, Yn hT.und, hT.size, hT.zero, newRow, Instr.fill, dv, Value.cells, dcs, Array.range]
  refine congrArg (fun c => w.alloc (Obj.cells c el)) ?_
  apply Array.ext'
  simp [List.ofFn, Fin.foldr, Fin.foldr.loop]
theorem Wo_buildD0 (hw : wantedE all ⟨some d, .buildSlice t 0 #[], ty, pos, after, g⟩ ρ = true) (hT : ElD P t el)
    (hk : ∀ b w1, w.heap.size ≤ b → Ext w w1 → OD el w.heap.size w1 (.slice (some ⟨b, 0, none⟩) 0 0) [] → Wops P n all rest N (upd ρ d (.slice (some ⟨b, 0, none⟩) 0 0)) w1) :
    Wops P n all (⟨some d, .buildSlice t 0 #[], ty, pos, after, g⟩ :: rest) N ρ w := by
  refine Wo_w hw (show OpW P (.buildSlice t 0 #[]) ty ρ w (.slice (some ⟨w.heap.size, 0, none⟩) 0 0) (w.alloc (.cells (dcs []).toArray el)) from ?_) (hk _ _ (Nat.le_refl _) ((Ext.refl w).alloc _) (OD.blk (heap_alloc_new w _) (Nat.le_refl _) rfl (by unfold maxLen; omega) (fun a h => by cases h)))
  simp [OpW, execOp, Instr.buildSlice, Yn hT.und, hT.size, newRow, show Array.range 0 = #[] from rfl, Instr.fill, dcs]
theorem Wo_buildD1 (hw : wantedE all ⟨some d, .buildSlice t 1 #[(0, x)], ty, pos, after, g⟩ ρ = true) (hT : ElD P t el) (hx : evalE ρ x = dv a1) (h1 : a1.text.length ≤ 9223372036854775807)
    (hk : ∀ b w1, w.heap.size ≤ b → Ext w w1 → OD el w.heap.size w1 (.slice (some ⟨b, 0, none⟩) 1 1) [a1] → Wops P n all rest N (upd ρ d (.slice (some ⟨b, 0, none⟩) 1 1)) w1) :
    Wops P n all (⟨some d, .buildSlice t 1 #[(0, x)], ty, pos, after, g⟩ :: rest) N ρ w := by
  refine Wo_w hw (show OpW P (.buildSlice t 1 #[(0, x)]) ty ρ w (.slice (some ⟨w.heap.size, 0, none⟩) 1 1) (w.alloc (.cells (dcs [a1]).toArray el)) from ?_) (hk _ _ (Nat.le_refl _) ((Ext.refl w).alloc _) (OD.blk (heap_alloc_new w _) (Nat.le_refl _) rfl (by unfold maxLen; omega) (by simpa using h1)))
  simp [OpW, execOp, hx, run_buildD1 hT]
end
end Go.Hs
set_option linter.unusedVariables false
set_option linter.unusedSimpArgs false
namespace Go.Hs
section
variable {e : TypeId} {lo : Nat} {w w' w0 : World} {v : Value} {l m : List Deed} {b n c k : Nat} {u : Value}
theorem OD.wrote {b' : Nat} (h : OD e lo w v l) (K : ∀ k, k ≠ b' → w'.heap[k]? = w.heap[k]?) (hb : v.ownBlock ≠ some b') : OD e lo w' v l := by
  refine ⟨?_, h.2⟩
  rcases h.1.2 with ⟨rfl, h0⟩ | ⟨g, cap, cur, rfl, hb2, hg, hnc, hcm, hcs, ht⟩
  · exact ⟨h.1.1, .inl ⟨rfl, h0⟩⟩
  · exact ⟨h.1.1, .inr ⟨g, cap, cur, rfl, hb2, (K g (fun e => hb (by rw [← e]; rfl))).trans hg, hnc, hcm, hcs, ht⟩⟩
end
section
variable {P : Program} {N : Env → World → Prop} {ρ : Env} {w w0 : World} {all : Array Oper} {rest : List Oper} {d : Nat} {ty t el e : TypeId} {pos : String} {after : Array Edge} {g : Option (Nat × Bool)} {x y : Operand} {l : List Deed} {lo b n c k : Nat} {nn : Nat}
theorem made3 (m : Nat) : madeCells (Value.agg #[.int .i64 0, str [], .int .i64 0]).cells (m * 3) = (dcs (List.replicate m ⟨0, [], 0⟩)).toArray := by
  apply Array.ext'
  unfold madeCells
  simp only [Value.cells, Array.toList_map, Array.toList_range]
  induction m with
  | zero => rfl
  | succ m ih =>
    rw [show (m + 1) * 3 = m * 3 + 1 + 1 + 1 by omega, List.range_succ, List.range_succ, List.range_succ, List.replicate_succ', dcs_app]
    simp only [List.map_append, List.map_cons, List.map_nil, List.append_assoc, List.cons_append, List.nil_append]
    rw [ih]
    have e0 : m * 3 % 3 = 0 := Ka
    have e1 : (m * 3 + 1) % 3 = 1 := Ka
    have e2 : (m * 3 + 1 + 1) % 3 = 2 := Ka
    simp [dcs, e0, e1, e2]
theorem Wo_makeD {kk : IntKind} {m : Nat} (hw : wantedE all ⟨some d, .makeSlice t x x, ty, pos, after, g⟩ ρ = true) (hel : ElD P t e) (hx : evalE ρ x = .int kk (m : Int)) (ha : m ≤ 1099511627776)
    (hk : ∀ b w1, w.heap.size ≤ b → b < w1.heap.size → Ext w w1 → OD e w.heap.size w1 (.slice (some ⟨b, 0, none⟩) m m) (List.replicate m ⟨0, [], 0⟩) → Wops P nn all rest N (upd ρ d (.slice (some ⟨b, 0, none⟩) m m)) w1) :
    Wops P nn all (⟨some d, .makeSlice t x x, ty, pos, after, g⟩ :: rest) N ρ w := by
  obtain ⟨i, hi, hz, hs, hby⟩ := hel.info
  have hm : ((i.bytes : Int) * (m : Int)) ≤ 281474976710656 := by
    have : i.bytes * m ≤ 64 * 1099511627776 := Nat.mul_le_mul hby Ka
    have h2 : ((i.bytes * m : Nat) : Int) ≤ 70368744177664 := Ka
    have h3 : ((i.bytes * m : Nat) : Int) = (i.bytes : Int) * (m : Int) := Int.natCast_mul _ _
    rw [← h3]; omega
  have hr := run_make (P := P) w t e i _ hel.und hi hz kk kk (m : Int) (m : Int) Ka (Int.le_refl _) hm Ka
  rw [hs, Int.toNat_natCast, made3] at hr
  refine Qi (v := .slice (some ⟨w.heap.size, 0, none⟩) m m) (w' := w.alloc (.cells (dcs (List.replicate m ⟨0, [], 0⟩)).toArray e)) hw ?_ (hk _ _ (Nat.le_refl _) Ki ((Ext.refl w).alloc _)
    (OD.blk (heap_alloc_new w _) (Nat.le_refl _) Ki (by unfold maxLen; omega) (fun a h => by rw [List.eq_of_mem_replicate h]; simp)))
  simp only [execOp, Sem.run_bind, Sem.run_pure, Result.andThen_ok, hx, hr]
end
end Go.Hs
namespace Go.Proofs.YtbgpppaljpngmaaGreatDoor
open Go.Hs
set_option maxRecDepth 10000
set_option maxHeartbeats 4000000
set_option linter.unusedVariables false
set_option linter.unusedSimpArgs false
end Go.Proofs.YtbgpppaljpngmaaGreatDoor
set_option linter.unusedVariables false
namespace Go.Hs
variable {P : Program} {n fuel : Nat} {N : Env → World → Prop} {ρ : Env} {w w0 : World} {all : Array Oper} {S : World → Prop} {listed : Array Bool} {d d2 : Nat} {ty t el tl ty2 : TypeId} {pos pos2 : String} {after after2 : Array Edge} {g g2 : Option (Nat × Bool)} {x y : Operand} {v : Value}
theorem Wh_getD {l : List Deed} {k : Nat} (i j : Nat) (hi : all[i]? = some ⟨some d, .indexAddr t x y, ty, pos, after, g⟩) (hf : Region.free .any all listed i = true) (hr : (Region.ready .any all listed).contains i = true)
    (hw : wantedE all ⟨some d, .indexAddr t x y, ty, pos, after, g⟩ ρ = true)
    (hi2 : all[j]? = some ⟨some d2, .load tl (.tmp d), ty2, pos2, after2, g2⟩) (hf2 : Region.free .any all (listed.setIfInBounds i true) j = true) (hr2 : (Region.ready .any all (listed.setIfInBounds i true)).contains j = true)
    (hw2 : ∀ v, wantedE all ⟨some d2, .load tl (.tmp d), ty2, pos2, after2, g2⟩ (upd ρ d v) = true)
    (ht : P.underlying t = some (.slice el)) (hs : ∀ w, (sizeOf el).run P w = .ok 3 w) (hta : ∀ w, (isAgg tl).run P w = .ok true w) (hts : ∀ w, (sizeOf tl).run P w = .ok 3 w)
    (hx : evalE ρ x = v) (hR : ESD w0 v l) (hE : ∀ w', S w' → Ext w0 w') (hy : evalE ρ y = .int .i64 (k : Int)) (hk : k < l.length) (hS : S w)
    (hk' : ∀ ad, Wh P n all S fuel ((listed.setIfInBounds i true).setIfInBounds j true) N (upd (upd ρ d (.pointer (some ad))) d2 (dv l[k])) w) :
    Wh P n all S (fuel + 2) listed N ρ w := by
  obtain ⟨a, c, rfl, h1, h2⟩ := hR
  rcases h2 with rfl | ⟨b, o, rfl, h⟩
  · cases hk
  have hD := h k hk
  refine Zh i hi hf hr hw (fun _ _ => opv_indexAddr3 ht hs hx hy hk) hS ?_
  refine Zh j hi2 hf2 hr2 (hw2 _) (fun w' hw' => opv_load3o hta hts ?_ (hD.ext (hE w' hw')).1 (hD.ext (hE w' hw')).2.1 (hD.ext (hE w' hw')).2.2.1) hS (hk' _)
  show upd ρ d _ d = _
  unfold upd; rw [Nat.beq_refl]; rfl
end Go.Hs
set_option linter.unusedVariables false
namespace Go.Hs
end Go.Hs
set_option linter.unusedVariables false
namespace Go.Hs
def RetDkZ (w : World) (e0 e1 e2 : TypeId) (now : List (List Int)) (past : List (List (List Int))) (z : Int) : Value → World → Prop := fun v w' => ∃ u1 u2 m, v = .tuple #[.agg #[u1, u2], .int .i64 z] ∧ Ext w w' ∧ OwnedB w.heap.size m (XSl e1 (XSl e2 XInt)) w' u1 now ∧ Owned m (XSl e0 (XSl e1 (XSl e2 XInt))) w' u2 past ∧ w.heap.size ≤ m ∧ m ≤ w'.heap.size
def RetDkRZ (w : World) (now : List (List Int)) (past : List (List (List Int))) (z : Int) : Value → World → Prop := fun v w' => ∃ u1 u2, v = .tuple #[.agg #[u1, u2], .int .i64 z] ∧ Ext w w' ∧ OwnedB w.heap.size w'.heap.size (XRd (ESl Ints)) w' u1 now ∧ OwnedB w.heap.size w'.heap.size (XRd (ESl (ESl Ints))) w' u2 past ∧ isCell u1 = true ∧ isCell u2 = true
end Go.Hs
namespace Go.Proofs.YtbgpppaljpngmaaGreatDoor
open Go.Hs
set_option maxRecDepth 10000
set_option maxHeartbeats 4000000
set_option linter.unusedVariables false
set_option linter.unusedSimpArgs false
open Classical in
noncomputable def drV (d : Dsk) (l : List Deed) : Dsk × Nat := if DkOk d ∧ l.length ≤ 40 then runV d l else (⟨[], []⟩, 0)
open Classical in
theorem impl_DeskRun_ok (w : World) (hM : EMx gMx w (.bool true) ()) (u1 u2 : Value) (d : Dsk) (h1 : ESl Ints w u1 d.now) (h2 : ESl (ESl Ints) w u2 d.past) (vl : Value) (l : List Deed) (hl : ESD w vl l) (hx : ∀ a ∈ l, a.text.length ≤ 1048576) :
    Does Tryz.prog 43 [.agg #[u1, u2], vl] w (RetDkZ w 23 88 3 (drV d l).1.now (drV d l).1.past ((drV d l).2 : Nat)) := by
  have icu1 : isCell u1 = true := Xb h1
  have icu2 : isCell u2 = true := Xb h2
  have hle := hl.le
  refine Qh Tryz.func43 rfl Tryz.results43 Tryz.ntmps43 rfl Ks Ko ?_
  by_cases hd : DkOk d
  · have k0 : ∀ w, ESl Ints w u1 d.now → ESl (ESl Ints) w u2 d.past → Does Tryz.prog 58 [.agg #[u1, u2]] w (Ret w (.bool true)) := fun w h1 h2 => by
      have := isDesk_ok w u1 u2 d h1 h2; rwa [decide_eq_true hd] at this
    by_cases h40 : l.length ≤ 40
    · rw [show drV d l = runV d l from if_pos ⟨hd, h40⟩]
      have bnd : ∀ q, Pic q → q.length ≤ 100 ∧ ∀ r ∈ q, r.length ≤ 100 := fun q hq => ⟨by have := hq.2.1; omega, fun r hr => by rw [(hq.2.2 r hr).1]; have := hq.2.1; omega⟩
      have hppl := hd.2.1
      have k1 : ∀ w, ESl Ints w u1 d.now → ESl (ESl Ints) w u2 d.past → Does Tryz.prog 77 [.agg #[u1, u2]] w (RetDk w 23 88 3 d.now d.past) := fun w h1 h2 => Qq w u1 u2 d.now d.past h1 h2 (bnd _ hd.1.1) Ka (fun q hq => bnd q (hd.2.2 q hq).1)
      focus
        refine Gq<|Vg rfl rfl rfl ?_; rintro b1 w1 hb1 E1 hB1; have hlb1 := hB1.lt; refine Zn rfl Vd ?_; rintro b2 w2 hb2 E2 hB2; have hlb2 := hB2.lt; refine Zp rfl<|Gk<|Gp<|Gq<|Vs Ks Ko (hB1.ext E2) rfl<|Gs rfl (Vl (a := .agg _) Tryz.call58 rfl) (k0 _ ((Mono.mono exq h1)) ((Mono.mono exq h2))) ?_; rintro _ w3 ⟨rfl, E3⟩; have hs3 := E3.size; refine Vn rfl<|Vr rfl (Zq (v := .bool _) rfl) (fun h3 => ?_) (fun h3 => ?_); contradiction; refine Gz vl rfl<|Wo rfl (Ut Jn rfl hl)<|Yi rfl<|Ve rfl<|Gk<|Gl rfl (fun h4 => ?_) (fun h4 => ?_); (exfalso; omega); refine Gx<|Gq<|Vs Ks Ko (hB1.ext exq) rfl ?_
        refine Gs rfl (Vl (a := .agg _) Ga rfl) (k1 _ ((Mono.mono exq h1)) ((Mono.mono exq h2))) ?_; rintro _ w4 ⟨u3, q1, m1, rfl, E4, hO1, hQ1, hm1, hn1⟩; have icu3 := OwnedB.isC hO1; have icq1 := OwnedB.isC (Owned.toB hQ1); refine Yp rfl Ko rfl rfl Ke Ke (hB1.ext ((E2.trans E3).trans E4)) Ka (((E1.trans E2).trans E3).trans E4) ?_; rintro w5 E5 hB1 K1 hz1; have hB2 := (hB2.ext exq).of_heap (K1 _ Ka); have hO1 := hO1.wrote K1 Ka; have hQ1 := hQ1.toB.wrote K1 Ka; refine Gk<|Gq<|Zp rfl<|Gk<|Gp<|Gq<|Gz vl rfl<|Wo rfl (Ut Jn rfl hl)<|Gw rfl<|Gk<|Gv ?_
      refine Zy [6, 8, 9, 10, 24, 25, 26, 27, 28, 29, 30, 31, 32, 33, 34, 35, 36, 37, 38] (fun ((k, v1, v2, lo, m, hi) : Nat × Value × Value × Nat × Nat × Nat) => [(24, .int .i64 (k : Nat)), (6, .int .i64 ((runV d (l.take k)).2 : Nat))]) (fun (k, v1, v2, lo, m, hi) w' => Ext w w' ∧ k ≤ l.length ∧ Blk w' b1 [v1, v2] ∧ Blk w' b2 [.slice none 0 0, .slice none 0 0] ∧ OwnedB lo m XR w' v1 (runV d (l.take k)).1.now ∧ OwnedB m hi (XSl 23 XR) w' v2 (runV d (l.take k)).1.past ∧ w3.heap.size ≤ lo ∧ lo ≤ m ∧ m ≤ hi ∧ hi ≤ w'.heap.size ∧ w5.heap.size ≤ w'.heap.size ∧ isCell v1 = true ∧ isCell v2 = true) (fun x => l.length - x.1) (0, u3, q1, w3.heap.size, m1, w4.heap.size) Kg ?_ ?_
      · exact ⟨by exact E5, Nat.zero_le _, hB1, hB2, hO1, hQ1, Ka, Ka, Ka, Ka, Ka, icu3, icq1⟩
      clear hB1 hB2 hO1 hQ1 k0 k1
      rintro ⟨k, v1, v2, lo, m, hi⟩ ρj w6 ⟨E6, hk, hB1, hB2, hO1, hQ1, hlo, hlm, hmh, hhi, hsz, ic1, ic2⟩
      have hle2 := runV_le (d := d) (l.take k)
      have hle3 : (runV d (l.take k)).2 ≤ k := Nat.le_trans hle2 (by rw [List.length_take]; omega)
      by_cases hlt : k < l.length
      · have hok := runV_ok hd (l.take k)
        have hsn : runV d (l.take (k + 1)) = if (doV (runV d (l.take k)).1 l[k]).2 then ((doV (runV d (l.take k)).1 l[k]).1, (runV d (l.take k)).2 + 1) else runV d (l.take k) := by rw [Vb _ _ hlt, runV_snoc]
        have hxk := hx _ (List.getElem_mem hlt)
        have kD : ∀ (w : World), EMx gMx w (.bool true) () → ESl Ints w v1 (runV d (l.take k)).1.now → ESl (ESl Ints) w v2 (runV d (l.take k)).1.past → Does Tryz.prog 92 [.agg #[v1, v2], .agg #[.int .i64 l[k].kind, str l[k].text, .int .i64 l[k].node]] w (RetDkB w 23 88 3 (doV (runV d (l.take k)).1 l[k]).1.now (doV (runV d (l.take k)).1 l[k]).1.past (doV (runV d (l.take k)).1 l[k]).2) := fun w hM h1 h2 => deskDo_ok w hM v1 v2 (runV d (l.take k)).1 h1 h2 hok l[k].kind l[k].node l[k].text hxk
        cases hb : (doV (runV d (l.take k)).1 l[k]).2 with
        | true =>
          rw [hb] at hsn kD
          rw [if_pos rfl] at hsn
          focus
            refine Gq<|Zk rfl<|Gk<|Gp<|Gl rfl (fun h5 => ?_) (fun h5 => ?_); refine Gx<|Gp<|Gv<|Gq<|Wo_getD Jn Kz Jg Kz rfl (fun _ => rfl) rfl hl E6 rfl Kf ?_; rintro _; refine Yq rfl Vy ?_; rintro b3 w7 hb3 E7 hB3; have hlb3 := hB3.lt; refine Qa Kz hB3 rfl (E6.trans E7) ?_; rintro w8 E8 hB3 K2 hz2; have hB1 := (hB1.ext E7).of_heap (K2 _ Ka); have hB2 := (hB2.ext E7).of_heap (K2 _ Ka); have hO1 := (hO1.ext E7).wrote K2 Ka; have hQ1 := (hQ1.ext E7).wrote K2 Ka; refine Gk<|Gq<|Vs Ks Ko hB1 rfl ?_
            refine Qz Jg Kz hB3 rfl<|Gs rfl (Zv (a := .agg _) (b := .agg _) Tryz.call92 rfl rfl) (kD _ ((Mono.mono E8 hM)) ((OwnedB.read hO1)) ((OwnedB.read hQ1))) ?_; rintro _ w9 ⟨u4, q2, m2, rfl, E10, hO2, hQ2, hm2, hn2⟩; have icu4 := OwnedB.isC hO2; have icq2 := OwnedB.isC (Owned.toB hQ2); have hs6 := E10.size; refine Xl rfl<|WsxA rfl<|Xe rfl<|Zn rfl Vd ?_; rintro b4 w10 hb4 E11 hB4; have hs7 := E11.size; refine Yo Ko hB4 rfl ((E8.trans E10).trans E11) ?_; rintro w11 E12 hB4 K3 hz3; have hB1 := (hB1.ext exq).of_heap (K3 _ Ka); have hB2 := (hB2.ext exq).of_heap (K3 _ Ka); have hO2 := (hO2.ext E11).wrote K3 Ka; have hQ2 := (hQ2.toB.ext E11).wrote K3 Ka; refine Zg rfl<|Gk<|Gq<|Vx rfl<|Gk<|Vp rfl ?_; refine Gq<|Vs Ks Ko hB4 rfl ?_
            refine Yo Ko hB1 rfl E12 ?_; rintro w12 E16 hB1 K4 hz4; have hB2 := hB2.of_heap (K4 _ Ka); have hO2 := hO2.wrote K4 Ka; have hQ2 := hQ2.wrote K4 Ka; refine Gk<|Zj<|Gw rfl<|Zt rfl<|Zp rfl<|Gk<|Zj<|Zt rfl<|Gw rfl<|Gk ?_; rotate_left; (exfalso; omega)
          refine ⟨(k + 1, u4, q2, w8.heap.size, m2, w9.heap.size), ⟨rfl, congrArg (Value.int .i64) (by rw [hsn]; simp), trivial⟩, Kh, ?_, Kj⟩
          simp only
          rw [hsn]
          exact ⟨Kd, Ka, hB1, hB2, hO2, hQ2, Ka, Ka, Ka, Ka, Ka, icu4, icq2⟩
        | false =>
          rw [hb] at hsn kD
          rw [if_neg Kc] at hsn
          focus
            refine Gq<|Zk rfl<|Gk<|Gp<|Gl rfl (fun h5 => ?_) (fun h5 => ?_); refine Gx<|Gp<|Gv<|Gq<|Wo_getD Jn Kz Jg Kz rfl (fun _ => rfl) rfl hl E6 rfl Kf ?_; rintro _; refine Yq rfl Vy ?_; rintro b3 w7 hb3 E7 hB3; have hlb3 := hB3.lt; refine Qa Kz hB3 rfl (E6.trans E7) ?_; rintro w8 E8 hB3 K2 hz2; have hB1 := (hB1.ext E7).of_heap (K2 _ Ka); have hB2 := (hB2.ext E7).of_heap (K2 _ Ka); have hO1 := (hO1.ext E7).wrote K2 Ka; have hQ1 := (hQ1.ext E7).wrote K2 Ka; refine Gk<|Gq<|Vs Ks Ko hB1 rfl ?_
            refine Qz Jg Kz hB3 rfl<|Gs rfl (Zv (a := .agg _) (b := .agg _) Tryz.call92 rfl rfl) (kD _ ((Mono.mono E8 hM)) ((OwnedB.read hO1)) ((OwnedB.read hQ1))) ?_; rintro _ w9 ⟨u4, q2, m2, rfl, E10, hO2, hQ2, hm2, hn2⟩; have icu4 := OwnedB.isC hO2; have icq2 := OwnedB.isC (Owned.toB hQ2); have hs6 := E10.size; refine Xl rfl<|WsxA rfl<|Xe rfl<|Zn rfl Vd ?_; rintro b4 w10 hb4 E11 hB4; have hlb4 := hB4.lt; refine Yo Ko hB4 rfl ((E8.trans E10).trans E11) ?_; rintro w11 E12 hB4 K3 hz3; have hB1 := (hB1.ext exq).of_heap (K3 _ Ka); have hB2 := (hB2.ext exq).of_heap (K3 _ Ka); have hO1 := (hO1.ext exq).wrote K3 Ka; have hQ1 := (hQ1.ext exq).wrote K3 Ka; refine Zg rfl<|Gk<|Gq<|Vx rfl<|Gk ?_
            refine Zb rfl ?_; refine Gx<|Zj<|Zt rfl<|Gw rfl<|Gk ?_; rotate_left; (exfalso; omega)
          refine ⟨(k + 1, v1, v2, lo, m, hi), ⟨rfl, congrArg (Value.int .i64) (by rw [hsn]), trivial⟩, Kh, ?_, Kj⟩
          simp only
          rw [hsn]
          exact ⟨Kd, Ka, hB1, hB2, hO1, hQ1, Ka, Ka, Ka, Ka, Ka, ic1, ic2⟩
      · obtain rfl : k = l.length := by omega
        rw [show runV d l = runV d (l.take l.length) by rw [List.take_length]]
        focus
          refine Gq<|Zk rfl<|Gk<|Gp<|Gl rfl (fun h5 => ?_) (fun h5 => ?_); (exfalso; omega); refine Zu ?_; refine Za ?_; refine Gq<|Vs Ks Ko hB1 rfl<|Gw rfl<|Yo Ko hB2 rfl E6 ?_; rintro w7 E7 hB2 K2 hz2; have hO1 := hO1.wrote K2 Ka; have hQ1 := hQ1.wrote K2 Ka; refine Zp rfl<|Gk<|Zi ?_
        exact ⟨b2, v1, v2, rfl, hB2, v1, v2, m, rfl, by exact E7, hO1.wide Ka (Nat.le_refl _), hQ1.o, Ka, Ka⟩
    · rw [show drV d l = (⟨[], []⟩, 0) from if_neg fun h => h40 h.2]
      focus
        refine Gq<|Vg rfl rfl rfl ?_; rintro b1 w1 hb1 E1 hB1; have hlb1 := hB1.lt; refine Zn rfl Vd ?_; rintro b2 w2 hb2 E2 hB2; refine Zp rfl<|Gk<|Gp<|Gq<|Vs Ks Ko (hB1.ext E2) rfl<|Gs rfl (Vl (a := .agg _) Tryz.call58 rfl) (k0 _ ((Mono.mono exq h1)) ((Mono.mono exq h2))) ?_; rintro _ w3 ⟨rfl, E3⟩; refine Vn rfl<|Vr rfl (Zq (v := .bool _) rfl) (fun h3 => ?_) (fun h3 => ?_); contradiction; refine Gz vl rfl<|Wo rfl (Ut Jn rfl hl)<|Yi rfl<|Ve rfl<|Gk<|Gl rfl (fun h4 => ?_) (fun h4 => ?_); refine Gp<|Zj<|Wo rfl (Vf (ps := []) (cs := [_, _]) Vd rfl rfl)<|Yo Ko (hB2.ext E3) rfl ((E1.trans E2).trans E3) ?_; rintro w4 E4 hB2 K1 hz1
        have E5 := (E2.trans E3).wroteAt exq E4 K1 hz1 Ka; have szE5 := E5.size; refine Zp rfl<|Gk<|Zi ?_; rotate_left; (exfalso; omega)
      exact ⟨b2, _, _, rfl, hB2, _, _, w.heap.size, rfl, by exact E4, OwnedB.nil, Owned.nil, Nat.le_refl _, Ka⟩
  · rw [show drV d l = (⟨[], []⟩, 0) from if_neg fun h => hd h.1]
    have k0 : ∀ w, ESl Ints w u1 d.now → ESl (ESl Ints) w u2 d.past → Does Tryz.prog 58 [.agg #[u1, u2]] w (Ret w (.bool false)) := fun w h1 h2 => by
      have := isDesk_ok w u1 u2 d h1 h2; rwa [decide_eq_false hd] at this
    focus
      refine Gq<|Vg rfl rfl rfl ?_; rintro b1 w1 hb1 E1 hB1; have hlb1 := hB1.lt; refine Zn rfl Vd ?_; rintro b2 w2 hb2 E2 hB2; refine Zp rfl<|Gk<|Gp<|Gq<|Vs Ks Ko (hB1.ext E2) rfl<|Gs rfl (Vl (a := .agg _) Tryz.call58 rfl) (k0 _ ((Mono.mono exq h1)) ((Mono.mono exq h2))) ?_; rintro _ w3 ⟨rfl, E3⟩; refine Vn rfl<|Vr rfl (Zq (v := .bool _) rfl) (fun h3 => ?_) (fun h3 => ?_); refine Gn rfl<|Gn rfl<|Gn rfl<|Yc rfl<|Gk<|Vp rfl ?_; refine Gq<|Wo rfl (Vf (ps := []) (cs := [_, _]) Vd rfl rfl)<|Yo Ko (hB2.ext E3) rfl ((E1.trans E2).trans E3) ?_; rintro w4 E4 hB2 K1 hz1; have E5 := (E2.trans E3).wroteAt exq E4 K1 hz1 Ka; have szE5 := E5.size; refine Zp rfl<|Gk<|Zi ?_; rotate_left; contradiction
    exact ⟨b2, _, _, rfl, hB2, _, _, w.heap.size, rfl, by exact E4, OwnedB.nil, Owned.nil, Nat.le_refl _, Ka⟩
open Classical in
theorem spec_DeskRun_ok (w : World) (u1 u2 : Value) (d : Dsk) (h1 : ESl Ints w u1 d.now) (h2 : ESl (ESl Ints) w u2 d.past) (vl : Value) (l : List Deed) (hl : ESD w vl l) (hx : ∀ a ∈ l, a.text.length ≤ 1048576) :
    Does Tryz.prog 44 [.agg #[u1, u2], vl] w (RetDkRZ w (drV d l).1.now (drV d l).1.past ((drV d l).2 : Nat)) := by
  have icu1 : isCell u1 = true := Xb h1
  have icu2 : isCell u2 = true := Xb h2
  have hle := hl.le
  refine Qh Tryz.func44 rfl Tryz.results44 Tryz.ntmps44 rfl Ks Ko ?_
  have nil1 : ∀ (w w' : World), w.heap.size ≤ w'.heap.size → OwnedB w.heap.size w'.heap.size (XRd (ESl Ints)) w' (.slice none 0 0) [] := fun w w' h => (OwnedB.nil (e := 0) (X := XSl 0 XInt)).rd
  have nil2 : ∀ (w w' : World), w.heap.size ≤ w'.heap.size → OwnedB w.heap.size w'.heap.size (XRd (ESl (ESl Ints))) w' (.slice none 0 0) [] := fun w w' h => (OwnedB.nil (e := 0) (X := XSl 0 (XSl 0 XInt))).rd
  by_cases hd : DkOk d
  · have k0 : ∀ w, ESl Ints w u1 d.now → ESl (ESl Ints) w u2 d.past → Does Tryz.prog 16 [.agg #[u1, u2]] w (Ret w (.bool true)) := fun w h1 h2 => by
      have := Xg w u1 u2 d h1 h2; rwa [decide_eq_true hd] at this
    by_cases h40 : l.length ≤ 40
    · rw [show drV d l = runV d l from if_pos ⟨hd, h40⟩]
      have bnd : ∀ q, Pic q → q.length ≤ 100 ∧ ∀ r ∈ q, r.length ≤ 100 := fun q hq => ⟨by have := hq.2.1; omega, fun r hr => by rw [(hq.2.2 r hr).1]; have := hq.2.1; omega⟩
      have hppl := hd.2.1
      have k1 : ∀ w, ESl Ints w u1 d.now → ESl (ESl Ints) w u2 d.past → Does Tryz.prog 60 [.agg #[u1, u2]] w (RetDk w 23 88 3 d.now d.past) := fun w h1 h2 => l11Copy_ok w u1 u2 d.now d.past h1 h2 (bnd _ hd.1.1) Ka (fun q hq => bnd q (hd.2.2 q hq).1)
      focus
        refine Gq<|Vg rfl rfl rfl ?_; rintro b1 w1 hb1 E1 hB1; have hlb1 := hB1.lt; refine Zn rfl Vd ?_; rintro b2 w2 hb2 E2 hB2; have hlb2 := hB2.lt; refine Zp rfl<|Gk<|Gp<|Gq<|Vs Ks Ko (hB1.ext E2) rfl<|Gs rfl (Vl (a := .agg _) Jk rfl) (k0 _ ((Mono.mono exq h1)) ((Mono.mono exq h2))) ?_; rintro _ w3 ⟨rfl, E3⟩; have hs3 := E3.size; refine Vn rfl<|Vr rfl (Zq (v := .bool _) rfl) (fun h3 => ?_) (fun h3 => ?_); contradiction; refine Gz vl rfl<|Wo rfl (Ut Jn rfl hl)<|Yi rfl<|Ve rfl<|Gk<|Gl rfl (fun h4 => ?_) (fun h4 => ?_); (exfalso; omega); refine Gx<|Gq<|Vs Ks Ko (hB1.ext exq) rfl ?_
        refine Gs rfl (Vl (a := .agg _) Jw rfl) (k1 _ ((Mono.mono exq h1)) ((Mono.mono exq h2))) ?_; rintro _ w4 ⟨u3, q1, m1, rfl, E4, hO1, hQ1, hm1, hn1⟩; have icu3 := OwnedB.isC hO1; have icq1 := OwnedB.isC (Owned.toB hQ1); have hs4 := E4.size; refine Zn rfl Vd ?_; rintro b3 w5 hb3 E5 hB3; have hlb3 := hB3.lt; refine Yp rfl Ko rfl rfl Ke Ke hB3 Ka ((((E1.trans E2).trans E3).trans E4).trans E5) ?_; rintro w6 E6 hB3 K1 hz1; have E8 := ((E3.trans E4).trans E5).wroteAt exq E6 K1 hz1 Ka; have E9 := (E4.trans E5).wroteAt exq E6 K1 hz1 Ka; have E10 := E5.wroteAt exq E6 K1 hz1 Ka; have szE10 := E10.size; have hB2 := (hB2.ext exq).of_heap (K1 _ Ka); have hO1 := (hO1.ext E5).wrote K1 Ka
        have hQ1 := (hQ1.toB.ext E5).wrote K1 Ka; refine Gk<|Gq<|Zp rfl<|Gk<|Gp<|Gp<|Zj<|Zp rfl<|Gk<|Gv ?_
      refine Zy [7, 8, 9, 10, 22, 23, 24, 25, 26, 27, 28, 29, 30, 31, 32, 33, 34, 35, 36, 37, 38, 39, 40] (fun ((k, v1, v2, lo, hi) : Nat × Value × Value × Nat × Nat) => [(8, .int .i64 (k : Nat)), (7, .int .i64 ((runV d (l.take k)).2 : Nat))]) (fun (k, v1, v2, lo, hi) w' => Ext w w' ∧ k ≤ l.length ∧ Blk w' b3 [v1, v2] ∧ Blk w' b2 [.slice none 0 0, .slice none 0 0] ∧ OwnedB lo hi (XRd (ESl Ints)) w' v1 (runV d (l.take k)).1.now ∧ OwnedB lo hi (XRd (ESl (ESl Ints))) w' v2 (runV d (l.take k)).1.past ∧ w3.heap.size ≤ lo ∧ hi ≤ w'.heap.size ∧ w6.heap.size ≤ w'.heap.size ∧ (hi ≤ b3 ∨ b3 < lo) ∧ isCell v1 = true ∧ isCell v2 = true) (fun x => l.length - x.1) (0, u3, q1, w3.heap.size, w4.heap.size) Kg ?_ ?_
      · exact ⟨by exact E6, Nat.zero_le _, hB3, hB2, hO1.rd.wide (Nat.le_refl _) Ka, hQ1.rd.wide Ka (Nat.le_refl _), Ka, Ka, Ka, Ka, icu3, icq1⟩
      clear hB2 hB3 hO1 hQ1 k0 k1
      rintro ⟨k, v1, v2, lo, hi⟩ ρj w7 ⟨E7, hk, hB3, hB2, hO1, hQ1, hlo, hhi, hsz, hd3, ic1, ic2⟩
      have hle2 := runV_le (d := d) (l.take k)
      have hle3 : (runV d (l.take k)).2 ≤ k := Nat.le_trans hle2 (by rw [List.length_take]; omega)
      by_cases hlt : k < l.length
      · have hok := runV_ok hd (l.take k)
        have hsn : runV d (l.take (k + 1)) = if (doV (runV d (l.take k)).1 l[k]).2 then ((doV (runV d (l.take k)).1 l[k]).1, (runV d (l.take k)).2 + 1) else runV d (l.take k) := by rw [Vb _ _ hlt, runV_snoc]
        have hxk := hx _ (List.getElem_mem hlt)
        have kD : ∀ (w : World), ESl Ints w v1 (runV d (l.take k)).1.now → ESl (ESl Ints) w v2 (runV d (l.take k)).1.past → Does Tryz.prog 37 [.agg #[v1, v2], .agg #[.int .i64 l[k].kind, str l[k].text, .int .i64 l[k].node]] w (RetDkRB w (doV (runV d (l.take k)).1 l[k]).1.now (doV (runV d (l.take k)).1 l[k]).1.past (doV (runV d (l.take k)).1 l[k]).2) := fun w h1 h2 => by
          have := (spec_DeskDo_ok w v1 v2 (runV d (l.take k)).1 h1 h2 l[k].kind l[k].node l[k].text hxk).mono fun _ _ h => h.r
          rwa [if_pos hok, if_pos hok, decide_eq_true hok, Bool.true_and] at this
        have heldS : w = w := rfl
        have stop8 : True := trivial
        focus
          have szE7 := E7.size; have szE10 := E10.size; have szE9 := E9.size; have szE8 := E8.size; have szE7 := E7.size; have szE6 := E6.size; have szE5 := E5.size; have szE4 := E4.size; have szE3 := E3.size; have szE2 := E2.size; have szE1 := E1.size; refine Gp<|Gq<|Gw rfl<|Gz vl rfl<|Wo rfl (Ut Jn rfl hl)<|Zk rfl<|Gk<|Gl rfl (fun h5 => ?_) (fun h5 => ?_); refine Gx<|Gp<|Gv<|Gp ?_; rotate_left; (exfalso; omega)
        clear stop8
        refine W_mid [28, 29, 30, 31, 32, 33, 34, 35, 36, 9, 10] (fun ((b9, x1, x2, lo', hi') : Nat × Value × Value × Nat × Nat) => [(9, .pointer (some ⟨b9, 0, none⟩)), (10, .bool (doV (runV d (l.take k)).1 l[k]).2)]) (fun (b9, x1, x2, lo', hi') w' => Ext w7 w' ∧ Blk w' b9 [x1, x2] ∧ OwnedB lo' hi' (XRd (ESl Ints)) w' x1 (doV (runV d (l.take k)).1 l[k]).1.now ∧ OwnedB lo' hi' (XRd (ESl (ESl Ints))) w' x2 (doV (runV d (l.take k)).1 l[k]).1.past ∧ isCell x1 = true ∧ isCell x2 = true ∧ w7.heap.size ≤ lo' ∧ hi' ≤ w'.heap.size) ?_ ?_
        · focus
            refine Un (fun w' => Ext w w') Yg rfl Kb ?_; intro w8 E11 K2 hz2; have hs6 := E11.size; refine WtmV 1 vl rfl rfl exq<|WtmI 2 rfl rfl exq<|Wh_getD 3 4 rfl Kb Kb rfl rfl Kb Kb (fun _ => rfl) Jn Kz Jg Kz rfl hl (fun w' hw' => Ext.trans (Ext.refl _) hw') rfl Kf exq ?_; rintro _; refine Wha [0, 9]<|Gm rfl ?_ ?_; refine Vs Ks Ko (hB3.ext E11) rfl<|Gk ?_; refine ⟨exq, ?_⟩; refine Wha [5, 9]<|Gm rfl ?_ ?_; refine Gs rfl (Zv (a := .agg _) (b := .agg _) Jl rfl rfl) (kD _ ((Mono.mono E11 (OwnedB.read hO1))) ((Mono.mono E11 (OwnedB.read hQ1)))) ?_; rintro _ w9 ⟨u4, q2, rfl, E12, hA1, hC1, icu4, icq2, gwu4⟩; refine Gk ?_; refine ⟨exq, ?_⟩; refine Rd 6 rfl rfl exq ?_
            refine Rb 7 rfl rfl exq<|WtxB 8 rfl rfl exq<|Wha [9]<|Gm rfl ?_ ?_; refine Zn rfl Vd ?_; rintro b4 w10 hb4 E13 hB4; refine Gk ?_; refine ⟨exq, ?_⟩; refine Wha [10]<|Gm rfl ?_ ?_; refine Yp rfl Ko rfl rfl Ke Ke hB4 Ka (((E7.trans E11).trans E12).trans E13) ?_; rintro w11 E14 hB4 K3 hz3; have E15 := ((E11.trans E12).trans E13).wroteAt exq E14 K3 hz3 Ka; have E17 := E13.wroteAt exq E14 K3 hz3 Ka; have szE17 := E17.size; have hA1 := (hA1.ext E13).wrote K3 Ka; have hC1 := (hC1.ext E13).wrote K3 Ka; refine Gk ?_; refine ⟨E14, ?_⟩; refine WtaB 11 rfl rfl E14<|Va Kb ?_; rotate_left; exact Gt; exact Gt; refine Gm rfl ?_ ?_
            refine Zn rfl Vd ?_; rintro b4 w9 hb4 E12 hB4; have hlb4 := hB4.lt; have hs7 := E12.size; refine Gk ?_; refine ⟨exq, ?_⟩; refine Wha [5]<|Gm rfl ?_ ?_; refine Gs rfl (Zv (a := .agg _) (b := .agg _) Jl rfl rfl) (kD _ ((Mono.mono exq (OwnedB.read hO1))) ((Mono.mono exq (OwnedB.read hQ1)))) ?_; rintro _ w10 ⟨u4, q2, rfl, E13, hA1, hC1, icu4, icq2, gwu4⟩; refine Gk ?_; refine ⟨exq, ?_⟩; refine Rd 6 rfl rfl exq<|Rb 7 rfl rfl exq<|WtxB 8 rfl rfl exq<|Wha [10]<|Gm rfl ?_ ?_; refine Yp rfl Ko rfl rfl Ke Ke (hB4.ext E13) Ka (((E7.trans E11).trans E12).trans E13) ?_; rintro w11 E14 hB4 K3 hz3; have E15 := ((E11.trans E12).trans E13).wroteAt exq E14 K3 hz3 Ka
            have hA1 := hA1.wrote K3 Ka; have hC1 := hC1.wrote K3 Ka; refine Gk ?_; refine ⟨E14, ?_⟩; refine WtaB 11 rfl rfl E14<|Va Kb ?_; rotate_left; exact Gt; exact Gt; exact Gt; refine Gm rfl ?_ ?_; refine Zn rfl Vd ?_; rintro b4 w9 hb4 E12 hB4; have hlb4 := hB4.lt; have hs7 := E12.size; refine Gk ?_; refine ⟨exq, ?_⟩; refine Wha [0]<|Gm rfl ?_ ?_; refine Vs Ks Ko (hB3.ext exq) rfl<|Gk ?_; refine ⟨exq, ?_⟩; refine Wha [5]<|Gm rfl ?_ ?_; refine Gs rfl (Zv (a := .agg _) (b := .agg _) Jl rfl rfl) (kD _ ((Mono.mono exq (OwnedB.read hO1))) ((Mono.mono exq (OwnedB.read hQ1)))) ?_; rintro _ w10 ⟨u4, q2, rfl, E13, hA1, hC1, icu4, icq2, gwu4⟩; refine Gk ?_; refine ⟨exq, ?_⟩; refine Rd 6 rfl rfl exq<|Rb 7 rfl rfl exq ?_
            refine WtxB 8 rfl rfl exq<|Wha [10]<|Gm rfl ?_ ?_; refine Yp rfl Ko rfl rfl Ke Ke (hB4.ext E13) Ka (((E7.trans E11).trans E12).trans E13) ?_; rintro w11 E14 hB4 K3 hz3; have E15 := ((E11.trans E12).trans E13).wroteAt exq E14 K3 hz3 Ka; have hA1 := hA1.wrote K3 Ka; have hC1 := hC1.wrote K3 Ka; refine Gk ?_; refine ⟨E14, ?_⟩; refine WtaB 11 rfl rfl E14<|Va Kb ?_; rotate_left; exact Gt; exact Gt; exact Gt; exact Gt
          all_goals exact ⟨(b4, u4, q2, _, _), ⟨rfl, rfl, trivial⟩, Kh, Kd, hB4, hA1, hC1, icu4, icq2, Ka, Ka⟩
        rintro ⟨b9, x1, x2, lo', hi'⟩ ρk w8 ⟨E8, hB9, hX1, hX2, icx1, icx2, hlo', hhi'⟩
        have hs8 := E8.size
        cases hb : (doV (runV d (l.take k)).1 l[k]).2 with
        | true =>
          rw [hb] at hsn
          rw [if_pos rfl] at hsn
          focus
            refine Gq<|Vx rfl<|Gk<|Vp rfl ?_; refine Gq<|Vs Ks Ko hB9 rfl<|Yo Ko (hB3.ext E8) rfl (E7.trans E8) ?_; rintro w9 E11 hB3 K2 hz2; have hB2 := (hB2.ext E8).of_heap (K2 _ Ka); have hX1 := hX1.wrote K2 Ka; have hX2 := hX2.wrote K2 Ka; refine Gk<|Zj<|Gw rfl<|Zt rfl<|Zp rfl<|Gk<|Zj<|Gw rfl<|Zt rfl<|Zp rfl<|Gk ?_
          refine ⟨(k + 1, x1, x2, lo', hi'), ⟨rfl, congrArg (Value.int .i64) (by rw [hsn]; simp), trivial⟩, Kh, ?_, Kj⟩
          simp only
          rw [hsn]
          exact ⟨Kd, Ka, hB3, hB2, hX1, hX2, Ka, Ka, Ka, Ka, icx1, icx2⟩
        | false =>
          rw [hb] at hsn
          rw [if_neg Kc] at hsn
          focus
            refine Gq<|Vx rfl<|Gk<|Zb rfl ?_; refine Gx<|Zj<|Gw rfl<|Zt rfl<|Zp rfl<|Gk ?_
          refine ⟨(k + 1, v1, v2, lo, hi), ⟨rfl, congrArg (Value.int .i64) (by rw [hsn]), trivial⟩, Kh, ?_, Kj⟩
          simp only
          rw [hsn]
          exact ⟨by exact (E7.trans E8), Ka, by exact (hB3.ext E8), by exact (hB2.ext E8), by exact (hO1.ext E8), by exact (hQ1.ext E8), Ka, Ka, Ka, Ka, ic1, ic2⟩
      · obtain rfl : k = l.length := by omega
        rw [show runV d l = runV d (l.take l.length) by rw [List.take_length]]
        focus
          refine Gp<|Gq<|Gw rfl<|Gz vl rfl<|Wo rfl (Ut Jn rfl hl)<|Zk rfl<|Gk<|Gl rfl (fun h5 => ?_) (fun h5 => ?_); (exfalso; omega); refine Zu ?_; refine Za ?_; refine Gq<|Vs Ks Ko hB3 rfl<|Gw rfl<|Yo Ko hB2 rfl E7 ?_; rintro w8 E11 hB2 K2 hz2; have hO1 := hO1.wrote K2 Ka; have hQ1 := hQ1.wrote K2 Ka; refine Zp rfl<|Gk<|Zi ?_
        exact ⟨b2, v1, v2, rfl, hB2, v1, v2, rfl, by exact E11, hO1.wide Ka Ka, hQ1.wide Ka Ka, ic1, ic2⟩
    · rw [show drV d l = (⟨[], []⟩, 0) from if_neg fun h => h40 h.2]
      focus
        refine Gq<|Vg rfl rfl rfl ?_; rintro b1 w1 hb1 E1 hB1; have hlb1 := hB1.lt; refine Zn rfl Vd ?_; rintro b2 w2 hb2 E2 hB2; refine Zp rfl<|Gk<|Gp<|Gq<|Vs Ks Ko (hB1.ext E2) rfl<|Gs rfl (Vl (a := .agg _) Jk rfl) (k0 _ ((Mono.mono exq h1)) ((Mono.mono exq h2))) ?_; rintro _ w3 ⟨rfl, E3⟩; refine Vn rfl<|Vr rfl (Zq (v := .bool _) rfl) (fun h3 => ?_) (fun h3 => ?_); contradiction; refine Gz vl rfl<|Wo rfl (Ut Jn rfl hl)<|Yi rfl<|Ve rfl<|Gk<|Gl rfl (fun h4 => ?_) (fun h4 => ?_); refine Gp<|Zj<|Wo rfl (Vf (ps := []) (cs := [_, _]) Vd rfl rfl)<|Yo Ko (hB2.ext E3) rfl ((E1.trans E2).trans E3) ?_; rintro w4 E4 hB2 K1 hz1
        have E5 := (E2.trans E3).wroteAt exq E4 K1 hz1 Ka; have szE5 := E5.size; refine Zp rfl<|Gk<|Zi ?_; rotate_left; (exfalso; omega)
      exact ⟨b2, _, _, rfl, hB2, _, _, rfl, by exact E4, nil1 _ _ Ka, nil2 _ _ Ka, rfl, rfl⟩
  · rw [show drV d l = (⟨[], []⟩, 0) from if_neg fun h => hd h.1]
    have k0 : ∀ w, ESl Ints w u1 d.now → ESl (ESl Ints) w u2 d.past → Does Tryz.prog 16 [.agg #[u1, u2]] w (Ret w (.bool false)) := fun w h1 h2 => by
      have := Xg w u1 u2 d h1 h2; rwa [decide_eq_false hd] at this
    focus
      refine Gq<|Vg rfl rfl rfl ?_; rintro b1 w1 hb1 E1 hB1; have hlb1 := hB1.lt; refine Zn rfl Vd ?_; rintro b2 w2 hb2 E2 hB2; refine Zp rfl<|Gk<|Gp<|Gq<|Vs Ks Ko (hB1.ext E2) rfl<|Gs rfl (Vl (a := .agg _) Jk rfl) (k0 _ ((Mono.mono exq h1)) ((Mono.mono exq h2))) ?_; rintro _ w3 ⟨rfl, E3⟩; refine Vn rfl<|Vr rfl (Zq (v := .bool _) rfl) (fun h3 => ?_) (fun h3 => ?_); refine Gn rfl<|Gn rfl<|Gn rfl<|Yc rfl<|Gk<|Vp rfl ?_; refine Gq<|Wo rfl (Vf (ps := []) (cs := [_, _]) Vd rfl rfl)<|Yo Ko (hB2.ext E3) rfl ((E1.trans E2).trans E3) ?_; rintro w4 E4 hB2 K1 hz1; have E5 := (E2.trans E3).wroteAt exq E4 K1 hz1 Ka; have szE5 := E5.size; refine Zp rfl<|Gk<|Zi ?_; rotate_left; contradiction
    exact ⟨b2, _, _, rfl, hB2, _, _, rfl, by exact E4, nil1 _ _ Ka, nil2 _ _ Ka, rfl, rfl⟩
end Go.Proofs.YtbgpppaljpngmaaGreatDoor
namespace Go.Hs
inductive Fm where
  | t
  | neg (f : Fm)
  | S (f : Fm)
  | A (f : Fm)
  | and (f g : Fm)
  | or (f g : Fm)
  deriving DecidableEq, Inhabited
namespace Fm
def enc : Fm → List UInt8
  | t => [116]
  | neg f => 33 :: enc f
  | S f => 83 :: enc f
  | A f => 65 :: enc f
  | and f g => 40 :: (enc f ++ 38 :: (enc g ++ [41]))
  | or f g => 40 :: (enc f ++ 124 :: (enc g ++ [41]))
end Fm
end Go.Hs
namespace Go.Proofs.YtbgpppaljpngmaaGreatDoor
open Go.Hs
set_option maxRecDepth 10000
set_option maxHeartbeats 4000000
set_option linter.unusedVariables false
end Go.Proofs.YtbgpppaljpngmaaGreatDoor
namespace Go.Proofs.YtbgpppaljpngmaaGreatDoor
open Go.Hs
set_option maxRecDepth 10000
set_option maxHeartbeats 4000000
set_option linter.unusedVariables false
theorem Vo {w0 : World} (w : World) {br m : Nat} (n : Int) (hr : Rdr w0 w br m) (hm : m ≤ 1000000000) :
    Does Tryz.prog 75 [.pointer (some ⟨br, 0, none⟩), .int .i64 n] w (RetD w0 w br (m + 1) (fun x : Nat => .int .i64 (x : Int)) (fun x _ => 1 ≤ n → (x : Int) < n)) := by
  obtain ⟨E0, hge, hlt, vb, bs, p, hb, hlen, hB, hp⟩ := hr
  have hbs := hb.le
  refine Zr Tryz.func75 rfl Tryz.results75 Tryz.ntmps75 rfl ?_
  have hG : w.grownBy w (some br) := Ue _ _
  have hp1 : (p : Int) + 1 - 1 = p := Ka
  rcases Nat.eq_zero_or_pos bs.length with h0 | h0
  · have e0 : bs = [] := List.eq_nil_of_length_eq_zero h0
    focus
      have szE0 := E0.size; refine Gq<|Zp rfl<|Gk<|Gq<|Xv rfl<|Xv rfl<|Wo rfl (Ym rfl)<|Zf Jq Kl rfl<|Vm Kn hB rfl<|Zt rfl<|Wo rfl (Ym rfl)<|Zf Jq Kl rfl<|Ye (v := .int _ _) rfl Kl rfl rfl rfl hB Ki Ka E0 ?_; rintro w1 E1 hB K1 hz1; simp only [List.set] at hB; have hG := Zc hG E0 E1 K1 hz1 (by first | exact .inr rfl | omega); refine Gk<|Gp<|Gq<|Gw rfl<|Zk rfl<|Zx rfl (fun h1 => ?_) (fun h1 => ?_); refine Gn rfl<|Gn rfl<|Gn rfl<|Gn rfl<|Gn rfl<|Gn rfl<|Yc rfl<|Gk<|Vp rfl ?_; refine Gq ?_
      refine Zp rfl<|Gk<|Zi ?_; refine Zl (v := .int _ _) rfl ?_; rotate_left; refine Xv rfl<|Wo rfl (Ym rfl)<|Zf Jq Gb rfl<|Vh vb Gc hB rfl<|Ze Jj rfl hb<|Zs rfl<|Ve rfl<|Gk<|Gl rfl (fun h2 => ?_) (fun h2 => ?_); refine Gq<|Zp rfl<|Gk<|Zi ?_; refine Zl (v := .int _ _) rfl ?_; rotate_left; (exfalso; omega)
    all_goals exact ⟨0, rfl, hG, ⟨Kd, hge, hB.lt, vb, bs, p + 1, hb, hlen, hB, Ka⟩, fun h => Ka⟩
  have hL : (0 : Int) < (bs.length : Int) := Ka
  have hm1 := Int.emod_lt_of_pos (p : Int) hL
  have hm2 := Int.emod_nonneg (p : Int) (show (bs.length : Int) ≠ 0 by omega)
  have hm3 := Int.emod_lt_of_pos ((p : Int) * 7 + 3) hL
  have hm4 := Int.emod_nonneg ((p : Int) * 7 + 3) (show (bs.length : Int) ≠ 0 by omega)
  have hm5 : (p : Int) / (bs.length : Int) ≤ p := Int.ediv_le_self _ Ka
  have hm6 : 0 ≤ (p : Int) / (bs.length : Int) := Int.ediv_nonneg Ka Ka
  have hm1 := Int.emod_lt_of_pos ((p : Int) + 1 - 1) hL
  have hm2 := Int.emod_nonneg ((p : Int) + 1 - 1) (show (bs.length : Int) ≠ 0 by omega)
  have hm3 := Int.emod_lt_of_pos (((p : Int) + 1 - 1) * 7 + 3) hL
  have hm4 := Int.emod_nonneg (((p : Int) + 1 - 1) * 7 + 3) (show (bs.length : Int) ≠ 0 by omega)
  have hm5 : ((p : Int) + 1 - 1) / (bs.length : Int) ≤ p := by rw [hp1]; exact hm5
  have hm6 : 0 ≤ ((p : Int) + 1 - 1) / (bs.length : Int) := by rw [hp1]; exact hm6
  focus
    have szE0 := E0.size; refine Gq<|Zp rfl<|Gk<|Gq<|Xv rfl<|Xv rfl<|Wo rfl (Ym rfl)<|Zf Jq Kl rfl<|Vm Kn hB rfl<|Zt rfl<|Wo rfl (Ym rfl)<|Zf Jq Kl rfl<|Ye (v := .int _ _) rfl Kl rfl rfl rfl hB Ki Ka E0 ?_; rintro w1 E1 hB K1 hz1; simp only [List.set] at hB; have hG := Zc hG E0 E1 K1 hz1 (by first | exact .inr rfl | omega); refine Gk<|Gp<|Gq<|Gw rfl<|Zk rfl<|Zx rfl (fun h1 => ?_) (fun h1 => ?_); refine Gn rfl<|Gn rfl<|Gn rfl<|Gn rfl<|Gn rfl<|Gn rfl<|Yc rfl<|Gk<|Vp rfl ?_; refine Gq ?_
    refine Zp rfl<|Gk<|Zi ?_; refine Zl (v := .int _ _) rfl ?_; rotate_left; refine Xv rfl<|Wo rfl (Ym rfl)<|Zf Jq Gb rfl<|Vh vb Gc hB rfl<|Ze Jj rfl hb<|Zs rfl<|Ve rfl<|Gk<|Gl rfl (fun h2 => ?_) (fun h2 => ?_); (exfalso; omega); refine Gx<|Gp<|Zj<|Xv rfl<|Wo rfl (Ym rfl)<|Zf Jq Kl rfl<|Vm Kn hB rfl<|Uu rfl<|Zp rfl<|Gk<|Gp<|Gp<|Zj<|Gw rfl<|Xv rfl<|Wo rfl (Ym rfl)<|Zf Jq Gb rfl<|Vh vb Gc hB rfl<|Ze Jj rfl hb<|Zk rfl<|Gk<|Gl rfl (fun h3 => ?_) (fun h3 => ?_); refine Gq<|Xv rfl ?_
    refine Wo rfl (Ym rfl)<|Zf Jq Gb rfl<|Vh vb Gc hB rfl<|Gw rfl<|Wo_getB_z Jj Tryz.sizeOf5 Tryz.isAgg5 rfl (fun _ => rfl) rfl hb E1 rfl Kf ?_; rintro _ n1 hn1 hn1'; refine Wo rfl (Ud Jv Ge rfl Ka) ?_; refine Gw rfl<|Wo rfl (opv_rem rfl rfl Ka) ?_; refine Zp rfl<|Gk<|Zi ?_; refine Zl (v := .int _ _) rfl ?_; rotate_left; refine Gx<|Gp<|Yj Yg Kb rfl ?_; refine WqmP rfl<|Ya rfl (fun _ _ => Ym rfl) ?_; refine Yy Jq Gb rfl<|Ya (v := vb) rfl (fun w' hw' => Zw Gc rfl ((hB.ext hw').cell rfl)) ?_; refine Qj rfl<|WqmP rfl ?_
    refine Ya rfl (fun _ _ => Ym rfl) ?_; refine Yy Jq Gb rfl<|Ya (v := vb) rfl (fun w' hw' => Zw Gc rfl ((hB.ext hw').cell rfl)) ?_; refine Ya rfl (fun _ _ => Xj Jj rfl hb) ?_; refine Ya rfl (fun _ _ => opv_rem rfl rfl Ka) ?_; refine Wq_getB_z Jj Tryz.sizeOf5 Tryz.isAgg5 rfl (fun _ => rfl) rfl hb E1 rfl Kf ?_; rintro _ n1 hn1 hn1'; refine Ya rfl (fun _ _ => Ud Jv Ge rfl Ka) ?_; refine Ya rfl (fun _ _ => Yu rfl rfl Ka) ?_; refine WqmP rfl<|Ya rfl (fun _ _ => Ym rfl) ?_; refine Yy Jq Gb rfl ?_
    refine Ya (v := vb) rfl (fun w' hw' => Zw Gc rfl ((hB.ext hw').cell rfl)) ?_; refine Qj rfl<|Ya rfl (fun _ _ => Yu rfl rfl Ka) ?_; refine Ya rfl (fun _ _ => Yb rfl rfl Ka) ?_; refine WqmP rfl<|Ya rfl (fun _ _ => Ym rfl) ?_; refine Yy Jq Gb rfl<|Ya (v := vb) rfl (fun w' hw' => Zw Gc rfl ((hB.ext hw').cell rfl)) ?_; refine Ya rfl (fun _ _ => Xj Jj rfl hb) ?_; refine Ya rfl (fun _ _ => opv_rem rfl rfl Ka) ?_; refine Wq_getB_z Jj Tryz.sizeOf5 Tryz.isAgg5 rfl (fun _ => rfl) rfl hb E1 rfl Kf ?_; rintro _ n2 hn2 hn2'
    refine Ya rfl (fun _ _ => Ud Jv Ge rfl Ka) ?_; refine Ya rfl (fun _ _ => Yu rfl rfl Ka) ?_; refine Ya rfl (fun _ _ => Yb rfl rfl Ka) ?_; refine Qj rfl<|Ya rfl (fun _ _ => Yu rfl rfl Ka) ?_; refine Ya rfl (fun _ _ => Yb rfl rfl Ka) ?_; refine Qj rfl<|WqmP rfl<|Ya rfl (fun _ _ => Ym rfl) ?_; refine Yy Jq Gb rfl<|Ya (v := vb) rfl (fun w' hw' => Zw Gc rfl ((hB.ext hw').cell rfl)) ?_; refine Ya rfl (fun _ _ => Xj Jj rfl hb) ?_; refine Ya rfl (fun _ _ => Yt rfl rfl Ka) ?_; refine Ya rfl (fun _ _ => Yu rfl rfl Ka) ?_
    refine Ya rfl (fun _ _ => Yb rfl rfl Ka) ?_; refine WqaI rfl<|Yh (fun w2 E2 => ?_); have hG := Gy hG E2; have hs1 := E2.size; refine Gp<|Zj<|Gw rfl<|Gw rfl<|Wo rfl (Yt rfl rfl Ka) ?_; refine Wo rfl (opv_xor rfl rfl Ka) ?_; refine Zp rfl<|Gk<|Gq<|Gw rfl<|Gw rfl<|Wo rfl (opv_rem rfl rfl Ka) ?_; refine Zp rfl<|Gk<|Zi ?_; refine Zl (v := .int _ _) rfl ?_; rotate_left
  · exact ⟨0, rfl, hG, ⟨Kd, hge, hB.lt, vb, bs, p + 1, hb, hlen, hB, Ka⟩, fun h => Ka⟩
  · have e := Int.emod_nonneg (n1 : Int) (show n ≠ 0 by omega)
    refine ⟨((n1 : Int) % n).toNat, by simp only [Int.toNat_of_nonneg e], hG, ⟨Kd, hge, hB.lt, vb, bs, p + 1, hb, hlen, hB, Ka⟩, fun h => ?_⟩
    simp only [Int.toNat_of_nonneg e]
    exact Int.emod_lt_of_pos _ Ka
  · refine Zl (v := .int .i64 _) rfl ?_
    generalize hz : ((((n1 * 131 : Int) + n2 * 1117 + ((p : Int) + 1 - 1) * 29 + ((p : Int) + 1 - 1) / (bs.length : Int) * 53).toNat ^^^ (((n1 * 131 : Int) + n2 * 1117 + ((p : Int) + 1 - 1) * 29 + ((p : Int) + 1 - 1) / (bs.length : Int) * 53) / 64).toNat : Nat) : Int) = z
    have hz0 : 0 ≤ z := by rw [← hz]; omega
    have hB := hB.ext (show Ext w1 w2 by assumption)
    have e := Int.emod_nonneg z (show n ≠ 0 by omega)
    refine ⟨(z % n).toNat, by simp only [Int.toNat_of_nonneg e], hG, ⟨E1.trans Kd, hge, hB.lt, vb, bs, p + 1, hb, hlen, hB, Ka⟩, fun h => ?_⟩
    simp only [Int.toNat_of_nonneg e]
    exact Int.emod_lt_of_pos _ Ka
theorem odd_ok {w0 : World} (w : World) {br m : Nat} (n : Int) (hr : Rdr w0 w br m) (hm : m ≤ 1000000000) (hn : -1000000 ≤ n ∧ n ≤ 1000000) :
    Does Tryz.prog 76 [.pointer (some ⟨br, 0, none⟩), .int .i64 n] w (RetD w0 w br (m + 1) Value.bool (fun _ _ => True)) := by
  refine Zr Tryz.func76 rfl Tryz.results76 Tryz.ntmps76 rfl ?_
  have hG : w.grownBy w (some br) := Ue _ _
  focus
    refine Gq<|Zg rfl<|Gk<|Gq<|Gw rfl<|Yi rfl<|Zx rfl (fun h1 => ?_) (fun h1 => ?_); refine Xv rfl<|Gw rfl<|Gs rfl (Zv (a := .pointer _) (b := .int _ _) Jb rfl rfl) (Vo _ _ Kd Kd) ?_; rintro _ w1 ⟨y1, rfl, E1, hr1, hy1⟩; (try dsimp only at hy1); have hlhr1 := hr1.lt; have Ehr1 := hr1.old; have hG := Zd hG E1; have hs1 := E1.size; refine Gw rfl<|Uu rfl<|Zs rfl<|Yc rfl<|Zg rfl<|Gk<|Zi ?_; refine Zl (v := .bool _) rfl ?_; rotate_left; refine Gn rfl<|Gn rfl<|Gn rfl<|Gn rfl<|Gn rfl<|Gn rfl<|Ve rfl<|Zg rfl<|Gk<|Zi ?_; refine Zl (v := .bool _) rfl ?_; rotate_left
  all_goals first | exact ⟨_, rfl, hG, hr1, trivial⟩ | exact ⟨_, rfl, hG, hr.le Ka, trivial⟩
theorem flat112 : Flat Tryz.prog 112 [.slice none 0 0, .int .i64 0] := ⟨_, Tryz.underlying112, fun _ => Kb, fun _ => Kb⟩
theorem open_ok (w : World) (v : Value) (xs : List UInt8) (h : Bytes w v xs) (hc : CapOk v) :
    Does Tryz.prog 55 [v] w (RetX w (fun br : Nat => .pointer (some ⟨br, 0, none⟩)) (fun br w' => Rdr w w' br 0)) := by
  refine Zr Tryz.func55 rfl Tryz.results55 Tryz.ntmps55 rfl ?_
  have hl := h.le
  obtain ⟨a, c, rfl, hR⟩ := id h
  obtain ⟨a', l', c', e, hcap⟩ := hc
  cases e
  by_cases h2 : 2000 < xs.length
  · obtain ⟨b, o, u, rfl, _⟩ := hR.at (show 0 < xs.length by omega)
    have hT := h.take (cap' := c) 2000 Ka
    focus
      refine Gq<|WsaP rfl<|Gk<|Gp<|Gq<|Yw rfl<|Ze Jj rfl h<|Yi rfl<|Gk<|Gl rfl (fun h1 => ?_) (fun h1 => ?_); refine Zj<|Yw rfl<|Wo rfl (Xt Jj Tryz.sizeOf5 rfl rfl Ka) ?_; refine Vk rfl<|Gk<|Gp<|Zj<|Yw rfl<|Wo rfl (Vf (ps := [(0, .slice _ _ _)]) (cs := [_, _]) flat112 rfl rfl)<|Vg rfl rfl rfl ?_; rintro b1 w1 hb1 E1 hB1; have hlb1 := hB1.lt; have hs1 := E1.size; refine WsaP rfl<|Gk<|Zi ?_; refine Zl (v := .pointer _) rfl ?_; refine ⟨E1, _, rfl, ?_⟩; (try dsimp only); rotate_left; (exfalso; omega)
    all_goals exact ⟨Kd, Kd, Kd, _, _, 0, hT, by simp; omega, Kd, Ka⟩
  · focus
      refine Gq<|WsaP rfl<|Gk<|Gp<|Gq<|Yw rfl<|Ze Jj rfl h<|Yi rfl<|Gk<|Gl rfl (fun h1 => ?_) (fun h1 => ?_); (exfalso; omega); refine Gx<|Gp<|Zj<|Yw rfl<|Wo rfl (Vf (ps := [(0, .slice _ _ _)]) (cs := [_, _]) flat112 rfl rfl)<|Vg rfl rfl rfl ?_; rintro b1 w1 hb1 E1 hB1; have hlb1 := hB1.lt; have hs1 := E1.size; refine WsaP rfl<|Gk<|Zi ?_; refine Zl (v := .pointer _) rfl ?_; refine ⟨E1, _, rfl, ?_⟩; (try dsimp only)
    all_goals exact ⟨Kd, Kd, Kd, _, _, 0, h, Ka, Kd, Ka⟩
end Go.Proofs.YtbgpppaljpngmaaGreatDoor
namespace Go.Proofs.YtbgpppaljpngmaaGreatDoor
open Go.Hs
set_option maxRecDepth 10000
set_option maxHeartbeats 4000000
set_option linter.unusedVariables false
set_option linter.unusedSimpArgs false
theorem Picture_ok {w0 : World} (w : World) {br m : Nat} (n : Int) (hr : Rdr w0 w br m) (hm : m ≤ 100000000) (hn : 0 ≤ n ∧ n ≤ 1000) :
    Does Tryz.prog 151 [.pointer (some ⟨br, 0, none⟩), .int .i64 n] w (RetDO w0 w br (m + 60) XR (fun p => p.length ≤ 5 ∧ ∀ r ∈ p, r.length ≤ 6)) := by
  refine Zr Tryz.func151 rfl Tryz.results151 Tryz.ntmps151 rfl ?_
  have hG : w.grownBy w (some br) := Ue _ _
  have hlr := hr.lt
  have hgr := hr.ge
  have E0 := hr.old
  focus
    refine Gq<|Vk rfl<|Gk<|Gq<|Xv rfl<|Gs rfl (Zv (a := .pointer _) (b := .int _ _) Jb rfl rfl) (Vo _ _ Kd Ka) ?_; rintro _ w1 ⟨y1, rfl, E1, hr1, hy1⟩; (try dsimp only at hy1); have hlhr1 := hr1.lt; have hG := Zd hG E1; have hs1 := E1.size; refine Zt rfl<|Zp rfl<|Gk<|Gq<|Vq (XSl 3 XInt) rfl Xn Kt ?_; rintro b1 w2 hb1 b1lt E2 hO1; have hr1 := hr1.ext E2; have hG := Gy hG E2; refine Vk rfl<|Gk<|Gq<|Xv rfl<|Gs rfl (Zv (a := .pointer _) (b := .int _ _) Jb rfl rfl) (Vo _ _ Kd Ka) ?_; rintro _ w3 ⟨y2, rfl, E3, hr2, hy2⟩; (try dsimp only at hy2); have hO1 := hO1.toB.grown E3 Ka; have hG := Zd hG E3; refine Zp rfl<|Gk<|Gp<|Gq<|Zp rfl<|Gk<|Gv ?_
  have hy1' := hy1 Ka
  have hn5 : (1 + (y1 : Int)).toNat = 1 + y1 := Ka
  refine Zy [6, 8, 9, 10, 17, 18, 19, 20, 21, 22, 23, 24, 25, 26, 27, 28, 29, 30, 31, 32, 33, 34, 35, 36, 37, 38, 39, 40, 41, 42, 43, 44, 45, 46, 47, 48, 49, 50, 51, 52, 53, 54, 55, 56, 57, 58, 59, 60, 61, 62] (fun (k, u, rows) => [(8, .int .i64 (k : Nat)), (6, u)]) (fun (k, u, rows) w' => w.grownBy w' (some br) ∧ Rdr w0 w' br (m + 2 + 6 * k) ∧ k ≤ 1 + y1 ∧ Owned w.heap.size XR w' u rows ∧ rows.length = k ∧ ∀ r ∈ rows, r.length = 1 + y1) (fun x => 1 + y1 - x.1) (0, .slice (some ⟨b1, 0, none⟩) 0 0, []) Kg ?_ ?_
  · exact ⟨hG, hr2, Nat.zero_le _, hO1.o.mono Ka, rfl, Ki⟩
  rintro ⟨k, u, rows⟩ ρj w4 ⟨hG4, hr4, hk, hO4, hrl, hrr⟩
  have hg4 := hG4.size
  by_cases hlt : k < 1 + y1
  · focus
      refine Gp<|Gq<|Gw rfl<|Gw rfl<|Zk rfl<|Gk<|Gl rfl (fun h1 => ?_) (fun h1 => ?_); refine Gx<|Gp<|Gv<|Gp<|Zj<|Gw rfl<|Rg rfl Xk (int_z Ka rfl) Ka ?_; rintro b2 w5 hb2 b2lt E5 hO2; have hG4 := Gy hG4 E5; have hr4 := hr4.ext E5; refine Vk rfl<|Gk<|Gp<|Gq<|Zp rfl<|Gk<|Gv ?_; rotate_left; (exfalso; omega)
    refine Zy [10, 24, 25, 26, 27, 28, 29, 30, 31, 32, 33, 34, 35, 36, 37, 38, 39, 40, 41, 42, 43, 44, 45] (fun (j, row) => [(10, .int .i64 (j : Nat))]) (fun (j, row) w' => w.grownBy w' (some br) ∧ Rdr w0 w' br (m + 2 + 6 * k + j) ∧ j ≤ 1 + y1 ∧ OwnedB w.heap.size w4.heap.size XR w' u rows ∧ Owned w4.heap.size XI w' (.slice (some ⟨b2, 0, none⟩) (1 + (y1 : Int)).toNat (1 + (y1 : Int)).toNat) row ∧ row.length = 1 + y1) (fun x => 1 + y1 - x.1) (0, List.replicate (1 + (y1 : Int)).toNat 0) Kg ?_ ?_
    · exact ⟨hG4, hr4, Nat.zero_le _, hO4.toB.ext E5, hO2, by simp; omega⟩
    rintro ⟨j, row⟩ ρi w6 ⟨hG6, hr6, hj, hO6, hR6, hrow⟩
    have E6 := hr6.old
    have hb6 := hR6.lt_own (k := b2) rfl
    have hs6 : w4.heap.size ≤ w6.heap.size := Ka
    by_cases hjl : j < 1 + y1
    · focus
        refine Gp<|Gq<|Gw rfl<|Gw rfl<|Zk rfl<|Gk<|Gl rfl (fun h2 => ?_) (fun h2 => ?_); refine Gx<|Gp<|Gv<|Gq<|Gw rfl<|Zs rfl<|Zx rfl (fun h3 => ?_) (fun h3 => ?_); refine Gw rfl<|Gw rfl<|Yi rfl<|Yc rfl<|Zx rfl (fun h4 => ?_) (fun h4 => ?_); refine Gn rfl<|Gn rfl<|Yc rfl<|Gk<|Vp rfl ?_; refine Zj<|Yw rfl<|Gw rfl<|Xv rfl<|Gs rfl (Zv (a := .pointer _) (b := .int _ _) Jb rfl rfl) (Vo _ _ Kd Ka) ?_; rintro _ w7 ⟨y3, rfl, E7, hr3, hy3⟩; (try dsimp only at hy3); have Ehr3 := hr3.old; have hG6 := Zd hG6 E7; have hO6 := hO6.grown E7 Ka; have hR6 := hR6.toB.grown E7 Ka
        refine Wo rfl (Yt rfl rfl Ka) ?_; refine Wo rfl (Zo Km Kl rfl rfl Ka) ?_; refine Wo_set rfl Kl rfl rfl hR6 Kf Owned.int (Nat.le_refl _) Ka ?_; rintro w8 hR6 On1 K1 hz1; have E8 := On1.ext1 Ehr3 Ka; have hr3 := hr3.wrote E8 (K1 _ Ka) hz1; have hG6 := Zc hG6 Ehr3 E8 K1 hz1 (by first | exact .inr rfl | omega); have hO6 := hO6.wrote K1 Ka; refine Gk<|Zj<|Gw rfl<|Zt rfl<|Zp rfl<|Gk ?_; rotate_left; refine Gw rfl<|Yi rfl<|Ve rfl<|Gk<|Gl rfl (fun h5 => ?_) (fun h5 => ?_); (exfalso; omega); refine Gx<|Zj<|Gw rfl<|Zt rfl<|Zp rfl<|Gk ?_; rotate_left; refine Gn rfl<|Gn rfl<|Gn rfl<|Ve rfl<|Vx rfl<|Gw rfl<|Yi rfl ?_
        refine Ve rfl<|Gk<|Gl rfl (fun h4 => ?_) (fun h4 => ?_); refine Zj<|Yw rfl<|Gw rfl<|Xv rfl<|Gs rfl (Zv (a := .pointer _) (b := .int _ _) Jb rfl rfl) (Vo _ _ Kd Ka) ?_; rintro _ w7 ⟨y3, rfl, E7, hr3, hy3⟩; (try dsimp only at hy3); have Ehr3 := hr3.old; have hG6 := Zd hG6 E7; have hO6 := hO6.grown E7 Ka; have hR6 := hR6.toB.grown E7 Ka; refine Wo rfl (Yt rfl rfl Ka) ?_; refine Wo rfl (Zo Km Kl rfl rfl Ka) ?_; refine Wo_set rfl Kl rfl rfl hR6 Kf Owned.int (Nat.le_refl _) Ka ?_; rintro w8 hR6 On1 K1 hz1; have E8 := On1.ext1 Ehr3 Ka; have hr3 := hr3.wrote E8 (K1 _ Ka) hz1
        have hG6 := Zc hG6 Ehr3 E8 K1 hz1 (by first | exact .inr rfl | omega); have hO6 := hO6.wrote K1 Ka; refine Gk<|Zj<|Gw rfl<|Zt rfl<|Zp rfl<|Gk ?_; rotate_left; (exfalso; omega); (exfalso; omega)
      · refine ⟨((j + 1, row.set j ((y3 : Int) / 2))), Kg, Kh, ?_, ?_⟩
        · exact ⟨Kd, Rdr.le Kd Ka, Ka, Kd, Kd, by simp [hrow]⟩
        · simp only; omega
      · refine ⟨((j + 1, row)), Kg, Kh, ?_, ?_⟩
        · exact ⟨Kd, Rdr.le Kd Ka, Ka, Kd, Kd, hrow⟩
        · simp only; omega
      · refine ⟨((j + 1, row.set j ((y3 : Int) / 2))), Kg, Kh, ?_, ?_⟩
        · exact ⟨Kd, Rdr.le Kd Ka, Ka, Kd, Kd, by simp [hrow]⟩
        · simp only; omega
    · obtain rfl : j = 1 + y1 := by omega
      have hrs : ∀ (rw' : List Int), rw'.length = 1 + y1 → ∀ r ∈ rows ++ [rw'], r.length = 1 + y1 := by
        intro rw' h9 r hr9
        rcases List.mem_append.1 hr9 with h | h
        · exact hrr r h
        · rw [List.mem_singleton.1 h]; exact h9
      focus
        have szE0 := E0.size; refine Gp<|Gq<|Gw rfl<|Gw rfl<|Zk rfl<|Gk<|Gl rfl (fun h2 => ?_) (fun h2 => ?_); (exfalso; omega); refine Zu ?_; refine Za ?_; refine Gp<|Gq<|Gw rfl<|Zt rfl<|Gw rfl<|Zk rfl<|Zx rfl (fun h3 => ?_) (fun h3 => ?_); refine Xv rfl<|Gs rfl (Zv (a := .pointer _) (b := .int _ _) Jb rfl rfl) (Vo _ _ Kd Ka) ?_; rintro _ w7 ⟨y3, rfl, E7, hr3, hy3⟩; (try dsimp only at hy3); have Ehr3 := hr3.old; have hG6 := Zd hG6 E7; have hO6 := hO6.grown E7 Ka; have hR6 := hR6.toB.grown E7 Ka; have hs5 := E7.size; refine Yi rfl<|Yc rfl<|Gk<|Gl rfl (fun h4 => ?_) (fun h4 => ?_); refine Zj<|Yw rfl<|Gw rfl ?_
        refine Zt rfl<|Wo rfl (Yk Km Kl rfl rfl Ka) ?_; refine Wo_set rfl Kl rfl rfl hR6 Kf Owned.int (Nat.le_refl _) Ka ?_; rintro w8 hR6 On1 K1 hz1; have E8 := On1.ext1 Ehr3 Ka; have hr3 := hr3.wrote E8 (K1 _ Ka) hz1; have hG6 := Zc hG6 Ehr3 E8 K1 hz1 (by first | exact .inr rfl | omega); have hO6 := hO6.wrote K1 Ka; refine Gk<|Zj<|Gz u rfl<|Yw rfl<|Vt (ps := [(0, .slice _ _ _)]) (cs := [_]) rfl Kp Kt Ji rfl rfl rfl rfl ?_; rintro b3 w9 hb3 E9 hB1; have hlb3 := hB1.lt; have hr3 := hr3.ext E9; have hG6 := Gy hG6 E9
        refine Vv rfl Xn rfl rfl hB1 (hO6.ext E9) (hR6.toB.ext E9).o Ka Kf Ka Ka (E8.trans E9) Ka ?_; have hT1 := (hO6.ext E9); rintro v1 w10 hO6 E10 M1; have hr3 := hr3.moves E10 M1 hT1 Ka; have hG6 := Qo hG6 M1 hT1 Ka; refine Vj v1 rfl<|Gk<|Zj<|Gw rfl<|Zt rfl<|Zp rfl<|Gk ?_; rotate_left; refine Gx<|Zj<|Gz u rfl<|Yw rfl<|Vt (ps := [(0, .slice _ _ _)]) (cs := [_]) rfl Kp Kt Ji rfl rfl rfl rfl ?_; rintro b3 w8 hb3 E8 hB1; have hlb3 := hB1.lt; have hr3 := hr3.ext E8; have hG6 := Gy hG6 E8; refine Vv rfl Xn rfl rfl hB1 (hO6.ext E8) (hR6.ext E8).o Ka Kf Ka Ka (Ehr3.trans E8) Ka ?_
        have hT1 := (hO6.ext E8); rintro v1 w9 hO6 E9 M1; have hr3 := hr3.moves E9 M1 hT1 Ka; have hG6 := Qo hG6 M1 hT1 Ka; refine Vj v1 rfl<|Gk<|Zj<|Gw rfl<|Zt rfl<|Zp rfl<|Gk ?_; rotate_left; refine Gn rfl<|Gn rfl<|Gn rfl<|Ve rfl<|Gk<|Zb rfl ?_; refine Gx<|Zj<|Gz u rfl<|Yw rfl<|Vt (ps := [(0, .slice _ _ _)]) (cs := [_]) rfl Kp Kt Ji rfl rfl rfl rfl ?_; rintro b3 w7 hb3 E7 hB1; have hlb3 := hB1.lt; have hG6 := Gy hG6 E7; have hr6 := hr6.ext E7; refine Vv rfl Xn rfl rfl hB1 (hO6.ext E7) (hR6.toB.ext E7).o Ka Kf Ka Ka (E6.trans E7) Ka ?_; have hT1 := (hO6.ext E7); rintro v1 w8 hO6 E8 M1; have hG6 := Qo hG6 M1 hT1 Ka
        have hr6 := hr6.moves E8 M1 hT1 Ka; refine Wo rfl (Vz (v := v1) rfl)<|Gk<|Yx rfl<|Wo rfl (Zq (v := .int _ _) rfl)<|Zt rfl<|Zp rfl<|Gk ?_; rotate_left
      · refine ⟨((k + 1, v1, rows ++ [row.set ((k : Int) + 1).toNat 1])), Kg, Kh, ?_, ?_⟩
        · exact ⟨Kd, Rdr.le Kd Ka, Ka, Kd, by simp [hrl], hrs _ (by simp [hrow])⟩
        · simp only; omega
      · refine ⟨((k + 1, v1, rows ++ [row])), Kg, Kh, ?_, ?_⟩
        · exact ⟨Kd, Rdr.le Kd Ka, Ka, Kd, by simp [hrl], hrs _ hrow⟩
        · simp only; omega
      · refine ⟨((k + 1, v1, rows ++ [row])), Kg, Kh, ?_, ?_⟩
        · exact ⟨Kd, Rdr.le Kd Ka, Ka, Kd, by simp [hrl], hrs _ hrow⟩
        · simp only; omega
  · obtain rfl : k = 1 + y1 := by omega
    obtain ⟨ub, uc, rfl, _⟩ := hO4.lit Ka
    have hub := hO4.lt_own (k := ub) rfl
    have hrow := hrr rows[0] (List.getElem_mem Ka)
    obtain ⟨brw, crw, hRow, hbw1, hbw2⟩ := hO4.rowAt (i := 0) Ka Ka
    focus
      refine Gp<|Gq<|Gw rfl<|Gw rfl<|Zk rfl<|Gk<|Gl rfl (fun h1 => ?_) (fun h1 => ?_); (exfalso; omega); refine Zu ?_; refine Za ?_; refine Gp<|Gq<|Xv rfl<|Gw rfl<|Gs rfl (Zv (a := .pointer _) (b := .int _ _) Tryz.call76 rfl rfl) (odd_ok _ _ Kd Ka Ka) ?_; rintro _ w5 ⟨y3, rfl, E5, hr3, hy3⟩; (try dsimp only at hy3); have hG4 := Zd hG4 E5; have hO4 := hO4.toB.grown E5 Ka; have hRow := hRow.grown E5 (by simp [Value.ownBlock]; omega); have hs4 := E5.size; refine Gk<|Vu rfl (fun h2 => ?_) (fun h2 => ?_); refine Gq<|Xv rfl<|Gs rfl (Zv (a := .pointer _) (b := .int _ _) Jb rfl rfl) (Vo _ _ Kd Ka) ?_; rintro _ w6 ⟨y4, rfl, E6, hr5, hy4⟩; (try dsimp only at hy4); have Ehr5 := hr5.old
      have hG4 := Zd hG4 E6; have hO4 := hO4.grown E6 Ka; have hRow := hRow.grown E6 (by simp [Value.ownBlock]; omega); have hs5 := E6.size; refine Gk<|Gv<|Gq<|Zs rfl<|Zg rfl<|Gk<|Gl rfl (fun h3 => ?_) (fun h3 => ?_); refine Gq<|Vq (XSl 3 XInt) rfl Xn Kt ?_; rintro b2 w7 hb2 b2lt E7 hO2; have hr5 := hr5.ext E7; have hG4 := Gy hG4 E7; refine Vk rfl<|Gk<|Zi ?_; refine Zl (v := .slice _ _ _) rfl ?_; rotate_left; refine Gq<|Zs rfl<|Zg rfl<|Gk<|Gl rfl (fun h4 => ?_) (fun h4 => ?_); refine Zj<|Yw rfl<|Qu Kp Kt Kx rfl (fun _ => rfl) rfl ⟨_, _, rfl⟩ rfl hRow Kf ?_; rintro _
      refine Wo rfl (Zo (k := 0) Km Kl rfl rfl Ka) ?_; refine Ur rfl Kl rfl rfl hO4 hRow Kf Kf ?_; rintro w7 hO4 hRow On1 K1 hz1; have E7 := On1.ext1 Ehr5 Ka; have hr5 := hr5.wrote E7 (K1 _ Ka) hz1; have hG4 := Zc hG4 Ehr5 E7 K1 hz1 (by first | exact .inr rfl | omega); refine Gk<|Gq<|Yw rfl<|Vk rfl<|Gk<|Zi ?_; refine Zl (v := .slice _ _ _) rfl ?_; rotate_left; refine Zj<|Yw rfl<|Yw rfl<|Qu Kp Kt Kx rfl (fun _ => rfl) rfl ⟨_, _, rfl⟩ rfl hRow Kf ?_; rintro _
      refine Zm (ps := [(0, .int _ _)]) (cs := [_]) rfl Km Kl Je rfl rfl rfl rfl ?_; rintro b2 w7 hb2 E7 hB1 hHb2; have hlb2 := hB1.lt; have hr5 := hr5.ext E7; have hG4 := Gy hG4 E7; rotate_left; refine Gx<|Gq<|Yw rfl<|Vk rfl<|Gk<|Zi ?_; refine Zl (v := .slice _ _ _) rfl ?_; rotate_left
    · exact ⟨Kd, Rdr.le Kd Ka, [], Owned.mono Kd Ka, Ki⟩
    · refine ⟨Kd, Rdr.le Kd Ka, _, Kd, by simp; omega, fun r hr9 => ?_⟩
      rcases List.mem_or_eq_of_mem_set hr9 with h | h
      · have := hrr r h; omega
      · rw [h]; simp; omega
    · have hO7 := hO4.ext (show Ext w6 w7 by assumption)
      have hR7 := hRow.ext (show Ext w6 w7 by assumption)
      obtain ⟨hme, hRO⟩ := hO7.rowOwn hR7 Ka
      focus
        refine Vv rfl Xk rfl rfl hB1 hRO Owned.int (Nat.le_refl _) Kf Ka Ka (Ehr5.trans E7) Ka ?_; have hT1 := hRO; rintro v1 w8 hRO E8 M1; have hr5 := hr5.moves E8 M1 hT1 Ka; have hG4 := Qo hG4 M1 hT1 Ka; refine Wo rfl (Zo (k := 0) Kp Kt rfl rfl Ka) ?_
      obtain ⟨q1, q2, ⟨q3, q4⟩, q5⟩ := hO7.rowBack hR7 Ka (show Moves w7 (.slice (some ⟨brw, 0, none⟩) rows[0].length crw) w8 v1 from M1) hRO Ka
      refine Rt (w' := w8.setCell ⟨ub, 0, none⟩ v1) rfl (ops_store Kt rfl rfl q2 q4 q5) ?_
      have E9 : Ext w0 (w8.setCell ⟨ub, 0, none⟩ v1) := E8.setCell Kj v1
      have hr9 := hr5.wrote E9 (Hs.heap_setCell_other v1 (show br ≠ ub by omega)) (size_setCell _ _)
      have hG9 := Zc (b := ub) hG4 E8 E9 (fun k hk => Hs.heap_setCell_other v1 hk) (size_setCell _ _) (.inl hub.1)
      generalize w8.setCell ⟨ub, 0, none⟩ v1 = w9 at q1 hr9 hG9 E9
      focus
        refine Gk<|Gq<|Yw rfl<|Vk rfl<|Gk<|Zi ?_; refine Zl (v := .slice _ _ _) rfl ?_
      refine ⟨hG9, hr9.le Ka, _, q1, by simp; omega, fun r hr' => ?_⟩
      rcases List.mem_or_eq_of_mem_set hr' with h | h
      · have := hrr r h; omega
      · rw [h]; simp; omega
    · refine ⟨Kd, Rdr.le Kd Ka, _, OwnedB.o Kd, Ka, fun r hr9 => ?_⟩
      have := hrr r hr9; omega
end Go.Proofs.YtbgpppaljpngmaaGreatDoor
namespace Go.Proofs.YtbgpppaljpngmaaGreatDoor
open Go.Hs
set_option maxRecDepth 10000
set_option maxHeartbeats 4000000
set_option linter.unusedVariables false
set_option linter.unusedSimpArgs false
theorem Twin_ok {w0 : World} (w : World) {br m : Nat} (n : Int) (hr : Rdr w0 w br m) (hm : m ≤ 10000000) (hn : 0 ≤ n ∧ n ≤ 1000) :
    Does Tryz.prog 105 [.pointer (some ⟨br, 0, none⟩), .int .i64 n] w (RetDO w0 w br (m + 63) XR (fun p => p.length ≤ 5 ∧ ∀ r ∈ p, r.length ≤ 6)) := by
  refine Zr Tryz.func105 rfl Tryz.results105 Tryz.ntmps105 rfl ?_
  have hG : w.grownBy w (some br) := Ue _ _
  have hlr := hr.lt
  have hgr := hr.ge
  focus
    refine Gq<|Vk rfl<|Gk<|Gq<|Xv rfl<|Gw rfl<|Gs rfl (Zv (a := .pointer _) (b := .int _ _) Tryz.call151 rfl rfl) (Picture_ok _ _ Kd Ka Kd) ?_; rintro u1 w1 ⟨E1, hr1, x1, hO1, hy1⟩; (try dsimp only at hy1); have hG := Zd hG E1; refine Vj u1 rfl<|Gk<|Gp<|Gp<|Zj<|Gz u1 rfl ?_
  by_cases hp : Pic x1
  · have hk : ∀ w u, ESl Ints w u x1 → Does Tryz.prog 115 [u] w (Ret w (.bool true)) := fun w u h => by
      have := Yr w u x1 h
      rw [decide_eq_true hp] at this; exact this
    focus
      refine Gs rfl (Vl (a := u1) Jo rfl) (hk _ _ ((Owned.read hO1))) ?_; rintro _ w2 ⟨rfl, E2⟩; have hr1 := hr1.ext E2; have hG := Gy hG E2; refine Vx rfl<|Gz u1 rfl<|Ze Kp rfl (Owned.read hO1)<|Yi rfl<|Yc rfl<|Zx rfl (fun h1 => ?_) (fun h1 => ?_); refine Xv rfl<|Gs rfl (Zv (a := .pointer _) (b := .int _ _) Jb rfl rfl) (Vo _ _ Kd Ka) ?_; rintro _ w3 ⟨y1, rfl, E3, hr2, hy2⟩; (try dsimp only at hy2); have hO1 := (hO1.toB.ext E2).grown E3 Ka; have hG := Zd hG E3; refine Zs rfl<|Yc rfl<|Gk<|Gl rfl (fun h2 => ?_) (fun h2 => ?_); refine Gq<|Xv rfl<|Gz u1 rfl ?_
      refine Ze Kp rfl (OwnedB.read hO1)<|Gs rfl (Zv (a := .pointer _) (b := .int _ _) Jb rfl rfl) (Vo _ _ Kd Ka) ?_; rintro _ w4 ⟨y2, rfl, E4, hr3, hy3⟩; (try dsimp only at hy3); have hO1 := hO1.grown E4 Ka; have hG := Zd hG E4; refine Zp rfl<|Gk<|Gq<|Xv rfl<|Gz u1 rfl<|Ze Kp rfl (OwnedB.read hO1)<|Gs rfl (Zv (a := .pointer _) (b := .int _ _) Jb rfl rfl) (Vo _ _ Kd Ka) ?_; rintro _ w5 ⟨y3, rfl, E5, hr4, hy4⟩; (try dsimp only at hy4); have hO1 := hO1.grown E5 Ka; have hG := Zd hG E5; refine Zp rfl<|Gk<|Gq<|Zp rfl<|Gk<|Gv ?_; rotate_left; refine Gx<|Gq<|Gz u1 rfl ?_
      refine Vj u1 rfl<|Gk<|Zi ?_; refine Zl (v := u1) rfl ?_; rotate_left; refine Gn rfl<|Gn rfl<|Gn rfl<|Ve rfl<|Gk<|Zb rfl ?_; refine Gx<|Gq<|Gz u1 rfl<|Vj u1 rfl<|Gk<|Zi ?_; refine Zl (v := u1) rfl ?_; rotate_left
    · have hy3' := hy3 Ka
      have hy4' := hy4 Ka
      have hlen : ∀ r ∈ x1, r.length = x1.length := fun r hr => (hp.2.2 r hr).1
      clear hp hk
      refine Zy [8, 32, 33, 34, 35, 36, 37, 38, 39, 40, 41, 42, 43, 44, 45, 46, 47, 48, 49, 50] (fun (j, rows) => [(8, .int .i64 (j : Nat))]) (fun (j, rows) w' => w.grownBy w' (some br) ∧ Rdr w0 w' br (m + 63) ∧ j ≤ x1.length ∧ Owned w.heap.size XR w' u1 rows ∧ rows.length = x1.length ∧ ∀ r ∈ rows, r.length = x1.length) (fun x => x1.length - x.1) (0, x1) Kg ?_ ?_
      · exact ⟨hG, hr4, Nat.zero_le _, hO1.o, rfl, hlen⟩
      rintro ⟨j, rows⟩ ρj w6 ⟨hG6, hr6, hj, hO6, hrl, hrr⟩
      have E6 := hr6.old
      by_cases hlt : j < x1.length
      · obtain ⟨ub, uc, rfl, _⟩ := hO6.lit Ka
        have hrb := hrr rows[y3] (List.getElem_mem Ka)
        have hra := hrr rows[y2] (List.getElem_mem Ka)
        have hset : ∀ r' : List Int, r'.length = x1.length → ∀ r ∈ rows.set y3 r', r.length = x1.length := by
          intro r' h9 r hr9
          rcases List.mem_or_eq_of_mem_set hr9 with h | h
          · exact hrr r h
          · rw [h]; exact h9
        focus
          refine Gp<|Gq<|Gw rfl<|Yw rfl<|Ze Kp rfl (Owned.read hO6)<|Zk rfl<|Gk<|Gl rfl (fun h3 => ?_) (fun h3 => ?_); refine Gx<|Gp<|Gv<|Un (fun _ => True) Yg rfl Kb ?_; intro w7 E7 K1 hz1; have hG6 := Gy hG6 E7; have hr6 := hr6.ext E7; refine WtmS 0 rfl rfl trivial<|WtmI 1 rfl rfl trivial<|Zh 2 rfl Kb Kb rfl (fun _ _ => Zo Kp Kt rfl rfl Ka) trivial ?_; refine WtmI 4 rfl rfl trivial<|WtmS 5 rfl rfl trivial<|WtmI 6 rfl rfl trivial<|Zh 7 rfl Kb Kb rfl (fun _ _ => Zo Kp Kt rfl rfl Ka) trivial ?_; refine WtmI 9 rfl rfl trivial<|Wha [3, 8]<|Gm rfl ?_ ?_; rotate_left
          refine Gm rfl ?_ ?_; rotate_left; exact Gt; (exfalso; omega)
        all_goals
          have hO7 := hO6.ext E7
          obtain ⟨bra, cra, hRa, ha1, ha2, ha3, ha4⟩ := rowCell hO7 (i := y2) (j := j) Ka Ka
          obtain ⟨brb, crb, hRb, hb1, hb2, hb3, hb4⟩ := rowCell hO7 (i := y3) (j := j) Ka Ka
        · focus
            refine Wo rfl (Zw Kx rfl Kd) ?_; refine Gk ?_; refine ⟨trivial, ?_⟩; refine Wha [8]<|Gm rfl ?_ ?_; refine Wo rfl (Zw Kx rfl Kd) ?_; refine Gk ?_; refine ⟨trivial, ?_⟩; refine Zh 10 rfl Kb Kb rfl (fun _ _ => Zo Km Kl rfl rfl Ka) trivial ?_; refine Wha [11]<|Gm rfl ?_ ?_; refine Wo rfl (Zw Kn rfl Kd) ?_; refine Gk ?_; refine ⟨trivial, ?_⟩; refine Zh 12 rfl Kb Kb rfl (fun _ _ => Zo Km Kl rfl rfl Ka) trivial ?_; refine Wha [13]<|Gm rfl ?_ ?_
            refine Ur rfl Kl rfl rfl (hO6.toB.ext E7) hRb Kf Kf ?_; rintro w8 hO6 hRb On1 K2 hz2; have E8 := On1.ext1 (E6.trans E7) Ka; have hG6 := Zc hG6 (E6.trans E7) E8 K2 hz2 (by first | exact .inr rfl | omega); have hr6 := hr6.wrote E8 (K2 _ Ka) hz2; refine Gk ?_; refine ⟨trivial, ?_⟩; refine Va Kb ?_; refine Zj<|Gw rfl<|Zt rfl<|Zp rfl<|Gk ?_; rotate_left; exact Gt; exact Gt; exact Gt
          refine ⟨((j + 1, rows.set y3 (rows[y3].set j rows[y2][j]))), Kg, Kh, ?_, ?_⟩
          · exact ⟨hG6, hr6, Ka, hO6, by simp [hrl], hset _ (by simp [hrb])⟩
          · simp only; omega
        · focus
            refine Wo rfl (Zw Kx rfl Kd) ?_; refine Gk ?_; refine ⟨trivial, ?_⟩; refine Zh 10 rfl Kb Kb rfl (fun _ _ => Zo Km Kl rfl rfl Ka) trivial ?_; refine Wha [3, 11]<|Gm rfl ?_ ?_; refine Wo rfl (Zw Kx rfl Kd) ?_; refine Gk ?_; refine ⟨trivial, ?_⟩; refine Wha [11]<|Gm rfl ?_ ?_; refine Wo rfl (Zw Kn rfl Kd) ?_; refine Gk ?_; refine ⟨trivial, ?_⟩; refine Zh 12 rfl Kb Kb rfl (fun _ _ => Zo Km Kl rfl rfl Ka) trivial ?_; refine Wha [13]<|Gm rfl ?_ ?_
            refine Ur rfl Kl rfl rfl (hO6.toB.ext E7) hRb Kf Kf ?_; rintro w8 hO6 hRb On1 K2 hz2; have E8 := On1.ext1 (E6.trans E7) Ka; have hG6 := Zc hG6 (E6.trans E7) E8 K2 hz2 (by first | exact .inr rfl | omega); have hr6 := hr6.wrote E8 (K2 _ Ka) hz2; refine Gk ?_; refine ⟨trivial, ?_⟩; refine Va Kb ?_; refine Zj<|Gw rfl<|Zt rfl<|Zp rfl<|Gk ?_; rotate_left; exact Gt; exact Gt; refine Gm rfl ?_ ?_; refine Wo rfl (Zw Kn rfl Kd) ?_; refine Gk ?_; refine ⟨trivial, ?_⟩; refine Wha [3]<|Gm rfl ?_ ?_; refine Wo rfl (Zw Kx rfl Kd) ?_; refine Gk ?_; refine ⟨trivial, ?_⟩
            refine Zh 12 rfl Kb Kb rfl (fun _ _ => Zo Km Kl rfl rfl Ka) trivial ?_; refine Wha [13]<|Gm rfl ?_ ?_; refine Ur rfl Kl rfl rfl (hO6.toB.ext E7) hRb Kf Kf ?_; rintro w8 hO6 hRb On1 K2 hz2; have E8 := On1.ext1 (E6.trans E7) Ka; have hG6 := Zc hG6 (E6.trans E7) E8 K2 hz2 (by first | exact .inr rfl | omega); have hr6 := hr6.wrote E8 (K2 _ Ka) hz2; refine Gk ?_; refine ⟨trivial, ?_⟩; refine Va Kb ?_; refine Zj<|Gw rfl<|Zt rfl<|Zp rfl<|Gk ?_; rotate_left; exact Gt; exact Gt; exact Gt
          · refine ⟨((j + 1, rows.set y3 (rows[y3].set j rows[y2][j]))), Kg, Kh, ?_, ?_⟩
            · exact ⟨hG6, hr6, Ka, hO6, by simp [hrl], hset _ (by simp [hrb])⟩
            · simp only; omega
          · refine ⟨((j + 1, rows.set y3 (rows[y3].set j rows[y2][j]))), Kg, Kh, ?_, ?_⟩
            · exact ⟨hG6, hr6, Ka, hO6, by simp [hrl], hset _ (by simp [hrb])⟩
            · simp only; omega
      · obtain rfl : j = x1.length := by omega
        focus
          refine Gp<|Gq<|Gw rfl<|Gz u1 rfl<|Ze Kp rfl (Owned.read hO6)<|Zk rfl<|Gk<|Gl rfl (fun h3 => ?_) (fun h3 => ?_); (exfalso; omega); refine Zu ?_; refine Za ?_; refine Gq<|Gz u1 rfl<|Vj u1 rfl<|Gk<|Zi ?_; refine Zl (v := u1) rfl ?_
        exact ⟨hG6, hr6, _, hO6, Ka, fun r h => by have := hrr r h; omega⟩
    · exact ⟨hG, hr2.le Ka, _, hO1.o, hy1⟩
    · exact ⟨hG, hr1.le Ka, _, hO1.ext E2, hy1⟩
  · have hk : ∀ w u, ESl Ints w u x1 → Does Tryz.prog 115 [u] w (Ret w (.bool false)) := fun w u h => by
      have := Yr w u x1 h
      rw [decide_eq_false hp] at this; exact this
    focus
      refine Gs rfl (Vl (a := u1) Jo rfl) (hk _ _ ((Owned.read hO1))) ?_; rintro _ w2 ⟨rfl, E2⟩; have hr1 := hr1.ext E2; have hG := Gy hG E2; refine Vx rfl<|Gn rfl<|Gn rfl<|Gn rfl<|Ve rfl<|Vx rfl<|Gn rfl<|Gn rfl<|Gn rfl<|Ve rfl<|Gk<|Zb rfl ?_; refine Gx<|Gq<|Gz u1 rfl<|Vj u1 rfl<|Gk<|Zi ?_; refine Zl (v := u1) rfl ?_
    exact ⟨hG, hr1.le Ka, _, hO1.ext E2, hy1⟩
end Go.Proofs.YtbgpppaljpngmaaGreatDoor
