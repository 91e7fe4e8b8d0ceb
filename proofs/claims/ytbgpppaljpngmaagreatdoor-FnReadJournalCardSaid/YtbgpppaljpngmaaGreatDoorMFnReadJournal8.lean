/- Lemmas for FnReadJournal. -/
import Derived.Test.YtbgpppaljpngmaaGreatDoorMFnReadJournal7
namespace Go.Proofs.YtbgpppaljpngmaaGreatDoor
open Go.Hs
set_option maxRecDepth 10000
set_option maxHeartbeats 4000000
set_option linter.unusedVariables false
set_option linter.unusedSimpArgs false
def DI (d : Dsk) : Prop := d = ⟨[], []⟩ ∨ DkOk d
theorem DI.now {d : Dsk} (h : DI d) : NowP d.now := by
  rcases h with rfl | h
  · exact .inl rfl
  · exact .inr h.1.1.gr
open Classical in
theorem DI.do {d : Dsk} (h : DI d) (a : Deed) : DI ⟨if DkOk d then (doV d a).1.now else [], if DkOk d then (doV d a).1.past else []⟩ := by
  by_cases hd : DkOk d
  · rw [if_pos hd, if_pos hd]; exact .inr (doV_ok hd)
  · rw [if_neg hd, if_neg hd]; exact .inl rfl
theorem odd0_ok (w : World) (u : Value) : Does Tryz.prog 76 [u, .int .i64 0] w (Ret w (.bool false)) := by
  refine Zy Tryz.func76 rfl Tryz.results76 Tryz.ntmps76 rfl ?_
  focus
    refine Gs<|Zc rfl<|Gm<|Gs<|Gz rfl<|Yt rfl<|Zp rfl (fun h1 => ?_) (fun h1 => ?_); contradiction; refine Gn rfl<|Gn rfl<|Gn rfl<|Gn rfl<|Gn rfl<|Gn rfl<|Vc rfl<|Zc rfl<|Gm<|Zd ?_; exact ⟨rfl, (Ext.refl _)⟩
open Classical in
theorem Desk0_ok {w0 : World} (w : World) {br m : Nat} (hr : Rdr w0 w br m) (hm : m ≤ 1000000) :
    Does Tryz.prog 56 [.pointer (some ⟨br, 0, none⟩), .int .i64 0] w (RetDK w0 w br (m + 130) DI) := by
  refine fn_of_Wc Tryz.func56 rfl Tryz.results56 Tryz.ntmps56 rfl Ks Ko ?_
  have hG : w.grownBy w (some br) := Xy _ _
  have hlr := hr.lt
  have hgr := hr.ge
  have k1 := fun (w : World) (v : Value) (p : List (List Int)) (h : ESl Ints w v p) (z : Int) => spec_DeskNew_ok w v p h z
  have stop3 : True := trivial
  focus
    refine Gs<|Zq rfl Vk ?_; rintro b1 w1 hb1 E1 hB1; have hlb1 := hB1.lt; have hr := hr.ext E1; have hG := Zb hG E1; refine Gm<|Gs<|Xx rfl<|Gu rfl (Vb (a := .pointer _) (b := .int _ _) Tryz.call105 rfl rfl) (Twin_ok _ _ Kd Ka Ka) ?_; rintro u1 w2 ⟨E2, hr1, x1, hO1, hy1⟩; (try dsimp only at hy1); have hB1 := hB1.grown E2 (by simp only [ne_eq, Option.some.injEq]; omega); have hG := Ze hG E2; have hs2 := E2.size; refine Vn u1 rfl<|Gm<|Gs<|Zh u1 rfl<|Xx rfl<|Zh u1 rfl<|Zm Kq rfl (Owned.read hO1)<|Gu rfl (Vb (a := .pointer _) (b := .int _ _) Jc rfl rfl) (Vu _ _ Kd Ka) ?_; rintro _ w3 ⟨y1, rfl, E3, hr2, hy2⟩; (try dsimp only at hy2); have hlhr2 := hr2.lt; have Ehr2 := hr2.old
    have hO1 := hO1.toB.grown E3 Ka; have hB1 := hB1.grown E3 (by simp only [ne_eq, Option.some.injEq]; omega); have hG := Ze hG E3; have hs3 := E3.size; refine Gu rfl (Vb (a := u1) (b := .int _ _) Tryz.call106 rfl rfl) (k1 _ _ _ ((OwnedB.read hO1)) _) ?_; rintro _ w4 ⟨u2, q1, m1, rfl, E4, hO2, hQ1, hm1, hn1⟩; have icu2 := OwnedB.isC hO2; have icq1 := OwnedB.isC (Owned.toB hQ1); have hr2 := hr2.ext E4; have hG := Zb hG E4; have hs4 := E4.size; refine Xf rfl<|To rfl<|Yz rfl<|Zq rfl Vk ?_; rintro b2 w5 hb2 E5 hB2; have hlb2 := hB2.lt; have hr2 := hr2.ext E5; have hG := Zb hG E5; refine Yu Ko hB2 rfl ((Ehr2.trans E4).trans E5) ?_; rintro w6 E6 hB2 K1 hz1
    have hO1 := (hO1.ext exq).wrote K1 Ka; have hB1 := (hB1.ext exq).of_heap (K1 _ Ka); have hO2 := (hO2.ext E5).wrote K1 Ka; have hQ1 := (hQ1.toB.ext E5).wrote K1 Ka; have hr2 := hr2.wrote E6 (K1 _ Ka) hz1; have hG := Zf hG ((Ehr2.trans E4).trans E5) E6 K1 hz1 (by first | exact .inr rfl | omega); refine Zc rfl<|Gm<|Gt<|Gt ?_
  clear stop3
  have i1 := icu2
  have i2 := icq1
  have hA := (hO2.rd.wide (Nat.le_refl _) (show m1 ≤ w4.heap.size by omega))
  have hC := (hQ1.rd.wide (show w3.heap.size ≤ m1 by omega) (Nat.le_refl _))
  have hd : DI ⟨if Nod x1 (y1 : Int) then lst x1 (y1 : Int).toNat else [], []⟩ := by
    by_cases hz : Nod x1 (y1 : Int)
    · rw [if_pos hz]
      have hl : (y1 : Int).toNat < x1.length := by have := hz.2; omega
      exact .inr ⟨LeastP.lst hz.1.gr hl (Nat.le_trans (lst_le hz.1.gr hl) hz.1.2.1), Ki, fun p hp => by cases hp⟩
    · rw [if_neg hz]; exact .inl rfl
  generalize (if Nod x1 (y1 : Int) then lst x1 (y1 : Int).toNat else []) = now at *
  generalize hpast : ([] : List (List (List Int))) = past at hC hd
  clear hO1 hO2 hQ1
  focus
    refine Zl<|Xx rfl<|Gu rfl (Vb (a := .pointer _) (b := .int _ _) Jc rfl rfl) (Vu _ _ Kd Ka) ?_; rintro _ w7 ⟨y2, rfl, E9, hr3, hy3⟩; (try dsimp only at hy3); have hB2 := hB2.grown E9 (by simp only [ne_eq, Option.some.injEq]; omega); have hB1 := hB1.grown E9 (by simp only [ne_eq, Option.some.injEq]; omega); have hG := Ze hG E9; have hA := hA.grown E9 Ka; have hC := hC.grown E9 Ka; have hs6 := E9.size; refine Zr rfl<|Gm<|Gy ?_
  have hy2' := hy3 Ka
  refine Vf [8, 9, 10, 24, 25, 26, 27, 28, 29, 30, 31, 32, 33, 34, 35, 36, 37] (fun ((k, v1, v2, d, lo, hi) : Nat × Value × Value × Dsk × Nat × Nat) => [(8, .int .i64 (k : Nat))]) (fun (k, v1, v2, d, lo, hi) w' => w.grownBy w' (some br) ∧ Rdr w0 w' br (m + 65 + 10 * (4 - k)) ∧ k ≤ 4 ∧ w6.heap.size ≤ w'.heap.size ∧ Blk w' b1 [.slice none 0 0, .slice none 0 0] ∧ Blk w' b2 [v1, v2] ∧ b1 < lo ∧ lo < w'.heap.size ∧ hi ≤ w'.heap.size ∧ (hi ≤ b2 ∨ b2 < lo) ∧ OwnedB lo hi (XRd (ESl Ints)) w' v1 d.now ∧ OwnedB lo hi (XRd (ESl (ESl Ints))) w' v2 d.past ∧ isCell v1 = true ∧ isCell v2 = true ∧ DI d) (fun x => x.1) (y2, u2, q1, ⟨now, past⟩, w3.heap.size, w4.heap.size) Kg ?_ ?_
  · exact ⟨hG, by first | exact hr3.le Ka | exact hr2.le Ka | exact hr1.le Ka, Ka, Ka, hB1, hB2, Ka, Ka, Ka, Ka, hA, hC, i1, i2, hd⟩
  clear hr1 hG hA hC hB1 hB2
  rintro ⟨k, v1, v2, d, lo, hi⟩ ρj w7 ⟨hG, hr, hk, hsz, hB1, hB2, hbl, hlw, hhw, hb2, hA, hC, ic1, ic2, hd⟩
  have E7 := hr.old
  have kD : ∀ (w : World) (m' : Nat) (hr : Rdr w0 w br m') (hm : m' ≤ 10000000) (hA : OwnedB lo hi (XRd (ESl Ints)) w v1 d.now), lo < w.heap.size → Does Tryz.prog 91 [.pointer (some ⟨br, 0, none⟩), .agg #[v1, v2]] w (RetDD w0 w br (m' + 10) DrP) := fun w m' hr hm hA hl => Deed_ok w v1 v2 d.now hr hm hA.above Ka hl ic2 hd.now
  have kS : ∀ (w : World) (k n : Int) (t : List UInt8), DrP ⟨k, t, n⟩ → ESl Ints w v1 d.now → ESl (ESl Ints) w v2 d.past → Does Tryz.prog 37 [.agg #[v1, v2], .agg #[.int .i64 k, str t, .int .i64 n]] w (RetDkRB w (if DkOk d then (doV d ⟨k, t, n⟩).1.now else []) (if DkOk d then (doV d ⟨k, t, n⟩).1.past else []) (decide (DkOk d) && (doV d ⟨k, t, n⟩).2)) := fun w k n t ht h1 h2 => (spec_DeskDo_ok w v1 v2 d h1 h2 k n t (by have := ht.2.2.1; simp only at this; omega)).mono fun _ _ h => h.r
  by_cases hk0 : 0 < k
  · have stop6 : True := trivial
    focus
      refine Gt<|Gs<|Gz rfl<|Yt rfl<|Gm<|Gq rfl (fun h1 => ?_) (fun h1 => ?_); refine Gx<|Gt<|Gy<|Gt ?_; rotate_left; (exfalso; omega)
    clear stop6
    refine W_mid [28, 29, 30, 31, 32, 33, 34, 35, 9, 10] (fun ((b9, x1, x2, d', lo', hi', ok) : Nat × Value × Value × Dsk × Nat × Nat × Bool) => [(9, .pointer (some ⟨b9, 0, none⟩)), (10, .bool ok)]) (fun (b9, x1, x2, d', lo', hi', ok) w' => w.grownBy w' (some br) ∧ Rdr w0 w' br (m + 65 + 10 * (4 - k) + 10) ∧ w6.heap.size ≤ w'.heap.size ∧ Blk w' b1 [.slice none 0 0, .slice none 0 0] ∧ Blk w' b2 [v1, v2] ∧ Blk w' b9 [x1, x2] ∧ lo < w'.heap.size ∧ hi ≤ w'.heap.size ∧ OwnedB lo hi (XRd (ESl Ints)) w' v1 d.now ∧ OwnedB lo hi (XRd (ESl (ESl Ints))) w' v2 d.past ∧ b1 < lo' ∧ lo' < w'.heap.size ∧ hi' ≤ w'.heap.size ∧ b2 < lo' ∧ OwnedB lo' hi' (XRd (ESl Ints)) w' x1 d'.now ∧ OwnedB lo' hi' (XRd (ESl (ESl Ints))) w' x2 d'.past ∧ isCell x1 = true ∧ isCell x2 = true ∧ DI d') ?_ ?_
    · focus
        refine Qb (fun _ => True) Yn rfl Kb ?_; intro w8 E10 K2 hz2; have hG := Zb hG E10; have hr := hr.ext E10; refine WtmP 1 rfl rfl trivial<|Wha [0, 2, 8]<|Gp rfl ?_ ?_; refine Ye Ks Ko (hB2.ext E10) rfl<|Gm ?_; refine ⟨trivial, ?_⟩; refine Wha [2, 8]<|Gp rfl ?_ ?_; refine Ye Ks Ko (hB2.ext E10) rfl<|Gm ?_; refine ⟨trivial, ?_⟩; refine Wha [3, 8]<|Gp rfl ?_ ?_; refine Gu rfl (Vb (a := .pointer _) (b := .agg _) Jk rfl rfl) (kD _ _ Kd Ka ((hA.ext E10)) Ka) ?_; rintro _ w9 ⟨k2, t1, n1, rfl, E11, hr1, hy4⟩; (try dsimp only at hy4); have hlhr1 := hr1.lt; have Ehr1 := hr1.old; have hB1 := (hB1.ext E10).grown E11 (by simp only [ne_eq, Option.some.injEq]; omega); have hB2 := (hB2.ext E10).grown E11 (by simp only [ne_eq, Option.some.injEq]; omega)
        have hA := (hA.ext E10).grown E11 Ka; have hC := (hC.ext E10).grown E11 Ka; have hG := Ze hG E11; have hs8 := E11.size; refine Gm ?_; refine ⟨trivial, ?_⟩; refine Wha [4, 8]<|Gp rfl ?_ ?_; refine Gu rfl (Vb (a := .agg _) (b := .agg _) Jj rfl rfl) (kS _ _ _ _ Kd ((OwnedB.read hA)) ((OwnedB.read hC))) ?_; rintro _ w10 ⟨u3, q2, rfl, E12, hA1, hC1, icu3, icq2, gwu3⟩; have hr1 := hr1.ext E12; have hG := Zb hG E12; refine Gm ?_; refine ⟨trivial, ?_⟩; refine Qq 5 rfl rfl trivial<|Qp 6 rfl rfl trivial<|Qz 7 rfl rfl trivial<|Wha [8]<|Gp rfl ?_ ?_; refine Zq rfl Vk ?_; rintro b3 w11 hb3 E13 hB3; have hlb3 := hB3.lt; have hr1 := hr1.ext E13; have hG := Zb hG E13; have hs10 := E13.size; refine Gm ?_; refine ⟨trivial, ?_⟩; refine Wha [9] ?_
        refine Gp rfl ?_ ?_; refine Yu Ko hB3 rfl ((Ehr1.trans E12).trans E13) ?_; rintro w12 E14 hB3 K3 hz3; have E15 := (E12.trans E13).wroteAt exq E14 K3 hz3 Ka; have szE15 := E15.size; have E16 := E13.wroteAt exq E14 K3 hz3 Ka; have szE16 := E16.size; have hB1 := (hB1.ext exq).of_heap (K3 _ Ka); have hB2 := (hB2.ext exq).of_heap (K3 _ Ka); have hA := (hA.ext exq).wrote K3 Ka; have hC := (hC.ext exq).wrote K3 Ka; have hA1 := (hA1.ext E13).wrote K3 Ka; have hC1 := (hC1.ext E13).wrote K3 Ka; have hr1 := hr1.wrote E14 (K3 _ Ka) hz3; have hG := Zf hG ((Ehr1.trans E12).trans E13) E14 K3 hz3 (by first | exact .inr rfl | omega); refine Gm ?_; refine ⟨trivial, ?_⟩; refine Qy 10 rfl rfl trivial<|Vd Kb ?_; rotate_left; exact Gv; exact Gv; refine Gp rfl ?_ ?_
        refine Zq rfl Vk ?_; rintro b3 w10 hb3 E12 hB3; have hlb3 := hB3.lt; have hr1 := hr1.ext E12; have hG := Zb hG E12; refine Gm ?_; refine ⟨trivial, ?_⟩; refine Wha [4]<|Gp rfl ?_ ?_; refine Gu rfl (Vb (a := .agg _) (b := .agg _) Jj rfl rfl) (kS _ _ _ _ Kd ((Mono.mono E12 (OwnedB.read hA))) ((Mono.mono E12 (OwnedB.read hC)))) ?_; rintro _ w11 ⟨u3, q2, rfl, E13, hA1, hC1, icu3, icq2, gwu3⟩; have hr1 := hr1.ext E13; have hG := Zb hG E13; refine Gm ?_; refine ⟨trivial, ?_⟩; refine Qq 5 rfl rfl trivial<|Qp 6 rfl rfl trivial<|Qz 7 rfl rfl trivial<|Wha [9]<|Gp rfl ?_ ?_; refine Yu Ko (hB3.ext E13) rfl ((Ehr1.trans E12).trans E13) ?_; rintro w12 E14 hB3 K3 hz3; have hB1 := (hB1.ext exq).of_heap (K3 _ Ka)
        have hB2 := (hB2.ext exq).of_heap (K3 _ Ka); have hA := (hA.ext exq).wrote K3 Ka; have hC := (hC.ext exq).wrote K3 Ka; have hA1 := hA1.wrote K3 Ka; have hC1 := hC1.wrote K3 Ka; have hr1 := hr1.wrote E14 (K3 _ Ka) hz3; have hG := Zf hG ((Ehr1.trans E12).trans E13) E14 K3 hz3 (by first | exact .inr rfl | omega); refine Gm ?_; refine ⟨trivial, ?_⟩; refine Qy 10 rfl rfl trivial<|Vd Kb ?_; rotate_left; exact Gv; exact Gv; exact Gv; refine Gp rfl ?_ ?_; refine Zq rfl Vk ?_; rintro b3 w9 hb3 E11 hB3; have hlb3 := hB3.lt; have hG := Zb hG E11; have hr := hr.ext E11; refine Gm ?_; refine ⟨trivial, ?_⟩; refine Wha [3]<|Gp rfl ?_ ?_
        refine Gu rfl (Vb (a := .pointer _) (b := .agg _) Jk rfl rfl) (kD _ _ Kd Ka ((hA.ext exq)) Ka) ?_; rintro _ w10 ⟨k2, t1, n1, rfl, E12, hr1, hy4⟩; (try dsimp only at hy4); have Ehr1 := hr1.old; have hB1 := (hB1.ext (E10.trans E11)).grown E12 (by simp only [ne_eq, Option.some.injEq]; omega); have hB2 := (hB2.ext (E10.trans E11)).grown E12 (by simp only [ne_eq, Option.some.injEq]; omega); have hA := (hA.ext (E10.trans E11)).grown E12 Ka; have hC := (hC.ext (E10.trans E11)).grown E12 Ka; have hB3 := hB3.grown E12 (by simp only [ne_eq, Option.some.injEq]; omega); have hG := Ze hG E12; have hs9 := E12.size; refine Gm ?_; refine ⟨trivial, ?_⟩; refine Wha [4] ?_
        refine Gp rfl ?_ ?_; refine Gu rfl (Vb (a := .agg _) (b := .agg _) Jj rfl rfl) (kS _ _ _ _ Kd ((OwnedB.read hA)) ((OwnedB.read hC))) ?_; rintro _ w11 ⟨u3, q2, rfl, E13, hA1, hC1, icu3, icq2, gwu3⟩; have hr1 := hr1.ext E13; have hG := Zb hG E13; refine Gm ?_; refine ⟨trivial, ?_⟩; refine Qq 5 rfl rfl trivial<|Qp 6 rfl rfl trivial<|Qz 7 rfl rfl trivial<|Wha [9]<|Gp rfl ?_ ?_; refine Yu Ko (hB3.ext E13) rfl (Ehr1.trans E13) ?_; rintro w12 E14 hB3 K3 hz3; have hB1 := (hB1.ext E13).of_heap (K3 _ Ka); have hB2 := (hB2.ext E13).of_heap (K3 _ Ka); have hA := (hA.ext E13).wrote K3 Ka; have hC := (hC.ext E13).wrote K3 Ka; have hA1 := hA1.wrote K3 Ka; have hC1 := hC1.wrote K3 Ka
        have hr1 := hr1.wrote E14 (K3 _ Ka) hz3; have hG := Zf hG (Ehr1.trans E13) E14 K3 hz3 (by first | exact .inr rfl | omega); refine Gm ?_; refine ⟨trivial, ?_⟩; refine Qy 10 rfl rfl trivial<|Vd Kb ?_; rotate_left; exact Gv; exact Gv; exact Gv; exact Gv; refine Gp rfl ?_ ?_; refine Zq rfl Vk ?_; rintro b3 w9 hb3 E11 hB3; have hlb3 := hB3.lt; have hG := Zb hG E11; have hr := hr.ext E11; refine Gm ?_; refine ⟨trivial, ?_⟩; refine Wha [2]<|Gp rfl ?_ ?_; refine Ye Ks Ko (hB2.ext exq) rfl<|Gm ?_; refine ⟨trivial, ?_⟩; refine Wha [3]<|Gp rfl ?_ ?_
        refine Gu rfl (Vb (a := .pointer _) (b := .agg _) Jk rfl rfl) (kD _ _ Kd Ka ((hA.ext exq)) Ka) ?_; rintro _ w10 ⟨k2, t1, n1, rfl, E12, hr1, hy4⟩; (try dsimp only at hy4); have Ehr1 := hr1.old; have hB1 := (hB1.ext (E10.trans E11)).grown E12 (by simp only [ne_eq, Option.some.injEq]; omega); have hB2 := (hB2.ext (E10.trans E11)).grown E12 (by simp only [ne_eq, Option.some.injEq]; omega); have hA := (hA.ext (E10.trans E11)).grown E12 Ka; have hC := (hC.ext (E10.trans E11)).grown E12 Ka; have hB3 := hB3.grown E12 (by simp only [ne_eq, Option.some.injEq]; omega); have hG := Ze hG E12; have hs9 := E12.size; refine Gm ?_; refine ⟨trivial, ?_⟩; refine Wha [4] ?_
        refine Gp rfl ?_ ?_; refine Gu rfl (Vb (a := .agg _) (b := .agg _) Jj rfl rfl) (kS _ _ _ _ Kd ((OwnedB.read hA)) ((OwnedB.read hC))) ?_; rintro _ w11 ⟨u3, q2, rfl, E13, hA1, hC1, icu3, icq2, gwu3⟩; have hr1 := hr1.ext E13; have hG := Zb hG E13; refine Gm ?_; refine ⟨trivial, ?_⟩; refine Qq 5 rfl rfl trivial<|Qp 6 rfl rfl trivial<|Qz 7 rfl rfl trivial<|Wha [9]<|Gp rfl ?_ ?_; refine Yu Ko (hB3.ext E13) rfl (Ehr1.trans E13) ?_; rintro w12 E14 hB3 K3 hz3; have hB1 := (hB1.ext E13).of_heap (K3 _ Ka); have hB2 := (hB2.ext E13).of_heap (K3 _ Ka); have hA := (hA.ext E13).wrote K3 Ka; have hC := (hC.ext E13).wrote K3 Ka; have hA1 := hA1.wrote K3 Ka; have hC1 := hC1.wrote K3 Ka
        have hr1 := hr1.wrote E14 (K3 _ Ka) hz3; have hG := Zf hG (Ehr1.trans E13) E14 K3 hz3 (by first | exact .inr rfl | omega); refine Gm ?_; refine ⟨trivial, ?_⟩; refine Qy 10 rfl rfl trivial<|Vd Kb ?_; rotate_left; exact Gv; exact Gv; exact Gv; exact Gv; exact Gv; refine Gp rfl ?_ ?_; refine Ye Ks Ko (hB2.ext E10) rfl<|Gm ?_; refine ⟨trivial, ?_⟩; refine Wha [0, 3, 8]<|Gp rfl ?_ ?_; refine Ye Ks Ko (hB2.ext E10) rfl<|Gm ?_; refine ⟨trivial, ?_⟩; refine Wha [3, 8]<|Gp rfl ?_ ?_; refine Gu rfl (Vb (a := .pointer _) (b := .agg _) Jk rfl rfl) (kD _ _ Kd Ka ((hA.ext E10)) Ka) ?_; rintro _ w9 ⟨k2, t1, n1, rfl, E11, hr1, hy4⟩
        (try dsimp only at hy4); have hlhr1 := hr1.lt; have Ehr1 := hr1.old; have hB1 := (hB1.ext E10).grown E11 (by simp only [ne_eq, Option.some.injEq]; omega); have hB2 := (hB2.ext E10).grown E11 (by simp only [ne_eq, Option.some.injEq]; omega); have hA := (hA.ext E10).grown E11 Ka; have hC := (hC.ext E10).grown E11 Ka; have hG := Ze hG E11; have hs8 := E11.size; refine Gm ?_; refine ⟨trivial, ?_⟩; refine Wha [4, 8]<|Gp rfl ?_ ?_; refine Gu rfl (Vb (a := .agg _) (b := .agg _) Jj rfl rfl) (kS _ _ _ _ Kd ((OwnedB.read hA)) ((OwnedB.read hC))) ?_; rintro _ w10 ⟨u3, q2, rfl, E12, hA1, hC1, icu3, icq2, gwu3⟩; have hr1 := hr1.ext E12; have hG := Zb hG E12; refine Gm ?_; refine ⟨trivial, ?_⟩; refine Qq 5 rfl rfl trivial<|Qp 6 rfl rfl trivial<|Qz 7 rfl rfl trivial ?_
        refine Wha [8]<|Gp rfl ?_ ?_; refine Zq rfl Vk ?_; rintro b3 w11 hb3 E13 hB3; have hlb3 := hB3.lt; have hr1 := hr1.ext E13; have hG := Zb hG E13; have hs10 := E13.size; refine Gm ?_; refine ⟨trivial, ?_⟩; refine Wha [9]<|Gp rfl ?_ ?_; refine Yu Ko hB3 rfl ((Ehr1.trans E12).trans E13) ?_; rintro w12 E14 hB3 K3 hz3; have E15 := (E12.trans E13).wroteAt exq E14 K3 hz3 Ka; have szE15 := E15.size; have E16 := E13.wroteAt exq E14 K3 hz3 Ka; have szE16 := E16.size; have hB1 := (hB1.ext exq).of_heap (K3 _ Ka); have hB2 := (hB2.ext exq).of_heap (K3 _ Ka); have hA := (hA.ext exq).wrote K3 Ka; have hC := (hC.ext exq).wrote K3 Ka; have hA1 := (hA1.ext E13).wrote K3 Ka; have hC1 := (hC1.ext E13).wrote K3 Ka; have hr1 := hr1.wrote E14 (K3 _ Ka) hz3
        have hG := Zf hG ((Ehr1.trans E12).trans E13) E14 K3 hz3 (by first | exact .inr rfl | omega); refine Gm ?_; refine ⟨trivial, ?_⟩; refine Qy 10 rfl rfl trivial<|Vd Kb ?_; rotate_left; exact Gv; exact Gv; refine Gp rfl ?_ ?_; refine Zq rfl Vk ?_; rintro b3 w10 hb3 E12 hB3; have hlb3 := hB3.lt; have hr1 := hr1.ext E12; have hG := Zb hG E12; refine Gm ?_; refine ⟨trivial, ?_⟩; refine Wha [4]<|Gp rfl ?_ ?_; refine Gu rfl (Vb (a := .agg _) (b := .agg _) Jj rfl rfl) (kS _ _ _ _ Kd ((Mono.mono E12 (OwnedB.read hA))) ((Mono.mono E12 (OwnedB.read hC)))) ?_; rintro _ w11 ⟨u3, q2, rfl, E13, hA1, hC1, icu3, icq2, gwu3⟩; have hr1 := hr1.ext E13; have hG := Zb hG E13; refine Gm ?_; refine ⟨trivial, ?_⟩; refine Qq 5 rfl rfl trivial<|Qp 6 rfl rfl trivial ?_
        refine Qz 7 rfl rfl trivial<|Wha [9]<|Gp rfl ?_ ?_; refine Yu Ko (hB3.ext E13) rfl ((Ehr1.trans E12).trans E13) ?_; rintro w12 E14 hB3 K3 hz3; have hB1 := (hB1.ext exq).of_heap (K3 _ Ka); have hB2 := (hB2.ext exq).of_heap (K3 _ Ka); have hA := (hA.ext exq).wrote K3 Ka; have hC := (hC.ext exq).wrote K3 Ka; have hA1 := hA1.wrote K3 Ka; have hC1 := hC1.wrote K3 Ka; have hr1 := hr1.wrote E14 (K3 _ Ka) hz3; have hG := Zf hG ((Ehr1.trans E12).trans E13) E14 K3 hz3 (by first | exact .inr rfl | omega); refine Gm ?_; refine ⟨trivial, ?_⟩; refine Qy 10 rfl rfl trivial<|Vd Kb ?_; rotate_left; exact Gv; exact Gv; exact Gv
        refine Gp rfl ?_ ?_; refine Zq rfl Vk ?_; rintro b3 w9 hb3 E11 hB3; have hlb3 := hB3.lt; have hG := Zb hG E11; have hr := hr.ext E11; refine Gm ?_; refine ⟨trivial, ?_⟩; refine Wha [3]<|Gp rfl ?_ ?_; refine Gu rfl (Vb (a := .pointer _) (b := .agg _) Jk rfl rfl) (kD _ _ Kd Ka ((hA.ext exq)) Ka) ?_; rintro _ w10 ⟨k2, t1, n1, rfl, E12, hr1, hy4⟩; (try dsimp only at hy4); have Ehr1 := hr1.old; have hB1 := (hB1.ext (E10.trans E11)).grown E12 (by simp only [ne_eq, Option.some.injEq]; omega); have hB2 := (hB2.ext (E10.trans E11)).grown E12 (by simp only [ne_eq, Option.some.injEq]; omega); have hA := (hA.ext (E10.trans E11)).grown E12 Ka; have hC := (hC.ext (E10.trans E11)).grown E12 Ka
        have hB3 := hB3.grown E12 (by simp only [ne_eq, Option.some.injEq]; omega); have hG := Ze hG E12; have hs9 := E12.size; refine Gm ?_; refine ⟨trivial, ?_⟩; refine Wha [4]<|Gp rfl ?_ ?_; refine Gu rfl (Vb (a := .agg _) (b := .agg _) Jj rfl rfl) (kS _ _ _ _ Kd ((OwnedB.read hA)) ((OwnedB.read hC))) ?_; rintro _ w11 ⟨u3, q2, rfl, E13, hA1, hC1, icu3, icq2, gwu3⟩; have hr1 := hr1.ext E13; have hG := Zb hG E13; refine Gm ?_; refine ⟨trivial, ?_⟩; refine Qq 5 rfl rfl trivial<|Qp 6 rfl rfl trivial<|Qz 7 rfl rfl trivial<|Wha [9]<|Gp rfl ?_ ?_; refine Yu Ko (hB3.ext E13) rfl (Ehr1.trans E13) ?_; rintro w12 E14 hB3 K3 hz3; have hB1 := (hB1.ext E13).of_heap (K3 _ Ka)
        have hB2 := (hB2.ext E13).of_heap (K3 _ Ka); have hA := (hA.ext E13).wrote K3 Ka; have hC := (hC.ext E13).wrote K3 Ka; have hA1 := hA1.wrote K3 Ka; have hC1 := hC1.wrote K3 Ka; have hr1 := hr1.wrote E14 (K3 _ Ka) hz3; have hG := Zf hG (Ehr1.trans E13) E14 K3 hz3 (by first | exact .inr rfl | omega); refine Gm ?_; refine ⟨trivial, ?_⟩; refine Qy 10 rfl rfl trivial<|Vd Kb ?_; rotate_left; exact Gv; exact Gv; exact Gv; exact Gv; refine Gp rfl ?_ ?_; refine Gu rfl (Vb (a := .pointer _) (b := .agg _) Jk rfl rfl) (kD _ _ Kd Ka ((hA.ext E10)) Ka) ?_; rintro _ w9 ⟨k2, t1, n1, rfl, E11, hr1, hy4⟩
        (try dsimp only at hy4); have hlhr1 := hr1.lt; have Ehr1 := hr1.old; have hB1 := (hB1.ext E10).grown E11 (by simp only [ne_eq, Option.some.injEq]; omega); have hB2 := (hB2.ext E10).grown E11 (by simp only [ne_eq, Option.some.injEq]; omega); have hA := (hA.ext E10).grown E11 Ka; have hC := (hC.ext E10).grown E11 Ka; have hG := Ze hG E11; have hs8 := E11.size; refine Gm ?_; refine ⟨trivial, ?_⟩; refine Wha [0, 8]<|Gp rfl ?_ ?_; refine Ye Ks Ko hB2 rfl<|Gm ?_; refine ⟨trivial, ?_⟩; refine Wha [4, 8]<|Gp rfl ?_ ?_; refine Gu rfl (Vb (a := .agg _) (b := .agg _) Jj rfl rfl) (kS _ _ _ _ Kd ((OwnedB.read hA)) ((OwnedB.read hC))) ?_; rintro _ w10 ⟨u3, q2, rfl, E12, hA1, hC1, icu3, icq2, gwu3⟩; have hr1 := hr1.ext E12
        have hG := Zb hG E12; refine Gm ?_; refine ⟨trivial, ?_⟩; refine Qq 5 rfl rfl trivial<|Qp 6 rfl rfl trivial<|Qz 7 rfl rfl trivial<|Wha [8]<|Gp rfl ?_ ?_; refine Zq rfl Vk ?_; rintro b3 w11 hb3 E13 hB3; have hlb3 := hB3.lt; have hr1 := hr1.ext E13; have hG := Zb hG E13; have hs10 := E13.size; refine Gm ?_; refine ⟨trivial, ?_⟩; refine Wha [9]<|Gp rfl ?_ ?_; refine Yu Ko hB3 rfl ((Ehr1.trans E12).trans E13) ?_; rintro w12 E14 hB3 K3 hz3; have E15 := (E12.trans E13).wroteAt exq E14 K3 hz3 Ka; have szE15 := E15.size; have E16 := E13.wroteAt exq E14 K3 hz3 Ka; have szE16 := E16.size; have hB1 := (hB1.ext exq).of_heap (K3 _ Ka); have hB2 := (hB2.ext exq).of_heap (K3 _ Ka); have hA := (hA.ext exq).wrote K3 Ka
        have hC := (hC.ext exq).wrote K3 Ka; have hA1 := (hA1.ext E13).wrote K3 Ka; have hC1 := (hC1.ext E13).wrote K3 Ka; have hr1 := hr1.wrote E14 (K3 _ Ka) hz3; have hG := Zf hG ((Ehr1.trans E12).trans E13) E14 K3 hz3 (by first | exact .inr rfl | omega); refine Gm ?_; refine ⟨trivial, ?_⟩; refine Qy 10 rfl rfl trivial<|Vd Kb ?_; rotate_left; exact Gv; exact Gv; refine Gp rfl ?_ ?_; refine Zq rfl Vk ?_; rintro b3 w10 hb3 E12 hB3; have hlb3 := hB3.lt; have hr1 := hr1.ext E12; have hG := Zb hG E12; refine Gm ?_; refine ⟨trivial, ?_⟩; refine Wha [4]<|Gp rfl ?_ ?_; refine Gu rfl (Vb (a := .agg _) (b := .agg _) Jj rfl rfl) (kS _ _ _ _ Kd ((Mono.mono E12 (OwnedB.read hA))) ((Mono.mono E12 (OwnedB.read hC)))) ?_
        rintro _ w11 ⟨u3, q2, rfl, E13, hA1, hC1, icu3, icq2, gwu3⟩; have hr1 := hr1.ext E13; have hG := Zb hG E13; refine Gm ?_; refine ⟨trivial, ?_⟩; refine Qq 5 rfl rfl trivial<|Qp 6 rfl rfl trivial<|Qz 7 rfl rfl trivial<|Wha [9]<|Gp rfl ?_ ?_; refine Yu Ko (hB3.ext E13) rfl ((Ehr1.trans E12).trans E13) ?_; rintro w12 E14 hB3 K3 hz3; have hB1 := (hB1.ext exq).of_heap (K3 _ Ka); have hB2 := (hB2.ext exq).of_heap (K3 _ Ka); have hA := (hA.ext exq).wrote K3 Ka; have hC := (hC.ext exq).wrote K3 Ka; have hA1 := hA1.wrote K3 Ka; have hC1 := hC1.wrote K3 Ka; have hr1 := hr1.wrote E14 (K3 _ Ka) hz3; have hG := Zf hG ((Ehr1.trans E12).trans E13) E14 K3 hz3 (by first | exact .inr rfl | omega); refine Gm ?_; refine ⟨trivial, ?_⟩
        refine Qy 10 rfl rfl trivial<|Vd Kb ?_; rotate_left; exact Gv; exact Gv; exact Gv; refine Gp rfl ?_ ?_; refine Zq rfl Vk ?_; rintro b3 w10 hb3 E12 hB3; have hlb3 := hB3.lt; have hr1 := hr1.ext E12; have hG := Zb hG E12; refine Gm ?_; refine ⟨trivial, ?_⟩; refine Wha [0]<|Gp rfl ?_ ?_; refine Ye Ks Ko (hB2.ext E12) rfl<|Gm ?_; refine ⟨trivial, ?_⟩; refine Wha [4]<|Gp rfl ?_ ?_; refine Gu rfl (Vb (a := .agg _) (b := .agg _) Jj rfl rfl) (kS _ _ _ _ Kd ((Mono.mono E12 (OwnedB.read hA))) ((Mono.mono E12 (OwnedB.read hC)))) ?_; rintro _ w11 ⟨u3, q2, rfl, E13, hA1, hC1, icu3, icq2, gwu3⟩; have hr1 := hr1.ext E13; have hG := Zb hG E13; refine Gm ?_; refine ⟨trivial, ?_⟩; refine Qq 5 rfl rfl trivial<|Qp 6 rfl rfl trivial ?_
        refine Qz 7 rfl rfl trivial<|Wha [9]<|Gp rfl ?_ ?_; refine Yu Ko (hB3.ext E13) rfl ((Ehr1.trans E12).trans E13) ?_; rintro w12 E14 hB3 K3 hz3; have hB1 := (hB1.ext exq).of_heap (K3 _ Ka); have hB2 := (hB2.ext exq).of_heap (K3 _ Ka); have hA := (hA.ext exq).wrote K3 Ka; have hC := (hC.ext exq).wrote K3 Ka; have hA1 := hA1.wrote K3 Ka; have hC1 := hC1.wrote K3 Ka; have hr1 := hr1.wrote E14 (K3 _ Ka) hz3; have hG := Zf hG ((Ehr1.trans E12).trans E13) E14 K3 hz3 (by first | exact .inr rfl | omega); refine Gm ?_; refine ⟨trivial, ?_⟩; refine Qy 10 rfl rfl trivial<|Vd Kb ?_; rotate_left; exact Gv; exact Gv; exact Gv; exact Gv
        refine Gp rfl ?_ ?_; refine Zq rfl Vk ?_; rintro b3 w9 hb3 E11 hB3; have hlb3 := hB3.lt; have hG := Zb hG E11; have hr := hr.ext E11; refine Gm ?_; refine ⟨trivial, ?_⟩; refine Wha [0, 3]<|Gp rfl ?_ ?_; refine Ye Ks Ko (hB2.ext exq) rfl<|Gm ?_; refine ⟨trivial, ?_⟩; refine Wha [3]<|Gp rfl ?_ ?_; refine Gu rfl (Vb (a := .pointer _) (b := .agg _) Jk rfl rfl) (kD _ _ Kd Ka ((hA.ext exq)) Ka) ?_; rintro _ w10 ⟨k2, t1, n1, rfl, E12, hr1, hy4⟩; (try dsimp only at hy4); have Ehr1 := hr1.old; have hB1 := (hB1.ext (E10.trans E11)).grown E12 (by simp only [ne_eq, Option.some.injEq]; omega)
        have hB2 := (hB2.ext (E10.trans E11)).grown E12 (by simp only [ne_eq, Option.some.injEq]; omega); have hA := (hA.ext (E10.trans E11)).grown E12 Ka; have hC := (hC.ext (E10.trans E11)).grown E12 Ka; have hB3 := hB3.grown E12 (by simp only [ne_eq, Option.some.injEq]; omega); have hG := Ze hG E12; have hs9 := E12.size; refine Gm ?_; refine ⟨trivial, ?_⟩; refine Wha [4]<|Gp rfl ?_ ?_; refine Gu rfl (Vb (a := .agg _) (b := .agg _) Jj rfl rfl) (kS _ _ _ _ Kd ((OwnedB.read hA)) ((OwnedB.read hC))) ?_; rintro _ w11 ⟨u3, q2, rfl, E13, hA1, hC1, icu3, icq2, gwu3⟩; have hr1 := hr1.ext E13; have hG := Zb hG E13; refine Gm ?_; refine ⟨trivial, ?_⟩; refine Qq 5 rfl rfl trivial<|Qp 6 rfl rfl trivial<|Qz 7 rfl rfl trivial<|Wha [9]<|Gp rfl ?_ ?_
        refine Yu Ko (hB3.ext E13) rfl (Ehr1.trans E13) ?_; rintro w12 E14 hB3 K3 hz3; have hB1 := (hB1.ext E13).of_heap (K3 _ Ka); have hB2 := (hB2.ext E13).of_heap (K3 _ Ka); have hA := (hA.ext E13).wrote K3 Ka; have hC := (hC.ext E13).wrote K3 Ka; have hA1 := hA1.wrote K3 Ka; have hC1 := hC1.wrote K3 Ka; have hr1 := hr1.wrote E14 (K3 _ Ka) hz3; have hG := Zf hG (Ehr1.trans E13) E14 K3 hz3 (by first | exact .inr rfl | omega); refine Gm ?_; refine ⟨trivial, ?_⟩; refine Qy 10 rfl rfl trivial<|Vd Kb ?_; rotate_left; exact Gv; exact Gv; exact Gv; refine Gp rfl ?_ ?_; refine Gu rfl (Vb (a := .pointer _) (b := .agg _) Jk rfl rfl) (kD _ _ Kd Ka ((hA.ext exq)) Ka) ?_; rintro _ w10 ⟨k2, t1, n1, rfl, E12, hr1, hy4⟩
        (try dsimp only at hy4); have Ehr1 := hr1.old; have hB1 := (hB1.ext (E10.trans E11)).grown E12 (by simp only [ne_eq, Option.some.injEq]; omega); have hB2 := (hB2.ext (E10.trans E11)).grown E12 (by simp only [ne_eq, Option.some.injEq]; omega); have hA := (hA.ext (E10.trans E11)).grown E12 Ka; have hC := (hC.ext (E10.trans E11)).grown E12 Ka; have hB3 := hB3.grown E12 (by simp only [ne_eq, Option.some.injEq]; omega); have hG := Ze hG E12; have hs9 := E12.size; refine Gm ?_; refine ⟨trivial, ?_⟩; refine Wha [0]<|Gp rfl ?_ ?_; refine Ye Ks Ko hB2 rfl<|Gm ?_; refine ⟨trivial, ?_⟩; refine Wha [4]<|Gp rfl ?_ ?_
        refine Gu rfl (Vb (a := .agg _) (b := .agg _) Jj rfl rfl) (kS _ _ _ _ Kd ((OwnedB.read hA)) ((OwnedB.read hC))) ?_; rintro _ w11 ⟨u3, q2, rfl, E13, hA1, hC1, icu3, icq2, gwu3⟩; have hr1 := hr1.ext E13; have hG := Zb hG E13; refine Gm ?_; refine ⟨trivial, ?_⟩; refine Qq 5 rfl rfl trivial<|Qp 6 rfl rfl trivial<|Qz 7 rfl rfl trivial<|Wha [9]<|Gp rfl ?_ ?_; refine Yu Ko (hB3.ext E13) rfl (Ehr1.trans E13) ?_; rintro w12 E14 hB3 K3 hz3; have hB1 := (hB1.ext E13).of_heap (K3 _ Ka); have hB2 := (hB2.ext E13).of_heap (K3 _ Ka); have hA := (hA.ext E13).wrote K3 Ka; have hC := (hC.ext E13).wrote K3 Ka
        have hA1 := hA1.wrote K3 Ka; have hC1 := hC1.wrote K3 Ka; have hr1 := hr1.wrote E14 (K3 _ Ka) hz3; have hG := Zf hG (Ehr1.trans E13) E14 K3 hz3 (by first | exact .inr rfl | omega); refine Gm ?_; refine ⟨trivial, ?_⟩; refine Qy 10 rfl rfl trivial<|Vd Kb ?_; rotate_left; exact Gv; exact Gv; exact Gv; exact Gv; exact Gv; refine Gp rfl ?_ ?_; refine Zq rfl Vk ?_; rintro b3 w9 hb3 E11 hB3; have hlb3 := hB3.lt; have hG := Zb hG E11; have hr := hr.ext E11; refine Gm ?_; refine ⟨trivial, ?_⟩; refine Wha [0, 2]<|Gp rfl ?_ ?_; refine Ye Ks Ko (hB2.ext exq) rfl<|Gm ?_; refine ⟨trivial, ?_⟩; refine Wha [2]<|Gp rfl ?_ ?_; refine Ye Ks Ko (hB2.ext exq) rfl ?_
        refine Gm ?_; refine ⟨trivial, ?_⟩; refine Wha [3]<|Gp rfl ?_ ?_; refine Gu rfl (Vb (a := .pointer _) (b := .agg _) Jk rfl rfl) (kD _ _ Kd Ka ((hA.ext exq)) Ka) ?_; rintro _ w10 ⟨k2, t1, n1, rfl, E12, hr1, hy4⟩; (try dsimp only at hy4); have Ehr1 := hr1.old; have hB1 := (hB1.ext (E10.trans E11)).grown E12 (by simp only [ne_eq, Option.some.injEq]; omega); have hB2 := (hB2.ext (E10.trans E11)).grown E12 (by simp only [ne_eq, Option.some.injEq]; omega); have hA := (hA.ext (E10.trans E11)).grown E12 Ka; have hC := (hC.ext (E10.trans E11)).grown E12 Ka; have hB3 := hB3.grown E12 (by simp only [ne_eq, Option.some.injEq]; omega); have hG := Ze hG E12; have hs9 := E12.size; refine Gm ?_; refine ⟨trivial, ?_⟩; refine Wha [4] ?_
        refine Gp rfl ?_ ?_; refine Gu rfl (Vb (a := .agg _) (b := .agg _) Jj rfl rfl) (kS _ _ _ _ Kd ((OwnedB.read hA)) ((OwnedB.read hC))) ?_; rintro _ w11 ⟨u3, q2, rfl, E13, hA1, hC1, icu3, icq2, gwu3⟩; have hr1 := hr1.ext E13; have hG := Zb hG E13; refine Gm ?_; refine ⟨trivial, ?_⟩; refine Qq 5 rfl rfl trivial<|Qp 6 rfl rfl trivial<|Qz 7 rfl rfl trivial<|Wha [9]<|Gp rfl ?_ ?_; refine Yu Ko (hB3.ext E13) rfl (Ehr1.trans E13) ?_; rintro w12 E14 hB3 K3 hz3; have hB1 := (hB1.ext E13).of_heap (K3 _ Ka); have hB2 := (hB2.ext E13).of_heap (K3 _ Ka); have hA := (hA.ext E13).wrote K3 Ka; have hC := (hC.ext E13).wrote K3 Ka; have hA1 := hA1.wrote K3 Ka; have hC1 := hC1.wrote K3 Ka
        have hr1 := hr1.wrote E14 (K3 _ Ka) hz3; have hG := Zf hG (Ehr1.trans E13) E14 K3 hz3 (by first | exact .inr rfl | omega); refine Gm ?_; refine ⟨trivial, ?_⟩; refine Qy 10 rfl rfl trivial<|Vd Kb ?_; rotate_left; exact Gv; exact Gv; exact Gv; exact Gv; refine Gp rfl ?_ ?_; refine Ye Ks Ko (hB2.ext exq) rfl<|Gm ?_; refine ⟨trivial, ?_⟩; refine Wha [0, 3]<|Gp rfl ?_ ?_; refine Ye Ks Ko (hB2.ext exq) rfl<|Gm ?_; refine ⟨trivial, ?_⟩; refine Wha [3]<|Gp rfl ?_ ?_; refine Gu rfl (Vb (a := .pointer _) (b := .agg _) Jk rfl rfl) (kD _ _ Kd Ka ((hA.ext exq)) Ka) ?_; rintro _ w10 ⟨k2, t1, n1, rfl, E12, hr1, hy4⟩
        (try dsimp only at hy4); have Ehr1 := hr1.old; have hB1 := (hB1.ext (E10.trans E11)).grown E12 (by simp only [ne_eq, Option.some.injEq]; omega); have hB2 := (hB2.ext (E10.trans E11)).grown E12 (by simp only [ne_eq, Option.some.injEq]; omega); have hA := (hA.ext (E10.trans E11)).grown E12 Ka; have hC := (hC.ext (E10.trans E11)).grown E12 Ka; have hB3 := hB3.grown E12 (by simp only [ne_eq, Option.some.injEq]; omega); have hG := Ze hG E12; have hs9 := E12.size; refine Gm ?_; refine ⟨trivial, ?_⟩; refine Wha [4]<|Gp rfl ?_ ?_; refine Gu rfl (Vb (a := .agg _) (b := .agg _) Jj rfl rfl) (kS _ _ _ _ Kd ((OwnedB.read hA)) ((OwnedB.read hC))) ?_; rintro _ w11 ⟨u3, q2, rfl, E13, hA1, hC1, icu3, icq2, gwu3⟩; have hr1 := hr1.ext E13; have hG := Zb hG E13; refine Gm ?_; refine ⟨trivial, ?_⟩
        refine Qq 5 rfl rfl trivial<|Qp 6 rfl rfl trivial<|Qz 7 rfl rfl trivial<|Wha [9]<|Gp rfl ?_ ?_; refine Yu Ko (hB3.ext E13) rfl (Ehr1.trans E13) ?_; rintro w12 E14 hB3 K3 hz3; have hB1 := (hB1.ext E13).of_heap (K3 _ Ka); have hB2 := (hB2.ext E13).of_heap (K3 _ Ka); have hA := (hA.ext E13).wrote K3 Ka; have hC := (hC.ext E13).wrote K3 Ka; have hA1 := hA1.wrote K3 Ka; have hC1 := hC1.wrote K3 Ka; have hr1 := hr1.wrote E14 (K3 _ Ka) hz3; have hG := Zf hG (Ehr1.trans E13) E14 K3 hz3 (by first | exact .inr rfl | omega); refine Gm ?_; refine ⟨trivial, ?_⟩; refine Qy 10 rfl rfl trivial<|Vd Kb ?_; rotate_left; exact Gv; exact Gv; exact Gv
        refine Gp rfl ?_ ?_; refine Gu rfl (Vb (a := .pointer _) (b := .agg _) Jk rfl rfl) (kD _ _ Kd Ka ((hA.ext exq)) Ka) ?_; rintro _ w10 ⟨k2, t1, n1, rfl, E12, hr1, hy4⟩; (try dsimp only at hy4); have Ehr1 := hr1.old; have hB1 := (hB1.ext (E10.trans E11)).grown E12 (by simp only [ne_eq, Option.some.injEq]; omega); have hB2 := (hB2.ext (E10.trans E11)).grown E12 (by simp only [ne_eq, Option.some.injEq]; omega); have hA := (hA.ext (E10.trans E11)).grown E12 Ka; have hC := (hC.ext (E10.trans E11)).grown E12 Ka; have hB3 := hB3.grown E12 (by simp only [ne_eq, Option.some.injEq]; omega); have hG := Ze hG E12; have hs9 := E12.size; refine Gm ?_; refine ⟨trivial, ?_⟩; refine Wha [0] ?_
        refine Gp rfl ?_ ?_; refine Ye Ks Ko hB2 rfl<|Gm ?_; refine ⟨trivial, ?_⟩; refine Wha [4]<|Gp rfl ?_ ?_; refine Gu rfl (Vb (a := .agg _) (b := .agg _) Jj rfl rfl) (kS _ _ _ _ Kd ((OwnedB.read hA)) ((OwnedB.read hC))) ?_; rintro _ w11 ⟨u3, q2, rfl, E13, hA1, hC1, icu3, icq2, gwu3⟩; have hr1 := hr1.ext E13; have hG := Zb hG E13; refine Gm ?_; refine ⟨trivial, ?_⟩; refine Qq 5 rfl rfl trivial<|Qp 6 rfl rfl trivial<|Qz 7 rfl rfl trivial<|Wha [9]<|Gp rfl ?_ ?_; refine Yu Ko (hB3.ext E13) rfl (Ehr1.trans E13) ?_; rintro w12 E14 hB3 K3 hz3; have hB1 := (hB1.ext E13).of_heap (K3 _ Ka); have hB2 := (hB2.ext E13).of_heap (K3 _ Ka); have hA := (hA.ext E13).wrote K3 Ka; have hC := (hC.ext E13).wrote K3 Ka
        have hA1 := hA1.wrote K3 Ka; have hC1 := hC1.wrote K3 Ka; have hr1 := hr1.wrote E14 (K3 _ Ka) hz3; have hG := Zf hG (Ehr1.trans E13) E14 K3 hz3 (by first | exact .inr rfl | omega); refine Gm ?_; refine ⟨trivial, ?_⟩; refine Qy 10 rfl rfl trivial<|Vd Kb ?_; rotate_left; exact Gv; exact Gv; exact Gv; exact Gv; exact Gv; exact Gv
      all_goals exact ⟨(b3, u3, q2, ⟨if DkOk d then (doV d ⟨k2, t1, n1⟩).1.now else [], if DkOk d then (doV d ⟨k2, t1, n1⟩).1.past else []⟩, _, _, _), ⟨rfl, rfl, trivial⟩, Kh, hG, hr1, Ka, hB1, hB2, hB3, Ka, Ka, hA, hC, Ka, Ka, Ka, Ka, hA1, hC1, icu3, icq2, hd.do _⟩
    clear hr hG hA hC hB1 hB2 kD kS
    rintro ⟨b9, x1', x2', d', lo', hi', ok⟩ ρ8 w8 ⟨hG, hr, hs8, hB1, hB2, hB9, hlw8, hhw8, hA, hC, hbl', hlw', hhw', hb2', hA', hC', ic1', ic2', hd'⟩
    have E8' := hr.old
    cases ok
    · focus
        refine Gs<|Vq rfl<|Gm<|Za rfl ?_; refine Gx<|Zl<|Gz rfl<|Qk rfl<|Zr rfl<|Gm ?_
      refine ⟨(k - 1, v1, v2, d, lo, hi), ⟨congrArg (Value.int .i64) (show (k : Int) - 1 = ((k - 1 : Nat) : Int) by omega), trivial⟩, Kh, ?_, Kj⟩
      exact ⟨hG, by first | exact hr1.le Ka | exact hr.le Ka, Ka, Ka, hB1, hB2, hbl, Ka, Ka, hb2, hA, hC, ic1, ic2, hd⟩
    · focus
        refine Gs<|Vq rfl<|Gm<|Vj rfl ?_; refine Zl<|Ye Ks Ko hB9 rfl<|Yu Ko hB2 rfl E8' ?_; rintro w9 E10 hB2 K2 hz2; have hG := Zf hG E8' E10 K2 hz2 (by first | exact .inr rfl | omega); have hr := hr.wrote E10 (K2 _ Ka) hz2; have hB1 := hB1.of_heap (K2 _ Ka); have hA' := hA'.wrote K2 Ka; have hC' := hC'.wrote K2 Ka; refine Gm<|Zl<|Gz rfl<|Qk rfl<|Zr rfl<|Gm ?_
      refine ⟨(k - 1, x1', x2', d', lo', hi'), ⟨congrArg (Value.int .i64) (show (k : Int) - 1 = ((k - 1 : Nat) : Int) by omega), trivial⟩, Kh, ?_, Kj⟩
      exact ⟨hG, by first | exact hr1.le Ka | exact hr.le Ka, Ka, Ka, hB1, hB2, hbl', Ka, Ka, .inr hb2', hA', hC', ic1', ic2', hd'⟩
  · focus
      refine Gt<|Gs<|Gz rfl<|Yt rfl<|Gm<|Gq rfl (fun h1 => ?_) (fun h1 => ?_); (exfalso; omega); refine Ve ?_; refine Zi ?_; refine Gt<|Gs<|Xx rfl<|Gz rfl<|Gu rfl (Vb (a := .pointer _) (b := .int _ _) Tryz.call76 rfl rfl) (odd0_ok _ _) ?_; rintro _ w8 ⟨rfl, E10⟩; have hG := Zb hG E10; have hr := hr.ext E10; have hs7 := E10.size; refine Gm<|Za rfl ?_; refine Gx<|Gs<|Ye Ks Ko (hB2.ext E10) rfl<|Yu Ko (hB1.ext E10) rfl (E7.trans E10) ?_; rintro w9 E11 hB1 K2 hz2; have hA := (hA.ext E10).wrote K2 Ka; have hC := (hC.ext E10).wrote K2 Ka; have hG := Zf hG (E7.trans E10) E11 K2 hz2 (by first | exact .inr rfl | omega); have hr := hr.wrote E11 (K2 _ Ka) hz2; refine Gm<|Zd ?_
    exact ⟨b1, v1, v2, rfl, hB1, v1, v2, _, _, rfl, hG, hr.le Ka, hA.above.mono Ka, hC.above.mono Ka, ic1, ic2, Ka, hd⟩
end Go.Proofs.YtbgpppaljpngmaaGreatDoor
namespace Go.Proofs.YtbgpppaljpngmaaGreatDoor
open Go.Hs
set_option maxRecDepth 10000
set_option maxHeartbeats 4000000
set_option linter.unusedVariables false
set_option linter.unusedSimpArgs false
theorem Spoil_ok {w0 : World} (w : World) {br m : Nat} (s : List UInt8) (hr : Rdr w0 w br m) (hm : m ≤ 1000000) (hs : s.length ≤ 1000000) :
    Does Tryz.prog 101 [.pointer (some ⟨br, 0, none⟩), str s] w (RetDSt w0 w br (m + 2) (fun t => t.length ≤ s.length + 8)) := by
  refine Zy Tryz.func101 rfl Tryz.results101 Tryz.ntmps101 rfl ?_
  have hG : w.grownBy w (some br) := Xy _ _
  focus
    refine Gs<|Yo rfl<|Gm<|Gt<|Gs<|Yd rfl<|Wo rfl (Yh Je rfl)<|Zs rfl<|Gm<|Gq rfl (fun h1 => ?_) (fun h1 => ?_); refine Gt<|Zl<|Yo rfl<|Gm<|Zd ?_; refine Zk (v := .string _) rfl ?_; rotate_left; refine Gx<|Gs<|Xx rfl<|Yd rfl<|Wo rfl (Yh Je rfl)<|Gu rfl (Vb (a := .pointer _) (b := .int _ _) Jc rfl rfl) (Vu _ _ Kd Ka) ?_; rintro _ w1 ⟨y1, rfl, E1, hr1, hy1⟩; (try dsimp only at hy1); have hlhr1 := hr1.lt; have hG := Ze hG E1; refine Zr rfl<|Gm<|Gt<|Qb (fun _ => True) Yn rfl Kb ?_; intro w2 E2 K1 hz1; have hr1 := hr1.ext E2; have hG := Zb hG E2; refine WtmT 0 rfl rfl trivial<|WtmI 1 rfl rfl trivial ?_
    refine Zj 2 rfl Kb Kb rfl (fun _ _ => Xw Je rfl rfl Ka) trivial ?_; refine WtmP 4 rfl rfl trivial<|WtmT 9 rfl rfl trivial<|WtmI 10 rfl rfl trivial<|Zj 11 rfl Kb Kb rfl (fun _ _ => Yk rfl rfl Ka) trivial ?_; refine Zj 12 rfl Kb Kb rfl (fun _ _ => Uu Je rfl rfl (by simp <;> omega)) trivial ?_; refine Wha [3, 5]<|Gp rfl ?_ ?_; refine Yc (ps := [(0, .string _), (1, .string _), (2, .string _), (3, .string _), (4, .string _), (5, .string _)]) (cs := [_, _, _, _, _, _]) rfl Jh Ku Jz rfl rfl rfl rfl ?_; rintro b1 w3 hb1 E3 hB1; have hr1 := hr1.ext E3; have hG := Zb hG E3; refine Gm ?_; refine ⟨trivial, ?_⟩; refine Wha [5] ?_
    refine Gp rfl ?_ ?_; refine Gu rfl (Vb (a := .pointer _) (b := .int _ _) Jc rfl rfl) (Vu _ _ Kd Ka) ?_; rintro _ w4 ⟨y2, rfl, E4, hr2, hy2⟩; (try dsimp only at hy2); have hB1 := hB1.grown E4 (by simp only [ne_eq, Option.some.injEq]; omega); have hG := Ze hG E4; refine Gm ?_; refine ⟨trivial, ?_⟩; refine Zj 6 rfl Kb Kb rfl (fun _ _ => Zu Jh Ku rfl rfl Ka) trivial ?_; refine Wha [7]<|Gp rfl ?_ ?_; refine Wo_tbl 0 Kx rfl rfl hB1 (by repeat (first | exact trivial | refine And.intro ⟨_, rfl, Kc⟩ ?_)) (by simp only [List.length_cons, List.length_nil]; omega) ?_; intro s1 hs1; refine Gm ?_; refine ⟨trivial, ?_⟩; refine Zj 8 rfl Kb Kb rfl (fun _ _ => Yq rfl rfl (by simp <;> omega)) trivial ?_
    refine Zj 13 rfl Kb Kb rfl (fun _ _ => Yq rfl rfl (by simp <;> omega)) trivial ?_; refine WtaT 14 rfl rfl trivial<|Vd Kb ?_; refine Zd ?_; refine Zk (v := .string _) rfl ?_; rotate_left; exact Gv; exact Gv; refine Gp rfl ?_ ?_; refine Gu rfl (Vb (a := .pointer _) (b := .int _ _) Jc rfl rfl) (Vu _ _ Kd Ka) ?_; rintro _ w3 ⟨y2, rfl, E3, hr2, hy2⟩; (try dsimp only at hy2); have hG := Ze hG E3; refine Gm ?_; refine ⟨trivial, ?_⟩; refine Wha [3]<|Gp rfl ?_ ?_; refine Yc (ps := [(0, .string _), (1, .string _), (2, .string _), (3, .string _), (4, .string _), (5, .string _)]) (cs := [_, _, _, _, _, _]) rfl Jh Ku Jz rfl rfl rfl rfl ?_
    rintro b1 w4 hb1 E4 hB1; have hr2 := hr2.ext E4; have hG := Zb hG E4; refine Gm ?_; refine ⟨trivial, ?_⟩; refine Zj 6 rfl Kb Kb rfl (fun _ _ => Zu Jh Ku rfl rfl Ka) trivial ?_; refine Wha [7]<|Gp rfl ?_ ?_; refine Wo_tbl 0 Kx rfl rfl hB1 (by repeat (first | exact trivial | refine And.intro ⟨_, rfl, Kc⟩ ?_)) (by simp only [List.length_cons, List.length_nil]; omega) ?_; intro s1 hs1; refine Gm ?_; refine ⟨trivial, ?_⟩; refine Zj 8 rfl Kb Kb rfl (fun _ _ => Yq rfl rfl (by simp <;> omega)) trivial ?_; refine Zj 13 rfl Kb Kb rfl (fun _ _ => Yq rfl rfl (by simp <;> omega)) trivial ?_
    refine WtaT 14 rfl rfl trivial<|Vd Kb ?_; refine Zd ?_; refine Zk (v := .string _) rfl ?_; rotate_left; exact Gv; exact Gv; exact Gv
  · exact ⟨[10], rfl, hG, hr.le Ka, Ki⟩
  all_goals
    have hyy := hy1 Ka
    exact ⟨_, rfl, hG, by first | exact hr3.le Ka | exact hr2.le Ka | exact hr1.le Ka, by simp only [List.length_append, List.length_take, List.length_drop]; omega⟩
end Go.Proofs.YtbgpppaljpngmaaGreatDoor
namespace Go.Proofs.YtbgpppaljpngmaaGreatDoor
open Go.Hs
set_option maxRecDepth 10000
set_option maxHeartbeats 4000000
set_option linter.unusedVariables false
set_option linter.unusedSimpArgs false
theorem Written_ok {w0 : World} (w : World) {br m : Nat} (hr : Rdr w0 w br m) (hm : m ≤ 1000) : Does Tryz.prog 100 [.pointer (some ⟨br, 0, none⟩)] w (RetDDs w0 w br (m + 200) 48 (fun l => l.length ≤ 5 ∧ ∀ a ∈ l, DrP a ∧ dtV a ≠ [])) := by
  refine Zy Tryz.func100 rfl Tryz.results100 Tryz.ntmps100 rfl ?_
  have hG : w.grownBy w (some br) := Xy _ _
  have hlr := hr.lt
  have hgr := hr.ge
  have stop2 : True := trivial
  focus
    refine Gs<|Vr rfl<|Gm<|Gs<|Th  rfl Xs   ?_; rintro b1 w1 hb1 E1 hO1; have hr := hr.ext E1; have hG := Zb hG E1; refine Vr rfl<|Gm<|Gt ?_
  clear stop2
  have hQ1 := hO1.ox
  have hbl := (hO1.lt (k := b1) rfl).2
  clear hO1
  focus
    refine Zl<|Xx rfl<|Xx rfl<|Gu rfl (Vb (a := .pointer _) (b := .int _ _) Tryz.call56 rfl rfl) (Desk0_ok _ Kd Ka) ?_; rintro _ w2 ⟨u1, q1, x1, y1, rfl, E2, hr1, hA1, hC1, icu1, icq1, gwu1, hy1⟩; (try dsimp only at hy1); have hG := Ze hG E2; have hQ1 := hQ1.grown E2 Ka
  have kD := Deeds_ok w2 u1 q1 x1 hr1 Ka hA1 Ka gwu1 icq1 hy1.now
  focus
    refine Gu rfl (Vb (a := .pointer _) (b := .agg _) Tryz.call97 rfl rfl) (kD) ?_; rintro u2 w3 ⟨l1, E3, hr2, hQ2, hy2⟩; (try dsimp only at hy2); have hG := Ze hG E3; have hQ1 := hQ1.grown E3 Ka; have hs3 := E3.size; refine Vn u2 rfl<|Gm<|Gt<|Gs<|Zr rfl<|Gm<|Gy ?_
  refine Vf [3, 5, 11, 12, 13, 14, 15, 16, 17, 18, 19, 20, 21, 22, 23, 24, 25, 26, 27, 28, 29] (fun ((k, v, L) : Nat × Value × List Deed) => [(5, .int .i64 (k : Nat)), (3, v)]) (fun (k, v, L) w' => w.grownBy w' (some br) ∧ Rdr w0 w' br (m + 190) ∧ k ≤ l1.length ∧ w3.heap.size ≤ w'.heap.size ∧ OwnedB w2.heap.size w3.heap.size (XD 48) w' u2 l1 ∧ OwnedB w.heap.size w'.heap.size (XD 48) w' v L ∧ (∀ q, v.ownBlock = some q → q < w2.heap.size ∨ w3.heap.size ≤ q) ∧ L.length ≤ k ∧ ∀ a ∈ L, DrP a ∧ dtV a ≠ []) (fun x => l1.length - x.1) (0, _, []) Kg ?_ ?_
  · exact ⟨hG, hr2.le Ka, Ka, Ka, hQ2, hQ1.wide (Nat.le_refl _) Ka, fun q hq => by simp [Value.ownBlock] at hq; omega, Ki, fun a h => by cases h⟩
  clear hr hr1 hr2 hG hQ1 hQ2
  rintro ⟨k, v, L⟩ ρj w4 ⟨hG, hr, hk, hsz, hQ1, hQ2, hv, hL, hP⟩
  have hR := hQ1.od.read
  have kT := fun (w : World) (k n : Int) (t : List UInt8) (h : DrP ⟨k, t, n⟩) => Rn w k n t (by have := h.2.2.1; simp only at this; omega)
  by_cases hkl : k < l1.length
  · have hd := hy2.2 _ (List.getElem_mem hkl)
    focus
      refine Gt<|Gs<|Gz rfl<|Zh u2 rfl<|Wo rfl (Xh Ji rfl hR)<|Zo rfl<|Gm<|Gq rfl (fun h1 => ?_) (fun h1 => ?_); refine Gx<|Gt<|Gy<|Gs<|Zh u2 rfl<|Gz rfl<|Sc Ji Kr Jb Kr rfl (fun _ => rfl) rfl hR (Ext.refl _) rfl Kf ?_; rintro _; refine Gu rfl (Vh (a := .agg _) Tryz.call108 rfl) (kT _ _ _ _ Kd) ?_; rintro _ w5 ⟨rfl, E5⟩; have hG := Zb hG E5; have hr := hr.ext E5; have hs4 := E5.size; refine Wo rfl (Vy rfl rfl)<|Gm<|Zx rfl (fun h2 => ?_) (fun h2 => ?_); refine Zl<|Zh v rfl<|Zh u2 rfl<|Gz rfl ?_
      refine Sc Ji Kr Jb Kr rfl (fun _ => rfl) rfl hR E5 rfl Kf ?_; rintro _; rotate_left; refine Gx<|Zl<|Gz rfl<|Va rfl<|Zr rfl<|Gm ?_; rotate_left; (exfalso; omega)
    · have hx : ∀ k t n, DrP ⟨k, t, n⟩ → t.length ≤ 9223372036854775807 := fun k t n h => by have := h.2.2.1; simp only at this; omega
      refine Tn (a1 := ⟨_, _, _⟩) rfl Xs rfl (hx _ _ _ hd) ?_
      rintro b2 w6 hb2 E6 hO2
      have E45 : Ext w4 w5 := Kd
      have hQ1 := hQ1.ext (E45.trans E6)
      have hQ2 := hQ2.ext (E45.trans E6)
      have hr2 := hr.ext E6
      have hG := Zb hG E6
      have hs6 := hG.size
      have hs7 := E6.size
      refine Wo_appY (v := v) (m := [l1[k]]) rfl Xs rfl rfl hQ2 hO2 (show L.length + 1 ≤ 1099511627776 by omega) Ka ?_
      rintro q v' w7 hq1 hq2 hv' hg hQ7
      have hs8 := hg.size
      have hqq : q < w2.heap.size ∨ w3.heap.size ≤ q := hq2.elim (hv q) fun h => .inr Ka
      have hr3 := hr2.beside hg Ka Ka
      have hG := Sp hG hg Ka
      have hQ1 := hQ1.grown hg Ka
      focus
        refine Vn v' rfl<|Gm<|Zl<|Gz rfl<|Va rfl<|Zr rfl<|Gm ?_
      refine ⟨((k + 1, v', L ++ [l1[k]])), Kg, Kh, ?_, ?_⟩
      · refine ⟨hG, hr3, Ka, Ka, hQ1, hQ7, fun q' hq' => ?_, by simp; omega, fun a ha => (List.mem_append.1 ha).elim (hP a) (fun h => by rw [List.mem_singleton.1 h]; exact ⟨hd, by first | assumption | (simp_all; done)⟩)⟩
        rcases hv' with hv' | ⟨g, hv', hg'⟩
        · exact hv q' (by rw [← hv']; exact hq')
        · rw [hv'] at hq'; cases hq'; omega
      · simp only; omega
    · refine ⟨((k + 1, v, L)), Kg, Kh, ?_, ?_⟩
      · have E5 : Ext w4 w5 := by assumption
        have hs5 := E5.size
        exact ⟨hG, hr, Ka, Ka, hQ1.ext E5, (hQ2.ext E5).wide (Nat.le_refl _) Ka, hv, Ka, hP⟩
      · simp only; omega
  · focus
      refine Gt<|Gs<|Gz rfl<|Zh u2 rfl<|Wo rfl (Xh Ji rfl hR)<|Zo rfl<|Gm<|Gq rfl (fun h1 => ?_) (fun h1 => ?_); (exfalso; omega); refine Ve ?_; refine Zi ?_; refine Gs<|Zh v rfl<|Vn v rfl<|Gm<|Zd ?_; refine Zk (v := v) rfl ?_
    exact ⟨L, hG, hr.le Ka, hQ2, Ka, hP⟩
end Go.Proofs.YtbgpppaljpngmaaGreatDoor
namespace Go.Proofs.YtbgpppaljpngmaaGreatDoor
open Go.Hs
set_option maxRecDepth 10000
set_option maxHeartbeats 4000000
set_option linter.unusedVariables false
set_option linter.unusedSimpArgs false
theorem jtV_len (l : List Deed) : (jtV l).length ≤ 211 * l.length := by
  have key : (l.flatMap fun a => dtV a ++ [10]).length ≤ 211 * l.length := by
    induction l with
    | nil => simp
    | cons a l ih =>
      have := dtV_len a
      rw [List.flatMap_cons]
      simp only [List.length_append, List.length_cons, List.length_nil] at ih ⊢
      omega
  unfold jtV
  split
  · exact key
  · simp
theorem OD.dform {e : TypeId} {lo : Nat} {w : World} {v : Value} {l : List Deed} (h : OD e lo w v l) : ∃ a c, v = .slice a l.length c ∧ l.length ≤ c := by
  rcases h.1.2 with ⟨rfl, h0⟩ | ⟨g, cap, cur, rfl, hb, hg, hc, _⟩
  · exact ⟨none, 0, by rw [h0], Ka⟩
  · exact ⟨_, cap, rfl, hc⟩
theorem DrawReadJournal_ok (w : World) (v : Value) (xs : List UInt8) (h : Bytes w v xs) (hc : CapOk v) : Does Tryz.prog 49 [v] w (RetX w str (fun s _ => s.length ≤ 2000)) := by
  refine Zy Tryz.func49 rfl Tryz.results49 Tryz.ntmps49 rfl ?_
  focus
    refine Gs<|Yo rfl<|Gm<|Gs<|Zh v rfl<|Gu rfl (Vh (a := v) Tryz.call55 rfl) (open_ok _ _ _ (h) Kd) ?_; rintro _ w1 ⟨E1, y1, rfl, hy1⟩; refine WsaP rfl<|Gm<|Gs<|Xx rfl<|Gu rfl (Vh (a := .pointer _) Tryz.call100 rfl) (Written_ok _ Kd Ka) ?_; rintro u1 w2 ⟨l1, E2, hr1, hQ1, hy2⟩; (try dsimp only at hy2)
  have hR := hQ1.od.read
  have kJ : ∀ w, ESD w u1 l1 → Does Tryz.prog 99 [u1] w (Ret w (str (jtV l1))) := fun w h => spec_JournalText_ok w u1 l1 h Ka (fun a ha => Nat.le_trans (hy2.2 a ha).1.2.2.1 Kc)
  have hjl := jtV_len l1
  focus
    refine Gu rfl (Vh (a := u1) Tryz.call99 rfl) (kJ _ (hR)) ?_; rintro _ w3 ⟨rfl, E3⟩; have hr1 := hr1.ext E3; refine Yo rfl<|Gm<|Gt<|Gs<|Xx rfl ?_
  generalize jtV l1 = s at *
  focus
    refine Gu rfl (Vb (a := .pointer _) (b := .int _ _) Jc rfl rfl) (Vu _ _ Kd Ka) ?_; rintro _ w4 ⟨y2, rfl, E4, hr2, hy3⟩; (try dsimp only at hy3); have Ehr2 := hr2.old; refine Gm<|Gy<|Gs<|Zs rfl<|Zc rfl<|Gm<|Gq rfl (fun h1 => ?_) (fun h1 => ?_); refine Gs<|Xx rfl<|Yd rfl<|Gu rfl (Vb (a := .pointer _) (b := .string _) Tryz.call101 rfl rfl) (Spoil_ok _ _ Kd Ka Ka) ?_; rintro _ w5 ⟨t1, rfl, E5, hr3, hy4⟩; (try dsimp only at hy4); have Ehr3 := hr3.old; refine Yo rfl<|Gm<|Zd ?_; refine Zk (v := .string _) rfl ?_; refine ⟨Ehr3, _, rfl, ?_⟩; (try dsimp only); rotate_left; refine Gs<|Zs rfl<|Zc rfl<|Gm<|Gq rfl (fun h2 => ?_) (fun h2 => ?_); refine Gs<|Yd rfl<|Xx rfl<|Yd rfl ?_
    refine Wo rfl (Yh Je rfl)<|Va rfl<|Gu rfl (Vb (a := .pointer _) (b := .int _ _) Jc rfl rfl) (Vu _ _ Kd Ka) ?_; rintro _ w5 ⟨y3, rfl, E5, hr3, hy4⟩; (try dsimp only at hy4); have Ehr3 := hr3.old; refine Wo rfl (Xw Je rfl rfl Ka) ?_; refine Yo rfl<|Gm<|Zd ?_; refine Zk (v := .string _) rfl ?_; refine ⟨Ehr3, _, rfl, ?_⟩; (try dsimp only); rotate_left; refine Gx<|Gs<|Yd rfl<|Yo rfl<|Gm<|Zd ?_; refine Zk (v := .string _) rfl ?_; refine ⟨Ehr2, _, rfl, ?_⟩; (try dsimp only); rotate_left
  all_goals first | omega | (rw [List.length_take]; omega)
open Classical in
theorem FnReadJournal_walk (w : World) (hM : EMx gMx w (.bool true) ()) (v : Value) (xs : List UInt8) (h : Bytes w v xs) (hc : CapOk v) (v' : Value) (xs' : List UInt8) (h' : Bytes w v' xs') (hc' : CapOk v') : Does Tryz.prog 10 [v, v'] w (Ret w (.bool true)) := by
  refine Zy Tryz.func10 rfl Tryz.results10 Tryz.ntmps10 rfl ?_
  have stop4 : True := trivial
  focus
    refine Gs<|Zc rfl<|Gm<|Gt<|Gs<|Zh v rfl<|Zm Jl rfl h<|Yt rfl<|Zp rfl (fun h1 => ?_) (fun h1 => ?_); refine Gn rfl<|Gn rfl<|Gn rfl<|Vw rfl<|Gm<|Vj rfl ?_; refine Gs<|Zc rfl<|Gm<|Zd ?_; exact ⟨rfl, (Ext.refl _)⟩; refine Zh v' rfl<|Zm Jl rfl h'<|Yt rfl<|Vc rfl<|Gm<|Gq rfl (fun h2 => ?_) (fun h2 => ?_); refine Gs<|Zc rfl<|Gm<|Zd ?_; exact ⟨rfl, (Ext.refl _)⟩; refine Gx<|Gs<|Zh v rfl<|Gu rfl (Vh (a := v) Tryz.call49 rfl) (DrawReadJournal_ok _ _ _ (h) Kd) ?_; rintro _ w1 ⟨E1, y1, rfl, hy1⟩; refine Yo rfl<|Gm<|Gt ?_
  clear stop4
  obtain ⟨L, hL⟩ : ∃ L, L = (rjV y1).1 := ⟨_, rfl⟩
  obtain ⟨N, hN⟩ : ∃ N, N = (rjV y1).2 := ⟨_, rfl⟩
  have hLl : L.length ≤ y1.length := by rw [hL]; exact rjV_many y1
  have hNl : N ≤ y1.length := by rw [hN]; exact (rjV_ok _ y1 (Nat.le_refl _)).2.1
  have hjt : jtV L = y1.take N := by rw [hL, hN]; exact jtV_rjV y1
  have hLd : ∀ a ∈ L, dtV a ≠ [] := by rw [hL]; exact (rjV_ok _ y1 (Nat.le_refl _)).1
  have hpre : ∀ k, k ≤ y1.length → (rjV (y1.take k)).1 <+: L ∧ (rjV (y1.take k)).2 ≤ k := fun k hk => by rw [hL]; exact rjV_take _ y1 k (Nat.le_refl _) hk
  have hLt : ∀ a ∈ L, a.text.length ≤ 1048576 := fun a ha => by
    have ht := told_of (hLd a ha)
    cases ht with
    | single => exact Nat.zero_le _
    | back => exact Nat.zero_le _
    | into d h => exact Nat.zero_le _
    | add p h => exact Nat.le_trans (Tq h.gr) Kc
    | drop p h => exact Nat.le_trans (Tq h.gr) Kc
  have k1 : ∀ (w : World), EMx gMx w (.bool true) () → Does Tryz.prog 50 [str y1] w (RetODZ w 48 L (N : Nat)) := fun w hM => by rw [hL, hN]; exact Sa w y1 hM Ka
  have k2 : ∀ (w : World), Does Tryz.prog 51 [str y1] w (RetODZ w 48 L (N : Nat)) := fun w => by rw [hL, hN]; exact spec_ReadJournal_ok w y1 Ka
  have k3 : ∀ (w : World), EMx gMx w (.bool true) () → ∀ k, k ≤ y1.length → Does Tryz.prog 50 [str (y1.take k)] w (RetODZ w 48 (rjV (y1.take k)).1 ((rjV (y1.take k)).2 : Nat)) := fun w hM k hk => Sa w _ hM (by rw [List.length_take]; omega)
  have kS : ∀ (w : World) (v u : Value) (l : List Deed), ESD w v l → ESD w u l → Does Tryz.prog 52 [v, u] w (Ret w (.bool true)) := fun w v u l h h' => by
    have := sameDeeds_ok w v u _ _ h h'
    rwa [decide_eq_true rfl] at this
  clear hL hN
  focus
    have szE1 := E1.size; refine Zl<|Yd rfl<|Gu rfl (Vh (a := .string _) Tryz.call50 rfl) (k1 _ ((Mono.mono E1 hM))) ?_; rintro _ w2 ⟨u1, rfl, E2, hO1⟩; refine Xf rfl<|Xo u1 rfl<|WsxI rfl<|Vn u1 rfl<|Zr rfl<|Gm<|Gs<|Yd rfl<|Gu rfl (Vh (a := .string _) Tryz.call51 rfl) (k2 _) ?_; rintro _ w3 ⟨u2, rfl, E3, hO2⟩; refine Xf rfl<|Xo u2 rfl<|WsxI rfl<|Vn u2 rfl<|Zr rfl<|Gm<|Gt<|Gs<|Zh u1 rfl<|Zh u2 rfl<|Gu rfl (Vb (a := u1) (b := u2) Tryz.call52 rfl rfl) (kS _ _ _ _ ((Mono.mono E3 (OD.read hO1))) ((OD.read hO2))) ?_; rintro _ w4 ⟨rfl, E4⟩; refine Vt rfl<|Vx rfl (Zt (v := .bool _) rfl) (fun h3 => ?_) (fun h3 => ?_); contradiction; refine Gz rfl<|Gz rfl ?_
    refine Uc rfl<|Vc rfl<|Gm<|Zx rfl (fun h4 => ?_) (fun h4 => ?_); contradiction; refine Gx<|Gt<|Gt<|Zl<|Zr rfl<|Gm<|Gy ?_
  focus
    have hO1 := Mono.mono (E3.trans E4) hO1; have Ew1 := (((E1.trans E2).trans E3).trans E4); clear E1; clear szE1; clear E2; clear E3; clear E4
  have hp0 := hO1.dform
  obtain ⟨la, lc, hlv, hlc⟩ := hp0
  subst hlv
  have hRL := hO1.read
  refine Vf [4, 10, 11, 12, 50, 51, 52, 53, 54, 55, 56, 57, 58, 59, 60, 61, 62, 63, 64, 65, 66, 67, 68, 69, 70, 71, 72, 73, 74, 75, 76, 77, 78, 79, 80, 81, 82, 83, 84] (fun (k : Nat) => [(10, .int .i64 (k : Nat))]) (fun k w' => Ext w4 w' ∧ k ≤ y1.length + 1) (fun x => y1.length + 1 - x) 0 Kg ?_ ?_
  · exact ⟨Ext.refl _, Ka⟩
  · rintro k ρj w5 ⟨E5, hk⟩
    by_cases hkl : k ≤ y1.length
    · obtain ⟨hp1, hp2⟩ := hpre k hkl
      have k3k : ∀ (w : World), EMx gMx w (.bool true) () → Does Tryz.prog 50 [str (y1.take k)] w (RetODZ w 48 (rjV (y1.take k)).1 ((rjV (y1.take k)).2 : Nat)) := fun w hM => k3 w hM k hkl
      generalize (rjV (y1.take k)).1 = X at *
      generalize (rjV (y1.take k)).2 = M at *
      have hXL : L.take X.length = X := (List.prefix_iff_eq_take.1 hp1).symm
      have hXl : X.length ≤ L.length := hp1.length_le
      have kSk : ∀ (w : World) (u : Value), ESD w u X → ESD w (.slice la L.length lc) L → Does Tryz.prog 52 [u, .slice (partA la lc 0) (min (X.length : Int) (L.length : Int)).toNat lc] w (Ret w (.bool true)) := fun w u h h' => by
        have h'' := h'.take (c' := lc) hXl
        rw [hXL] at h''
        rw [show (min (X.length : Int) (L.length : Int)).toNat = X.length by omega]
        exact kS w _ _ X h h''
      focus
        refine Gt<|Gs<|Gz rfl<|Yd rfl<|Wo rfl (Yh Je rfl)<|Wsleq rfl<|Gm<|Gq rfl (fun h5 => ?_) (fun h5 => ?_); refine Gx<|Gt<|Gy<|Gt<|Zl<|Yd rfl<|Gz rfl<|Wo rfl (Xw Je rfl rfl Ka) ?_; refine Gu rfl (Vh (a := .string _) Tryz.call50 rfl) (k3k _ ((Mono.mono exq hM))) ?_; rintro _ w6 ⟨u1, rfl, E1, hO3⟩; refine Xf rfl<|Xo u1 rfl<|WsxI rfl<|Vn u1 rfl<|Zr rfl<|Gm<|Gs<|Zh u1 rfl<|Wo rfl (Xh Ji rfl (OD.read hO3))<|Xj rfl<|Wo rfl (Xh Ji rfl hRL)<|Yt rfl<|Zp rfl (fun h6 => ?_) (fun h6 => ?_); (exfalso; omega); refine Zh u1 rfl<|Xj rfl<|Zh u1 rfl<|Wo rfl (Xh Ji rfl (OD.read hO3)) ?_
        refine Xj rfl<|Wo rfl (Xh Ji rfl hRL)<|Wo rfl (opv_min rfl rfl)<|Wo rfl (opv_sliceD_hi Ji Kr rfl rfl Ka) ?_; refine Gu rfl (Vb (a := u1) (b := .slice _ _ _) Tryz.call52 rfl rfl) (kSk _ _ ((OD.read hO3)) ((Mono.mono exq hRL))) ?_; rintro _ w7 ⟨rfl, E2⟩; refine Vt rfl<|Vc rfl<|Vx rfl (Zt (v := .bool _) rfl) (fun h7 => ?_) (fun h7 => ?_); contradiction; refine Gz rfl<|Gz rfl<|Yt rfl<|Vc rfl<|Gm<|Gq rfl (fun h8 => ?_) (fun h8 => ?_); (exfalso; omega); refine Gx<|Zl<|Gz rfl<|Va rfl<|Zr rfl<|Gm ?_; rotate_left; (exfalso; omega)
      refine ⟨(k + 1), Kg, Kh, ?_, ?_⟩
      · exact ⟨by exact ((E5.trans E1).trans E2), Ka⟩
      · omega
    · clear k1 k2 k3 hpre
      have stop16 : True := trivial
      focus
        have szE5 := E5.size; have szEw1 := Ew1.size; refine Gt<|Gs<|Gz rfl<|Yd rfl<|Wo rfl (Yh Je rfl)<|Wsleq rfl<|Gm<|Gq rfl (fun h5 => ?_) (fun h5 => ?_); (exfalso; omega); refine Ve ?_; refine Zi ?_; refine Gs<|Zh v' rfl<|Gu rfl (Vh (a := v') Tryz.call42 rfl) (DrawDeskRun_ok _ _ _ ((Mono.mono exq h')) Kd) ?_; rintro _ w6 ⟨u1, q1, x1, y2, a1, c1, l1, rfl, E1, hA1, hC1, icu1, icq1, hL1, hcl1, hy2⟩; have hs5 := E1.size; refine Xf rfl<|To rfl<|WsxS rfl<|Zq rfl Vk ?_; rintro b1 w7 hb1 E2 hB1; have hlb1 := hB1.lt; refine Xd rfl Ko rfl rfl Ke Ke hB1 Ka (((Ew1.trans E5).trans E1).trans E2) ?_; rintro w8 E3 hB1 K1 hz1
        have E4 := ((E5.trans E1).trans E2).wroteAt exq E3 K1 hz1 Ka; have E6 := (E1.trans E2).wroteAt exq E3 K1 hz1 Ka; have E7 := E2.wroteAt exq E3 K1 hz1 Ka; refine Vr rfl<|Gm<|Gt<|Zl<|Ye Ks Ko hB1 rfl<|Zq rfl Vk ?_; rintro b2 w9 hb2 E8 hB2; have hlb2 := hB2.lt; refine Yu Ko hB2 rfl (E3.trans E8) ?_; rintro w10 E9 hB2 K2 hz2; have E10 := (E4.trans E8).wroteAt exq E9 K2 hz2 Ka; have E11 := (E6.trans E8).wroteAt exq E9 K2 hz2 Ka; have E12 := (E7.trans E8).wroteAt exq E9 K2 hz2 Ka; have E13 := E8.wroteAt exq E9 K2 hz2 Ka; have hB1 := (hB1.ext E8).of_heap (K2 _ Ka); refine Gm<|Gt<|Gt ?_
      clear stop16
      have kR : ∀ (w : World) (v1 v2 : Value), EMx gMx w (.bool true) () → ESl Ints w v1 x1 → ESl (ESl Ints) w v2 y2 → ESD w (.slice la L.length lc) L → Does Tryz.prog 43 [.agg #[v1, v2], .slice la L.length lc] w (RetDkZ w 23 88 3 (drV ⟨x1, y2⟩ L).1.now (drV ⟨x1, y2⟩ L).1.past ((drV ⟨x1, y2⟩ L).2 : Nat)) := fun w v1 v2 hM h1 h2 h3 => impl_DeskRun_ok w hM v1 v2 ⟨x1, y2⟩ h1 h2 _ L h3 hLt
      have kJ : ∀ w, EMx gMx w (.bool true) () → ESD w (.slice la L.length lc) L → Does Tryz.prog 54 [.slice la L.length lc] w (Ret w (str (y1.take N))) := fun w hM h => hjt ▸ impl_JournalText_ok w _ L hM h Ka hLt
      have same : ∀ (p : List (List Int)) (q : List (List (List Int))) (w : World) (v1 v2 t1 t2 : Value), ESl Ints w v1 p → ESl (ESl Ints) w v2 q → ESl Ints w t1 p → ESl (ESl Ints) w t2 q → Does Tryz.prog 15 [.agg #[v1, v2], .agg #[t1, t2]] w (Ret w (.bool true)) := fun p q w v1 v2 t1 t2 h1 h2 h3 h4 => by
        have := sameDesk_ok w v1 v2 t1 t2 p p q q h1 h2 h3 h4
        rwa [decide_eq_true ⟨rfl, rfl⟩] at this
      have kO0 : ∀ (b : Bool), decide (DkOk ⟨x1, y2⟩) = b → ∀ (w : World) (v1 v2 : Value), ESl Ints w v1 x1 → ESl (ESl Ints) w v2 y2 → Does Tryz.prog 16 [.agg #[v1, v2]] w (Ret w (.bool b)) := fun b e w v1 v2 h1 h2 => e ▸ Qi w v1 v2 ⟨x1, y2⟩ h1 h2
      have litown : True := trivial
      by_cases hd : DkOk ⟨x1, y2⟩
      · have kO := kO0 true (decide_eq_true hd)
        clear kO0
        focus
          have szE13 := E13.size; have szE12 := E12.size; have szE11 := E11.size; have szE10 := E10.size; have szE9 := E9.size; have szE8 := E8.size; have szE7 := E7.size; have szE6 := E6.size; have szE4 := E4.size; have szE3 := E3.size; have szE2 := E2.size; have szE1 := E1.size; have szE5 := E5.size; have szEw1 := Ew1.size; refine Zl<|Zr rfl<|Gm<|Gy ?_
        refine Vf [4, 16, 17, 18, 91, 92, 93, 94, 95, 96, 97, 98, 99, 100, 101, 102, 103, 104, 105, 106, 107, 108, 109, 110, 111, 112, 113, 114, 115, 116, 117] (fun ((k, v1, v2) : Nat × Value × Value) => [(16, .int .i64 (k : Nat))]) (fun (k, v1, v2) w' => Ext w6 w' ∧ w10.heap.size ≤ w'.heap.size ∧ k ≤ L.length ∧ Blk w' b1 [u1, q1] ∧ Blk w' b2 [v1, v2] ∧ ESl Ints w' v1 (runV ⟨x1, y2⟩ (L.take k)).1.now ∧ ESl (ESl Ints) w' v2 (runV ⟨x1, y2⟩ (L.take k)).1.past ∧ isCell v1 = true ∧ isCell v2 = true) (fun x => L.length - x.1) (0, u1, q1) Kg ?_ ?_
        · exact ⟨Kd, Nat.le_refl _, Nat.zero_le _, hB1, hB2, Mono.mono (by assumption : Ext w6 w10) hA1, Mono.mono (by assumption : Ext w6 w10) hC1, icu1, icq1⟩
        clear hB1 hB2
        rintro ⟨k, v1, v2⟩ ρk w11 ⟨E20, hsz, hk2, hB1, hB2, hV1, hV2, icv1, icv2⟩
        by_cases hkl2 : k < L.length
        · have hok := runV_ok hd (L.take k)
          have hsn : (runV ⟨x1, y2⟩ (L.take (k + 1))).1 = (doV (runV ⟨x1, y2⟩ (L.take k)).1 L[k]).1 := by rw [Vl _ _ hkl2, runV_fst]
          have hxk := hLt _ (List.getElem_mem hkl2)
          have hdk := hLd _ (List.getElem_mem hkl2)
          have hdl := dtV_len L[k]
          have kT : ∀ (w : World), EMx gMx w (.bool true) () → Does Tryz.prog 53 [.agg #[.int .i64 L[k].kind, str L[k].text, .int .i64 L[k].node]] w (Ret w (str (dtV L[k]))) := fun w hM => impl_DeedText_ok w _ _ _ hM hxk
          have kL : ∀ (w : World), EMx gMx w (.bool true) () → ESl Ints w v1 (runV ⟨x1, y2⟩ (L.take k)).1.now → ESl (ESl Ints) w v2 (runV ⟨x1, y2⟩ (L.take k)).1.past → Does Tryz.prog 13 [.agg #[v1, v2], str (dtV L[k])] w (RetDkT w 23 88 3 (doV (runV ⟨x1, y2⟩ (L.take k)).1 L[k]).1.now (doV (runV ⟨x1, y2⟩ (L.take k)).1 L[k]).1.past (okV (doV (runV ⟨x1, y2⟩ (L.take k)).1 L[k]).2)) := fun w hM h1 h2 => DeskLineD_ok w hM v1 v2 _ h1 h2 hok _ Ka _ (rdD_eq rfl hdk)
          have stop19 : True := trivial
          focus
            refine Gt<|Gs<|Gz rfl<|Xj rfl<|Wo rfl (Xh Ji rfl hRL)<|Zo rfl<|Zp rfl (fun h6 => ?_) (fun h6 => ?_); refine Ye Ks Ko hB1 rfl<|Gu rfl (Vh (a := .agg _) Jp rfl) (kO _ _ _ ((Mono.mono E20 hA1)) ((Mono.mono E20 hC1))) ?_; rintro _ w12 ⟨rfl, E14⟩; have hs8 := E14.size; refine Vw rfl<|Gm<|Vj rfl ?_; refine Gx<|Gt<|Gy<|Gt ?_; rotate_left; (exfalso; omega)
          clear stop19
          have heldS : w12 = w12 := rfl
          refine W_mid [102, 103, 104, 105, 106, 107, 108, 101, 109, 110, 17, 18] (fun ((b9, g1, g2) : Nat × Value × Value) => [(17, .pointer (some ⟨b9, 0, none⟩)), (18, str (okV (doV (runV ⟨x1, y2⟩ (L.take k)).1 L[k]).2))]) (fun (b9, g1, g2) w' => Ext w12 w' ∧ Blk w' b9 [g1, g2] ∧ Above w12.heap.size (ESl Ints) w' g1 (runV ⟨x1, y2⟩ (L.take (k + 1))).1.now ∧ Above w12.heap.size (ESl (ESl Ints)) w' g2 (runV ⟨x1, y2⟩ (L.take (k + 1))).1.past ∧ isCell g1 = true ∧ isCell g2 = true) ?_ ?_
          · rw [hsn]
            focus
              refine Qb (fun w' => Ext w12 w') Yn rfl Kb ?_; intro w13 E15 K3 hz3; refine Zj (v := .agg _) 0 rfl Kb Kb rfl (fun w' hw' => Qv Ks Ko rfl (hB2.ext exq)) E15 ?_; refine WtmS 1 rfl rfl E15<|WtmI 2 rfl rfl E15<|Wh_getD 3 4 rfl Kb Kb rfl rfl Kb Kb (fun _ => rfl) Ji Kr Jb Kr rfl hRL (fun w' hw' => Ext.trans exq hw') rfl Kf E15 ?_; rintro _; refine Wha [5, 10]<|Gp rfl ?_ ?_; refine Gu rfl (Vh (a := .agg _) Tryz.call53 rfl) (kT _ ((Mono.mono exq hM))) ?_; rintro _ w14 ⟨rfl, E16⟩; have hs10 := E16.size; refine Gm ?_; refine ⟨exq, ?_⟩; refine Wha [6, 10]<|Gp rfl ?_ ?_
              refine Gu rfl (Vb (a := .agg _) (b := .string _) Tryz.call13 rfl rfl) (kL _ ((Mono.mono exq hM)) ((Mono.mono exq hV1)) ((Mono.mono exq hV2))) ?_; rintro _ w15 ⟨u3, q2, m1, rfl, E17, hO3, hQ1, hm1, hn1⟩; have icu3 := OwnedB.isC hO3; have icq2 := OwnedB.isC (Owned.toB hQ1); have hs11 := E17.size; refine Gm ?_; refine ⟨exq, ?_⟩; refine Qq 7 rfl rfl exq<|Qp 8 rfl rfl exq<|WtxT 9 rfl rfl exq<|Wha [10]<|Gp rfl ?_ ?_; refine Zq rfl Vk ?_; rintro b3 w16 hb3 E18 hB3; refine Gm ?_; refine ⟨exq, ?_⟩; refine Wha [11]<|Gp rfl ?_ ?_; refine Xd rfl Ko rfl rfl Ke Ke hB3 Ka ((((((((Ew1.trans E5).trans E1).trans E20).trans E14).trans E15).trans E16).trans E17).trans E18) ?_; rintro w17 E19 hB3 K4 hz4
              have E25 := (((E15.trans E16).trans E17).trans E18).wroteAt exq E19 K4 hz4 Ka; have hO3 := (hO3.ext E18).wrote K4 Ka; have hQ1 := (hQ1.toB.ext E18).wrote K4 Ka; refine Gm ?_; refine ⟨E25, ?_⟩; refine WtaT 12 rfl rfl E25<|Vd Kb ?_; rotate_left; exact Gv; exact Gv; refine Gp rfl ?_ ?_; refine Zq rfl Vk ?_; rintro b3 w15 hb3 E17 hB3; have hlb3 := hB3.lt; refine Gm ?_; refine ⟨exq, ?_⟩; refine Wha [6]<|Gp rfl ?_ ?_; refine Gu rfl (Vb (a := .agg _) (b := .string _) Tryz.call13 rfl rfl) (kL _ ((Mono.mono exq hM)) ((Mono.mono exq hV1)) ((Mono.mono exq hV2))) ?_; rintro _ w16 ⟨u3, q2, m1, rfl, E18, hO3, hQ1, hm1, hn1⟩; have icu3 := OwnedB.isC hO3; have icq2 := OwnedB.isC (Owned.toB hQ1); refine Gm ?_; refine ⟨exq, ?_⟩; refine Qq 7 rfl rfl exq<|Qp 8 rfl rfl exq ?_
              refine WtxT 9 rfl rfl exq<|Wha [11]<|Gp rfl ?_ ?_; refine Xd rfl Ko rfl rfl Ke Ke (hB3.ext E18) Ka ((((((((Ew1.trans E5).trans E1).trans E20).trans E14).trans E15).trans E16).trans E17).trans E18) ?_; rintro w17 E19 hB3 K4 hz4; have E25 := (((E15.trans E16).trans E17).trans E18).wroteAt exq E19 K4 hz4 Ka; have hO3 := hO3.wrote K4 Ka; have hQ1 := hQ1.toB.wrote K4 Ka; refine Gm ?_; refine ⟨E25, ?_⟩; refine WtaT 12 rfl rfl E25<|Vd Kb ?_; rotate_left; exact Gv; exact Gv; exact Gv; refine Gp rfl ?_ ?_; refine Zq rfl Vk ?_; rintro b3 w14 hb3 E16 hB3; have hlb3 := hB3.lt; refine Gm ?_; refine ⟨exq, ?_⟩; refine Wha [5]<|Gp rfl ?_ ?_
              refine Gu rfl (Vh (a := .agg _) Tryz.call53 rfl) (kT _ ((Mono.mono exq hM))) ?_; rintro _ w15 ⟨rfl, E17⟩; have hs11 := E17.size; refine Gm ?_; refine ⟨exq, ?_⟩; refine Wha [6]<|Gp rfl ?_ ?_; refine Gu rfl (Vb (a := .agg _) (b := .string _) Tryz.call13 rfl rfl) (kL _ ((Mono.mono exq hM)) ((Mono.mono exq hV1)) ((Mono.mono exq hV2))) ?_; rintro _ w16 ⟨u3, q2, m1, rfl, E18, hO3, hQ1, hm1, hn1⟩; have icu3 := OwnedB.isC hO3; have icq2 := OwnedB.isC (Owned.toB hQ1); refine Gm ?_; refine ⟨exq, ?_⟩; refine Qq 7 rfl rfl exq<|Qp 8 rfl rfl exq<|WtxT 9 rfl rfl exq<|Wha [11]<|Gp rfl ?_ ?_; refine Xd rfl Ko rfl rfl Ke Ke (hB3.ext (E17.trans E18)) Ka ((((((((Ew1.trans E5).trans E1).trans E20).trans E14).trans E15).trans E16).trans E17).trans E18) ?_; rintro w17 E19 hB3 K4 hz4
              have E25 := (((E15.trans E16).trans E17).trans E18).wroteAt exq E19 K4 hz4 Ka; have hO3 := hO3.wrote K4 Ka; have hQ1 := hQ1.toB.wrote K4 Ka; refine Gm ?_; refine ⟨E25, ?_⟩; refine WtaT 12 rfl rfl E25<|Vd Kb ?_; rotate_left; exact Gv; exact Gv; exact Gv; exact Gv
            all_goals exact ⟨(b3, u3, q2), ⟨rfl, rfl, trivial⟩, Kh, by repeat (first | assumption | refine Ext.trans Kd ?_), hB3, hO3.above.mono Ka, hQ1.above.mono Ka, icu3, icq2⟩
          rintro ⟨b9, g1, g2⟩ ρ9 w13 ⟨E21, hB9, hG1, hG2, icg1, icg2⟩
          clear heldS kT kL
          have hs21 := E21.size
          cases hb : (doV (runV ⟨x1, y2⟩ (L.take k)).1 L[k]).2 with
          | true =>
            focus
              refine Gt<|Gs<|Yd rfl<|Wo rfl (Vy rfl rfl)<|Xv rfl (fun h7 => ?_) (fun h7 => ?_); contradiction; refine Gn rfl<|Gn rfl<|Vc rfl<|Gm<|Za rfl ?_; refine Gx<|Zl<|Ye Ks Ko hB9 rfl<|Xd rfl Ko rfl rfl Ke Ke (hB2.ext (E14.trans E21)) Ka (((((Ew1.trans E5).trans E1).trans E20).trans E14).trans E21) ?_; rintro w14 E15 hB2 K3 hz3; have E18 := ((E20.trans E14).trans E21).wroteAt exq E15 K3 hz3 Ka; have hB1 := (hB1.ext exq).of_heap (K3 _ Ka); have hG1 := hG1.keep (fun k h1 h2 => K3 k Ka) Ka; have hG2 := hG2.keep (fun k h1 h2 => K3 k Ka) Ka; refine Gm<|Zl<|Gz rfl<|Va rfl<|Zr rfl<|Gm ?_
            refine ⟨((k + 1, g1, g2)), Kg, Kh, ?_, ?_⟩
            · exact ⟨by exact E18, Ka, Ka, by exact hB1, by exact hB2, hG1.here, hG2.here, icg1, icg2⟩
            · simp only; omega
          | false =>
            focus
              refine Gt<|Gs<|Yd rfl<|Wo rfl (Vy rfl rfl)<|Xv rfl (fun h7 => ?_) (fun h7 => ?_); refine Yd rfl<|Wo rfl (Vy rfl rfl)<|Vw rfl<|Gm<|Zx rfl (fun h8 => ?_) (fun h8 => ?_); contradiction; refine Gx<|Zl<|Ye Ks Ko hB9 rfl<|Xd rfl Ko rfl rfl Ke Ke (hB2.ext (E14.trans E21)) Ka (((((Ew1.trans E5).trans E1).trans E20).trans E14).trans E21) ?_; rintro w14 E15 hB2 K3 hz3; have E18 := ((E20.trans E14).trans E21).wroteAt exq E15 K3 hz3 Ka; have hB1 := (hB1.ext exq).of_heap (K3 _ Ka); have hG1 := hG1.keep (fun k h1 h2 => K3 k Ka) Ka; have hG2 := hG2.keep (fun k h1 h2 => K3 k Ka) Ka; refine Gm<|Zl<|Gz rfl ?_
              refine Va rfl<|Zr rfl<|Gm ?_; rotate_left; contradiction
            refine ⟨((k + 1, g1, g2)), Kg, Kh, ?_, ?_⟩
            · exact ⟨by exact E18, Ka, Ka, by exact hB1, by exact hB2, hG1.here, hG2.here, icg1, icg2⟩
            · simp only; omega
        · obtain rfl : k = L.length := by omega
          rw [List.take_length] at hV1 hV2
          by_cases h40 : L.length ≤ 40
          · rw [show drV ⟨x1, y2⟩ L = runV ⟨x1, y2⟩ L from if_pos ⟨hd, h40⟩] at kR
            have kE := same (runV ⟨x1, y2⟩ L).1.now (runV ⟨x1, y2⟩ L).1.past
            focus
              refine Gt<|Gs<|Gz rfl<|Xj rfl<|Wo rfl (Xh Ji rfl hRL)<|Zo rfl<|Zp rfl (fun h6 => ?_) (fun h6 => ?_); (exfalso; omega); refine Gn rfl<|Gn rfl<|Vc rfl<|Gm<|Za rfl ?_; refine Ve ?_; refine Zi ?_; refine Gt<|Zl<|Ye Ks Ko hB1 rfl<|Xj rfl<|Gu rfl (Vb (a := .agg _) (b := .slice _ _ _) Tryz.call43 rfl rfl) (kR _ _ _ ((Mono.mono exq hM)) ((Mono.mono E20 hA1)) ((Mono.mono E20 hC1)) ((Mono.mono exq hRL))) ?_; rintro _ w12 ⟨u3, q2, m1, rfl, E14, hO3, hQ1, hm1, hn1⟩; have icu3 := OwnedB.isC hO3; have icq2 := OwnedB.isC (Owned.toB hQ1); have hs8 := E14.size; refine Xf rfl<|To rfl<|WsxI rfl<|Zq rfl Vk ?_; rintro b3 w13 hb3 E15 hB3
              refine Xd rfl Ko rfl rfl Ke Ke hB3 Ka (((((Ew1.trans E5).trans E1).trans E20).trans E14).trans E15) ?_; rintro w14 E16 hB3 K3 hz3; have E17 := ((((E5.trans E1).trans E20).trans E14).trans E15).wroteAt exq E16 K3 hz3 Ka; have E19 := ((E20.trans E14).trans E15).wroteAt exq E16 K3 hz3 Ka; have E21 := (E14.trans E15).wroteAt exq E16 K3 hz3 Ka; have hB1 := (hB1.ext exq).of_heap (K3 _ Ka); have hB2 := (hB2.ext exq).of_heap (K3 _ Ka); have hO3 := (hO3.ext E15).wrote K3 Ka; have hQ1 := (hQ1.toB.ext E15).wrote K3 Ka; refine Zr rfl<|Gm<|Gt<|Yr Yn Kb rfl ?_; refine Qc rfl<|WqmT rfl<|Ya rfl (fun _ _ => Yh Je rfl) ?_; refine Wqleq rfl<|Ys rfl (fun h7 => ?_) (fun h7 => ?_)
              refine WqmS rfl<|Yy rfl (fun _ _ => Vh (a := .slice _ _ _) Tryz.call54 rfl) (fun w' hw' => (kJ _ ((Mono.mono exq hM)) ((Mono.mono exq hRL)))) ?_; refine WqmT rfl<|Qc rfl<|Ya rfl (fun _ _ => Xw Je rfl rfl Ka) ?_; refine Ya rfl (fun _ _ => Vo rfl rfl) ?_; refine Ux rfl<|Ys rfl (fun h8 => ?_) (fun h8 => ?_); refine Ya (v := .agg _) rfl (fun w' hw' => Qv Ks Ko rfl (hB1.ext hw')) ?_; refine Yy rfl (fun _ _ => Vh (a := .agg _) Jp rfl) (fun w' hw' => (kO _ _ _ ((Mono.mono exq hA1)) ((Mono.mono exq hC1)))) ?_; refine Rx rfl<|Uf rfl (fun _ _ => Zt (v := .bool _) rfl) (fun h9 => ?_) (fun h9 => ?_); contradiction; refine WqmS rfl<|Ya rfl (fun _ _ => Xh Ji rfl hRL) ?_; refine Wqgtr rfl<|Un rfl ?_
              refine Ys rfl (fun h10 => ?_) (fun h10 => ?_); (exfalso; omega); refine Ya (v := .agg _) rfl (fun w' hw' => Qv Ks Ko rfl (hB2.ext hw')) ?_; refine Ya (v := .agg _) rfl (fun w' hw' => Qv Ks Ko rfl (hB3.ext hw')) ?_; refine Yy rfl (fun _ _ => Vb (a := .agg _) (b := .agg _) Tryz.call15 rfl rfl) (fun w' hw' => (kE _ _ _ _ _ ((Mono.mono exq hV1)) ((Mono.mono exq hV2)) ((Mono.mono hw' (OwnedB.read hO3))) ((Mono.mono hw' (OwnedB.read hQ1))))) ?_; refine Un rfl<|Ux rfl<|Ur rfl<|Yy rfl (fun _ _ => opc0 Tryz.call18) (fun w' hw' => (alive_ok _)) ?_; refine Ux rfl<|Sq rfl<|Yp (fun w15 E23 => ?_); refine Zd ?_; exact ⟨rfl, exq⟩; contradiction; (exfalso; omega)
          · focus
              refine Gt<|Gs<|Gz rfl<|Xj rfl<|Wo rfl (Xh Ji rfl hRL)<|Zo rfl<|Zp rfl (fun h6 => ?_) (fun h6 => ?_); (exfalso; omega); refine Gn rfl<|Gn rfl<|Vc rfl<|Gm<|Za rfl ?_; refine Ve ?_; refine Zi ?_; refine Gt<|Zl<|Ye Ks Ko hB1 rfl<|Xj rfl<|Gu rfl (Vb (a := .agg _) (b := .slice _ _ _) Tryz.call43 rfl rfl) (kR _ _ _ ((Mono.mono exq hM)) ((Mono.mono E20 hA1)) ((Mono.mono E20 hC1)) ((Mono.mono exq hRL))) ?_; rintro _ w12 ⟨u3, q2, m1, rfl, E14, hO3, hQ1, hm1, hn1⟩; have icu3 := OwnedB.isC hO3; have icq2 := OwnedB.isC (Owned.toB hQ1); have hs8 := E14.size; refine Xf rfl<|To rfl<|WsxI rfl<|Zq rfl Vk ?_; rintro b3 w13 hb3 E15 hB3
              refine Xd rfl Ko rfl rfl Ke Ke hB3 Ka (((((Ew1.trans E5).trans E1).trans E20).trans E14).trans E15) ?_; rintro w14 E16 hB3 K3 hz3; have E17 := ((((E5.trans E1).trans E20).trans E14).trans E15).wroteAt exq E16 K3 hz3 Ka; have E19 := ((E20.trans E14).trans E15).wroteAt exq E16 K3 hz3 Ka; have hB1 := (hB1.ext exq).of_heap (K3 _ Ka); refine Zr rfl<|Gm<|Gt<|Yr Yn Kb rfl ?_; refine Qc rfl<|WqmT rfl<|Ya rfl (fun _ _ => Yh Je rfl) ?_; refine Wqleq rfl<|Ys rfl (fun h7 => ?_) (fun h7 => ?_); refine WqmS rfl<|Yy rfl (fun _ _ => Vh (a := .slice _ _ _) Tryz.call54 rfl) (fun w' hw' => (kJ _ ((Mono.mono exq hM)) ((Mono.mono exq hRL)))) ?_
              refine WqmT rfl<|Qc rfl<|Ya rfl (fun _ _ => Xw Je rfl rfl Ka) ?_; refine Ya rfl (fun _ _ => Vo rfl rfl) ?_; refine Ux rfl<|Ys rfl (fun h8 => ?_) (fun h8 => ?_); refine Ya (v := .agg _) rfl (fun w' hw' => Qv Ks Ko rfl (hB1.ext hw')) ?_; refine Yy rfl (fun _ _ => Vh (a := .agg _) Jp rfl) (fun w' hw' => (kO _ _ _ ((Mono.mono exq hA1)) ((Mono.mono exq hC1)))) ?_; refine Rx rfl<|Uf rfl (fun _ _ => Zt (v := .bool _) rfl) (fun h9 => ?_) (fun h9 => ?_); contradiction; refine WqmS rfl<|Ya rfl (fun _ _ => Xh Ji rfl hRL) ?_; refine Wqgtr rfl<|Un rfl<|Ys rfl (fun h10 => ?_) (fun h10 => ?_); refine Gw rfl<|Gw rfl<|Gw rfl<|Ux rfl ?_
              refine Ux rfl<|Ur rfl<|Yy rfl (fun _ _ => opc0 Tryz.call18) (fun w' hw' => (alive_ok _)) ?_; refine Ux rfl<|Sq rfl<|Yp (fun w15 E23 => ?_); refine Zd ?_; exact ⟨rfl, exq⟩; (exfalso; omega); contradiction; (exfalso; omega)
      · have kO := kO0 false (decide_eq_false hd)
        focus
          refine Zl<|Zr rfl<|Gm<|Gy ?_
        refine Vf [4, 16, 17, 18, 91, 92, 93, 94, 95, 96, 97, 98, 99, 100, 101, 102, 103, 104, 105, 106, 107, 108, 109, 110, 111, 112, 113, 114, 115, 116, 117] (fun (k : Nat) => [(16, .int .i64 (k : Nat))]) (fun k w' => Ext w10 w' ∧ k = 0) (fun x => 0) 0 Kg ?_ ?_
        · exact ⟨Ext.refl _, rfl⟩
        rintro k ρk w11 ⟨E20, rfl⟩
        focus
          have szE20 := E20.size; refine Gt<|Gs<|Gz rfl<|Xj rfl<|Wo rfl (Xh Ji rfl hRL)<|Zo rfl<|Zp rfl (fun h6 => ?_) (fun h6 => ?_); refine Ye Ks Ko (hB1.ext E20) rfl<|Gu rfl (Vh (a := .agg _) Jp rfl) (kO _ _ _ ((Mono.mono exq hA1)) ((Mono.mono exq hC1))) ?_; rintro _ w12 ⟨rfl, E14⟩; have hs8 := E14.size; refine Vw rfl<|Gm<|Za rfl ?_; refine Ve ?_; refine Zi ?_; refine Gs<|Ye Ks Ko (hB1.ext exq) rfl<|Xj rfl<|Gu rfl (Vb (a := .agg _) (b := .slice _ _ _) Tryz.call43 rfl rfl) (kR _ _ _ ((Mono.mono exq hM)) ((Mono.mono exq hA1)) ((Mono.mono exq hC1)) ((Mono.mono exq hRL))) ?_; rintro _ w13 ⟨u3, q2, m1, rfl, E15, hO3, hQ1, hm1, hn1⟩; have icu3 := OwnedB.isC hO3; have icq2 := OwnedB.isC (Owned.toB hQ1); have hs9 := E15.size
          refine Xf rfl<|To rfl<|WsxI rfl<|Zq rfl Vk ?_; rintro b3 w14 hb3 E16 hB3; refine Xd rfl Ko rfl rfl Ke Ke hB3 Ka ((((E9.trans E20).trans E14).trans E15).trans E16) ?_; rintro w15 E17 hB3 K3 hz3; have E18 := ((((E10.trans E20).trans E14).trans E15).trans E16).wroteAt exq E17 K3 hz3 Ka; have E21 := ((((E12.trans E20).trans E14).trans E15).trans E16).wroteAt exq E17 K3 hz3 Ka; have hB1 := (hB1.ext exq).of_heap (K3 _ Ka); refine Zr rfl<|Gm<|Gt<|Yr Yn Kb rfl ?_; refine Qc rfl<|WqmT rfl<|Ya rfl (fun _ _ => Yh Je rfl) ?_; refine Wqleq rfl<|Ys rfl (fun h7 => ?_) (fun h7 => ?_); refine WqmS rfl ?_
          refine Yy rfl (fun _ _ => Vh (a := .slice _ _ _) Tryz.call54 rfl) (fun w' hw' => (kJ _ ((Mono.mono exq hM)) ((Mono.mono exq hRL)))) ?_; refine WqmT rfl<|Qc rfl<|Ya rfl (fun _ _ => Xw Je rfl rfl Ka) ?_; refine Ya rfl (fun _ _ => Vo rfl rfl) ?_; refine Ux rfl<|Ys rfl (fun h8 => ?_) (fun h8 => ?_); refine Ya (v := .agg _) rfl (fun w' hw' => Qv Ks Ko rfl (hB1.ext hw')) ?_; refine Yy rfl (fun _ _ => Vh (a := .agg _) Jp rfl) (fun w' hw' => (kO _ _ _ ((Mono.mono exq hA1)) ((Mono.mono exq hC1)))) ?_; refine Rx rfl<|Uf rfl (fun _ _ => Zt (v := .bool _) rfl) (fun h9 => ?_) (fun h9 => ?_); refine Gw rfl<|Gw rfl<|Gw rfl<|Ux rfl<|Ur rfl<|Gw rfl<|Gw rfl<|Gw rfl<|Ux rfl ?_
          refine Ux rfl<|Ur rfl<|Yy rfl (fun _ _ => opc0 Tryz.call18) (fun w' hw' => (alive_ok _)) ?_; refine Ux rfl<|Sq rfl<|Yp (fun w16 E27 => ?_); refine Zd ?_; exact ⟨rfl, exq⟩; contradiction; contradiction; (exfalso; omega); refine Gn rfl<|Gn rfl<|Vc rfl<|Gm<|Za rfl ?_; refine Ve ?_; refine Zi ?_; refine Gs<|Ye Ks Ko (hB1.ext E20) rfl<|Xj rfl<|Gu rfl (Vb (a := .agg _) (b := .slice _ _ _) Tryz.call43 rfl rfl) (kR _ _ _ ((Mono.mono exq hM)) ((Mono.mono exq hA1)) ((Mono.mono exq hC1)) ((Mono.mono exq hRL))) ?_; rintro _ w12 ⟨u3, q2, m1, rfl, E14, hO3, hQ1, hm1, hn1⟩; have icu3 := OwnedB.isC hO3; have icq2 := OwnedB.isC (Owned.toB hQ1); have hs8 := E14.size; refine Xf rfl<|To rfl<|WsxI rfl<|Zq rfl Vk ?_; rintro b3 w13 hb3 E15 hB3
          refine Xd rfl Ko rfl rfl Ke Ke hB3 Ka (((E9.trans E20).trans E14).trans E15) ?_; rintro w14 E16 hB3 K3 hz3; have E17 := (((E10.trans E20).trans E14).trans E15).wroteAt exq E16 K3 hz3 Ka; have E19 := (((E12.trans E20).trans E14).trans E15).wroteAt exq E16 K3 hz3 Ka; have hB1 := (hB1.ext exq).of_heap (K3 _ Ka); refine Zr rfl<|Gm<|Gt<|Yr Yn Kb rfl ?_; refine Qc rfl<|WqmT rfl<|Ya rfl (fun _ _ => Yh Je rfl) ?_; refine Wqleq rfl<|Ys rfl (fun h7 => ?_) (fun h7 => ?_); refine WqmS rfl<|Yy rfl (fun _ _ => Vh (a := .slice _ _ _) Tryz.call54 rfl) (fun w' hw' => (kJ _ ((Mono.mono exq hM)) ((Mono.mono exq hRL)))) ?_
          refine WqmT rfl<|Qc rfl<|Ya rfl (fun _ _ => Xw Je rfl rfl Ka) ?_; refine Ya rfl (fun _ _ => Vo rfl rfl) ?_; refine Ux rfl<|Ys rfl (fun h8 => ?_) (fun h8 => ?_); refine Ya (v := .agg _) rfl (fun w' hw' => Qv Ks Ko rfl (hB1.ext hw')) ?_; refine Yy rfl (fun _ _ => Vh (a := .agg _) Jp rfl) (fun w' hw' => (kO _ _ _ ((Mono.mono exq hA1)) ((Mono.mono exq hC1)))) ?_; refine Rx rfl<|Uf rfl (fun _ _ => Zt (v := .bool _) rfl) (fun h9 => ?_) (fun h9 => ?_); refine Gw rfl<|Gw rfl<|Gw rfl<|Ux rfl<|Ur rfl<|Gw rfl<|Gw rfl<|Gw rfl<|Ux rfl<|Ux rfl<|Ur rfl<|Yy rfl (fun _ _ => opc0 Tryz.call18) (fun w' hw' => (alive_ok _)) ?_; refine Ux rfl<|Sq rfl<|Yp (fun w15 E25 => ?_); refine Zd ?_
          exact ⟨rfl, exq⟩; contradiction; contradiction; (exfalso; omega)
end Go.Proofs.YtbgpppaljpngmaaGreatDoor
