/- Lemmas for FnExactDeskRun. -/
import Derived.Test.YtbgpppaljpngmaaGreatDoorMFnExactDeskRun4
import Derived.Laws.StructEq
import Derived.Tactics
import Derived.Tactics2
namespace Go.Proofs.YtbgpppaljpngmaaGreatDoor
open Go.Hs
set_option maxRecDepth 10000
set_option maxHeartbeats 4000000
set_option linter.unusedVariables false
set_option linter.unusedSimpArgs false
theorem l6Least_put (w : World) (v : Value) (g : List (List Int)) (ms : List Nat) (h : ESl Ints w v (put g ms)) (hg : Gr g) (hn : g.length ≤ 10) :
    Does Tryz.prog 175 [v] w (RetOB w XR (og (putV g ms)) (putV g ms).isSome) := by
  rw [putV_og, putV_is]
  exact l6Least_ok w v _ h (put_gr hg hn)
theorem PairOf_ok (w : World) (v u : Value) (p q : List (List Int)) (h : ESl Ints w v p) (h' : ESl Ints w u q) (a b : Nat) (ha : Nod p a) (hb : Nod q b) : Does Tryz.prog 141 [v, .int .i64 (a : Int), u, .int .i64 (b : Int)] w (RetOB w XR (og (pairV p a q b)) (pairV p a q b).isSome) := by
  have la : a < p.length := by have := ha.2; omega
  have lb : b < q.length := by have := hb.2; omega
  have hle := h.le
  have hle' := h'.le
  have hG := ha.1.bes5 hb.1
  have n1 : ∀ (w : World) (v : Value), ESl Ints w v p → Does Tryz.prog 118 [v, .int .i64 (a : Int)] w (Ret w (.bool true)) := fun w v h => by
    have := Qi w v p h (a : Int); rwa [decide_eq_true ha] at this
  have n2 : ∀ (w : World) (v : Value), ESl Ints w v q → Does Tryz.prog 118 [v, .int .i64 (b : Int)] w (Ret w (.bool true)) := fun w v h => by
    have := Qi w v q h (b : Int); rwa [decide_eq_true hb] at this
  have k1 : ∀ (w : World) (v u vl vr : Value), ESl Ints w v p → ESl Ints w u q → Ints w vl [(a : Int)] → Ints w vr [(b : Int)] → Does Tryz.prog 176 [v, u, vl, vr] w (RetO w XR (put (bes p q) [a, p.length + b])) := fun w v u vl vr h1 h2 h3 h4 =>
    l6Put_ok w v u vl vr p q [a] [b] h1 h2 h3 h4 ha.1 (.inl hb.1) (fun x hx => by rw [List.mem_singleton.1 hx]; exact la) (fun x hx => by rw [List.mem_singleton.1 hx]; exact lb) Ki Ki
  have k2 : ∀ (w : World) (v : Value), ESl Ints w v (put (bes p q) [a, p.length + b]) → Does Tryz.prog 175 [v] w (RetOB w XR (og (pairV p a q b)) (pairV p a q b).isSome) := fun w v h => l6Least_put w v _ _ h hG.1 hG.2
  refine Xc Tryz.func141 rfl Tryz.results141 Tryz.ntmps141 rfl ?_
  have litown : True := trivial
  focus
    refine Gh<|Zr rfl<|Gx rfl<|Ge<|Gg<|Gh<|Gq v rfl<|Gk rfl<|Gj rfl (Va (a := v) (b := .int _ _) Jx rfl rfl) (n1 _ _ (h)) ?_; rintro _ w1 ⟨rfl, E1⟩; have hs1 := E1.size; refine Zy rfl<|Vd rfl (Zg (v := .bool _) rfl) (fun h1 => ?_) (fun h1 => ?_); contradiction; refine Gq u rfl<|Gk rfl<|Gj rfl (Va (a := u) (b := .int _ _) Jx rfl rfl) (n2 _ _ ((Mono.mono E1 h'))) ?_; rintro _ w2 ⟨rfl, E2⟩; have hs2 := E2.size; refine Zy rfl<|Zw rfl<|Ge<|Vh rfl (fun h2 => ?_) (fun h2 => ?_); contradiction; refine Gn<|Gh<|Gq v rfl<|Gq u rfl<|Gk rfl ?_
    refine Zi (ps := [(0, .int _ _)]) (cs := [_]) rfl Km Kl Jd rfl rfl rfl rfl ?_; rintro b1 w3 hb1 E3 hB1 hHb1; have hlb1 := hB1.lt; have hLb1 := own_lit1 hHb1 hb1; clear hHb1; have hs3 := E3.size; refine Gk rfl<|Zi (ps := [(0, .int _ _)]) (cs := [_]) rfl Km Kl Jd rfl rfl rfl rfl ?_; rintro b2 w4 hb2 E4 hB2 hHb2; have hlb2 := hB2.lt; have hLb2 := own_lit1 hHb2 hb2; clear hHb2; have hs4 := E4.size; refine Gj rfl (Qy (a := v) (b := u) (c := .slice _ _ _) (d := .slice _ _ _) Tryz.call176 rfl rfl rfl rfl) (k1 _ _ _ _ _ ((Mono.mono exq h)) ((Mono.mono exq h')) ((Mono.mono E4 (Owned.read hLb1))) ((Owned.read hLb2))) ?_
    rintro u1 w5 ⟨E5, hO1⟩; have ichO1 := OwnedB.isC (Owned.toB hO1); have hs5 := E5.size; refine Gj rfl (Zx (a := u1) Tryz.call175 rfl) (k2 _ _ ((Owned.read hO1))) ?_; rintro _ w6 ⟨u2, rfl, E6, hO2⟩; have ichO2 := OwnedB.isC (Owned.toB hO2); have hs6 := E6.size; refine Yr u2 rfl<|Ym rfl<|Zv u2 rfl<|Gx rfl<|Ge<|Gv ?_; refine Gz (v := .tuple #[u2, .bool _]) rfl ?_; exact ⟨_, rfl, exq, hO2.toB.o.mono Ka⟩
theorem TogetherOf_ok (w : World) (v u : Value) (p q : List (List Int)) (h : ESl Ints w v p) (h' : ESl Ints w u q) (a b : Nat) (ha : Nod p a) (hb : Nod q b) : Does Tryz.prog 142 [v, .int .i64 (a : Int), u, .int .i64 (b : Int)] w (RetOB w XR (og (togV p a q b)) (togV p a q b).isSome) := by
  have la : a < p.length := by have := ha.2; omega
  have lb : b < q.length := by have := hb.2; omega
  have hle := h.le
  have hle' := h'.le
  have hG := ha.1.bes5 hb.1
  have n1 : ∀ (w : World) (v : Value), ESl Ints w v p → Does Tryz.prog 118 [v, .int .i64 (a : Int)] w (Ret w (.bool true)) := fun w v h => by
    have := Qi w v p h (a : Int); rwa [decide_eq_true ha] at this
  have n2 : ∀ (w : World) (v : Value), ESl Ints w v q → Does Tryz.prog 118 [v, .int .i64 (b : Int)] w (Ret w (.bool true)) := fun w v h => by
    have := Qi w v q h (b : Int); rwa [decide_eq_true hb] at this
  have c1 : ∀ (w : World) (v : Value), ESl Ints w v p → Does Tryz.prog 119 [v, .int .i64 (a : Int)] w (RetO w XI (ints (arr p a))) := fun w v h => l6Arrows_ok w v p h ha.1.gr a la
  have c2 : ∀ (w : World) (v : Value), ESl Ints w v q → Does Tryz.prog 119 [v, .int .i64 (b : Int)] w (RetO w XI (ints (arr q b))) := fun w v h => l6Arrows_ok w v q h hb.1.gr b lb
  have k1 : ∀ (w : World) (v u vl vr : Value), ESl Ints w v p → ESl Ints w u q → Ints w vl (ints (arr p a)) → Ints w vr (ints (arr q b)) → Does Tryz.prog 176 [v, u, vl, vr] w (RetO w XR (put (bes p q) (arr p a ++ (arr q b).map (p.length + ·)))) := fun w v u vl vr h1 h2 h3 h4 =>
    l6Put_ok w v u vl vr p q _ _ h1 h2 h3 h4 ha.1 (.inl hb.1) (fun x hx => Vn ha.1.gr la hx) (fun x hx => Vn hb.1.gr lb hx) (by have := arr_le ha.1.gr la; have := ha.1.2.1; omega) (by have := arr_le hb.1.gr lb; have := hb.1.2.1; omega)
  have k2 : ∀ (w : World) (v : Value), ESl Ints w v (put (bes p q) (arr p a ++ (arr q b).map (p.length + ·))) → Does Tryz.prog 175 [v] w (RetOB w XR (og (togV p a q b)) (togV p a q b).isSome) := fun w v h => by
    rw [togV_eq ha.1.gr hb.1.gr la lb]
    exact l6Least_put w v _ _ h hG.1 hG.2
  refine Xc Tryz.func142 rfl Tryz.results142 Tryz.ntmps142 rfl ?_
  focus
    refine Gh<|Zr rfl<|Gx rfl<|Ge<|Gg<|Gh<|Gq v rfl<|Gk rfl<|Gj rfl (Va (a := v) (b := .int _ _) Jx rfl rfl) (n1 _ _ (h)) ?_; rintro _ w1 ⟨rfl, E1⟩; have hs1 := E1.size; refine Zy rfl<|Vd rfl (Zg (v := .bool _) rfl) (fun h1 => ?_) (fun h1 => ?_); contradiction; refine Gq u rfl<|Gk rfl<|Gj rfl (Va (a := u) (b := .int _ _) Jx rfl rfl) (n2 _ _ ((Mono.mono E1 h'))) ?_; rintro _ w2 ⟨rfl, E2⟩; have hs2 := E2.size; refine Zy rfl<|Zw rfl<|Ge<|Vh rfl (fun h2 => ?_) (fun h2 => ?_); contradiction; refine Gn<|Gh<|Gq v rfl<|Gq u rfl<|Gq v rfl<|Gk rfl<|Gj rfl (Va (a := v) (b := .int _ _) Tryz.call119 rfl rfl) (c1 _ _ ((Mono.mono exq h))) ?_; rintro u1 w3 ⟨E3, hO1⟩; have hs3 := E3.size; refine Gq u rfl ?_
    refine Gk rfl<|Gj rfl (Va (a := u) (b := .int _ _) Tryz.call119 rfl rfl) (c2 _ _ ((Mono.mono exq h'))) ?_; rintro u2 w4 ⟨E4, hO2⟩; have hs4 := E4.size; refine Gj rfl (Qy (a := v) (b := u) (c := u1) (d := u2) Tryz.call176 rfl rfl rfl rfl) (k1 _ _ _ _ _ ((Mono.mono exq h)) ((Mono.mono exq h')) ((Mono.mono E4 (Owned.read hO1))) ((Owned.read hO2))) ?_; rintro u3 w5 ⟨E5, hO3⟩; have hs5 := E5.size; refine Gj rfl (Zx (a := u3) Tryz.call175 rfl) (k2 _ _ ((Owned.read hO3))) ?_; rintro _ w6 ⟨u4, rfl, E6, hO4⟩; have hs6 := E6.size; refine Yr u4 rfl<|Ym rfl<|Zv u4 rfl<|Gx rfl<|Ge<|Gv ?_; refine Gz (v := .tuple #[u4, .bool _]) rfl ?_; exact ⟨_, rfl, exq, hO4.toB.o.mono Ka⟩
open Classical in
theorem WithoutSet_ok (w : World) (v u : Value) (p q : List (List Int)) (h : ESl Ints w v p) (h' : ESl Ints w u q) (a b : Nat) (ha : Nod p a) (hb : Nod q b) : Does Tryz.prog 143 [v, .int .i64 (a : Int), u, .int .i64 (b : Int)] w (RetOB w XR (og (wosV p a q b)) (wosV p a q b).isSome) := by
  have la : a < p.length := by have := ha.2; omega
  have lb : b < q.length := by have := hb.2; omega
  have hle := h.le
  have hle' := h'.le
  have n1 : ∀ (w : World) (v : Value), ESl Ints w v p → Does Tryz.prog 118 [v, .int .i64 (a : Int)] w (Ret w (.bool true)) := fun w v h => by
    have := Qi w v p h (a : Int); rwa [decide_eq_true ha] at this
  have n2 : ∀ (w : World) (v : Value), ESl Ints w v q → Does Tryz.prog 118 [v, .int .i64 (b : Int)] w (Ret w (.bool true)) := fun w v h => by
    have := Qi w v q h (b : Int); rwa [decide_eq_true hb] at this
  have c1 : ∀ (w : World) (v : Value), ESl Ints w v p → Does Tryz.prog 119 [v, .int .i64 (a : Int)] w (RetO w XI (ints (arr p a))) := fun w v h => l6Arrows_ok w v p h ha.1.gr a la
  have hal := arr_le ha.1.gr la
  have hail := Ve (arr p a)
  have hp5 := ha.1.2.1
  refine Xc Tryz.func143 rfl Tryz.results143 Tryz.ntmps143 rfl ?_
  focus
    refine Gh<|Zr rfl<|Gx rfl<|Ge<|Gg<|Gh<|Gq v rfl<|Gk rfl<|Gj rfl (Va (a := v) (b := .int _ _) Jx rfl rfl) (n1 _ _ (h)) ?_; rintro _ w1 ⟨rfl, E1⟩; have hs1 := E1.size; refine Zy rfl<|Vd rfl (Zg (v := .bool _) rfl) (fun h1 => ?_) (fun h1 => ?_); contradiction; refine Gq u rfl<|Gk rfl<|Gj rfl (Va (a := u) (b := .int _ _) Jx rfl rfl) (n2 _ _ ((Mono.mono E1 h'))) ?_; rintro _ w2 ⟨rfl, E2⟩; have hs2 := E2.size; refine Zy rfl<|Zw rfl<|Ge<|Vh rfl (fun h2 => ?_) (fun h2 => ?_); contradiction; refine Gn<|Gh<|Vb XInt rfl Ys Kl ?_; rintro b1 w3 hb1 b1lt E3 hO1; have hs3 := E3.size; refine Zr rfl<|Ge<|Gh ?_
    refine Gq v rfl<|Gk rfl<|Gj rfl (Va (a := v) (b := .int _ _) Tryz.call119 rfl rfl) (c1 _ _ ((Mono.mono exq h))) ?_; rintro u1 w4 ⟨E4, hO2⟩; have hs4 := E4.size; refine Zv u1 rfl<|Ge<|Gg<|Gh<|Gw rfl<|Ge<|Gl ?_
  have hO3 : Owned w.heap.size XI w4 (.slice (some ⟨b1, 0, none⟩) 0 0) (ints []) := (hO1.ext E4).mono Ka
  have hBe : Besides (Value.ownBlock (.slice (some ⟨b1, 0, none⟩) 0 0)) Ints w4 u1 (ints (arr p a)) := Besides.start hO1 hO2.above
  clear hO1 hO2
  have E0 : Ext w w4 := by exact (((E1.trans E2).trans E3).trans E4)
  refine Zf [10, 12, 28, 29, 30, 31, 32, 33, 34, 35, 36, 37, 38, 39, 40, 41, 42, 43, 44, 45, 46, 47, 48, 49] (fun ((k, u, L) : Nat × Value × List Nat) => [(12, .int .i64 (k : Nat)), (10, u)]) (fun (k, u, L) w' => Ext w w' ∧ k ≤ (arr p a).length ∧ Owned w.heap.size XI w' u (ints L) ∧ Besides u.ownBlock Ints w' u1 (ints (arr p a)) ∧ L = ((arr p a).take k).filter fun v => !decide (Bis p v q b)) (fun x => (arr p a).length - x.1) (0, .slice (some ⟨b1, 0, none⟩) 0 0, []) Kg ?_ ?_
  · exact ⟨by exact E0, Nat.zero_le _, hO3, hBe, Ki⟩
  clear hO3 hBe
  rintro ⟨k, uk, L⟩ ρj w5 ⟨E5, hk, hO3, hBe, hL⟩
  have hLle : L.length ≤ (arr p a).length := by rw [hL]; exact Nat.le_trans (List.length_filter_le _ _) (by rw [List.length_take]; omega)
  have hLil := Ve L
  by_cases hkl : k < (arr p a).length
  · have hm := Vn ha.1.gr la (List.getElem_mem hkl)
    have hgk : (ints (arr p a))[k]'Ka = ((arr p a)[k] : Int) := Ye hkl
    have hts := Zj _ _ hkl
    have hnk : Nod p ((arr p a)[k] : Nat) := ⟨ha.1, Ka, Ka⟩
    by_cases hB : Bis p (arr p a)[k] q b
    · have k3 : ∀ (w : World) (v u : Value), ESl Ints w v p → ESl Ints w u q → Does Tryz.prog 121 [v, .int .i64 ((ints (arr p a))[k]'Ka), u, .int .i64 (b : Int)] w (Ret w (.bool true)) := fun w v u h1 h2 => by
        have := spec_SameSet_ok w v u p q h1 h2 (((arr p a)[k] : Nat) : Int) (b : Int) hnk hb
        rw [hgk]; simp only [Int.toNat_natCast] at this
        rwa [decide_eq_true hB] at this
      focus
        have szE5 := E5.size; have szE0 := E0.size; have szE4 := E4.size; have szE3 := E3.size; have szE2 := E2.size; have szE1 := E1.size; refine Gg<|Gh<|Gk rfl<|Gq u1 rfl<|Gt Km rfl (Besides.here hBe)<|Gs rfl<|Ge<|Gf rfl (fun h3 => ?_) (fun h3 => ?_); refine Gn<|Gg<|Gl<|Gh<|Gq v rfl<|Gq u1 rfl<|Gk rfl<|Zl Km Kl Ko rfl (fun _ => rfl) rfl (Besides.here hBe) (Ext.refl _) rfl Kf ?_; rintro _ _ rfl; refine Gq u rfl<|Gk rfl<|Gj rfl (Qy (a := v) (b := .int _ _) (c := u) (d := .int _ _) Tryz.call121 rfl rfl rfl rfl) (k3 _ _ _ ((Mono.mono E5 h)) ((Mono.mono E5 h'))) ?_; rintro _ w6 ⟨rfl, E6⟩; have hs5 := E6.size
        refine Zy rfl<|Ge<|Vh rfl (fun h4 => ?_) (fun h4 => ?_); contradiction; refine Gn<|Gy<|Gk rfl<|Ze rfl<|Gw rfl<|Ge ?_; rotate_left; (exfalso; omega)
      refine ⟨((k + 1, uk, L)), Kg, Kh, ?_, ?_⟩
      · refine ⟨by exact (E5.trans E6), Ka, by exact (Mono.mono E6 hO3), by exact (hBe.ext E6), ?_⟩
        rw [hL, hts, List.filter_append]; simp [hB]
      · simp only; omega
    · have k3 : ∀ (w : World) (v u : Value), ESl Ints w v p → ESl Ints w u q → Does Tryz.prog 121 [v, .int .i64 ((ints (arr p a))[k]'Ka), u, .int .i64 (b : Int)] w (Ret w (.bool false)) := fun w v u h1 h2 => by
        have := spec_SameSet_ok w v u p q h1 h2 (((arr p a)[k] : Nat) : Int) (b : Int) hnk hb
        rw [hgk]; simp only [Int.toNat_natCast] at this
        rwa [decide_eq_false hB] at this
      focus
        have szE5 := E5.size; have szE0 := E0.size; have szE4 := E4.size; have szE3 := E3.size; have szE2 := E2.size; have szE1 := E1.size; refine Gg<|Gh<|Gk rfl<|Gq u1 rfl<|Gt Km rfl (Besides.here hBe)<|Gs rfl<|Ge<|Gf rfl (fun h3 => ?_) (fun h3 => ?_); refine Gn<|Gg<|Gl<|Gh<|Gq v rfl<|Gq u1 rfl<|Gk rfl<|Zl Km Kl Ko rfl (fun _ => rfl) rfl (Besides.here hBe) (Ext.refl _) rfl Kf ?_; rintro _ _ rfl; refine Gq u rfl<|Gk rfl<|Gj rfl (Qy (a := v) (b := .int _ _) (c := u) (d := .int _ _) Tryz.call121 rfl rfl rfl rfl) (k3 _ _ _ ((Mono.mono E5 h)) ((Mono.mono E5 h'))) ?_; rintro _ w6 ⟨rfl, E6⟩; have hs5 := E6.size
        refine Zy rfl<|Ge<|Vh rfl (fun h4 => ?_) (fun h4 => ?_); refine Gy<|Gq uk rfl<|Gq u1 rfl<|Gk rfl<|Zl Km Kl Ko rfl (fun _ => rfl) rfl (Besides.here hBe) E6 rfl Kf ?_; rintro _ _ rfl; refine Zi (ps := [(0, .int _ _)]) (cs := [_]) rfl Km Kl Jd rfl rfl rfl rfl ?_; rintro b2 w7 hb2 E7 hB1 hHb2; have hlb2 := hB1.lt; have hs6 := E7.size; refine Vg rfl Ys rfl rfl hB1 (hO3.toB.ext (E6.trans E7)) Owned.int (Nat.le_refl _) Kf Ka Ka ((E5.trans E6).trans E7) Ka ?_; have hT1 := (hO3.toB.ext (E6.trans E7)); rintro v1 w8 hO3 E8 M1; have hBe := (hBe.ext exq).moves M1; have hB1 := hB1.moves M1 hT1 Ka; have hs7 := E8.size; refine Zv v1 rfl<|Ge<|Gy ?_
        refine Gk rfl<|Ze rfl<|Gw rfl<|Ge ?_; rotate_left; contradiction; (exfalso; omega)
      refine ⟨((k + 1, v1, L ++ [(arr p a)[k]])), Kg, Kh, ?_, ?_⟩
      · refine ⟨by exact E8, Ka, ?_, by exact hBe, ?_⟩
        · rw [ints_append, show ints [(arr p a)[k]] = [(ints (arr p a))[k]'Ka] by rw [hgk]; rfl]
          assumption
        · rw [hL, hts, List.filter_append]; simp [hB]
      · simp only; omega
  · obtain rfl : k = (arr p a).length := by omega
    rw [List.take_length] at hL
    have hLm : ∀ x ∈ L, x < p.length := fun x hx => Vn ha.1.gr la (List.mem_filter.1 (hL ▸ hx)).1
    have rL := hO3.read
    have rA := hBe.here
    clear hO3 hBe
    have hpp := ha.1.gr
    have k1 : ∀ (w : World) (v u vl vr : Value), ESl Ints w v p → ESl Ints w u [] → Ints w vl (ints L) → Ints w vr [] → Does Tryz.prog 176 [v, u, vl, vr] w (RetO w XR (put (bes p []) (L ++ ([] : List Nat).map (p.length + ·)))) := fun w v u vl vr h1 h2 h3 h4 =>
      l6Put_ok w v u vl vr p [] _ [] h1 h2 h3 h4 ha.1 (.inr rfl) hLm (fun x hx => by cases hx) Ka Ki
    have k2 : ∀ (w : World) (v : Value), ESl Ints w v (put (bes p []) (L ++ ([] : List Nat).map (p.length + ·))) → Does Tryz.prog 175 [v] w (RetOB w XR (og (wosV p a q b)) (wosV p a q b).isSome) := fun w v h => by
      rw [wosV_eq, ← hL]
      exact l6Least_put w v _ _ h (by rw [bes_nil]; exact hpp) (by rw [bes_nil]; omega)
    focus
      have szE5 := E5.size; have szE0 := E0.size; have szE4 := E4.size; have szE3 := E3.size; have szE2 := E2.size; have szE1 := E1.size; refine Gg<|Gh<|Gk rfl<|Gq u1 rfl<|Gt Km rfl rA<|Gs rfl<|Ge<|Gf rfl (fun h3 => ?_) (fun h3 => ?_); (exfalso; omega); refine Zd ?_; refine Gp ?_; refine Gh<|Gq v rfl<|Vb (XSl 3 XInt) rfl Xa Kr ?_; rintro b2 w6 hb2 b2lt E6 hO1; have hs5 := E6.size; refine Gq uk rfl<|Vb XInt rfl Ys Kl ?_; rintro b3 w7 hb3 b3lt E7 hO2; have hs6 := E7.size; refine Gj rfl (Qy (a := v) (b := .slice _ _ _) (c := uk) (d := .slice _ _ _) Tryz.call176 rfl rfl rfl rfl) (k1 _ _ _ _ _ ((Mono.mono exq h)) ((Mono.mono E7 (Owned.read hO1))) ((Mono.mono exq rL)) ((Owned.read hO2))) ?_
      rintro u2 w8 ⟨E8, hO3⟩; have hs7 := E8.size; refine Gj rfl (Zx (a := u2) Tryz.call175 rfl) (k2 _ _ ((Owned.read hO3))) ?_; rintro _ w9 ⟨u3, rfl, E9, hO4⟩; have hs8 := E9.size; refine Yr u3 rfl<|Ym rfl<|Zv u3 rfl<|Gx rfl<|Ge<|Gv ?_; refine Gz (v := .tuple #[u3, .bool _]) rfl ?_; exact ⟨_, rfl, exq, hO4.toB.o.mono Ka⟩
end Go.Proofs.YtbgpppaljpngmaaGreatDoor
namespace Go.Proofs.YtbgpppaljpngmaaGreatDoor
open Go.Hs
set_option maxRecDepth 10000
set_option maxHeartbeats 4000000
set_option linter.unusedVariables false
set_option linter.unusedSimpArgs false
theorem l11Rows_ok (w : World) (v : Value) (p : List (List Int)) (h : ESl Ints w v p) (hp : p.length ≤ 100) (hr : ∀ r ∈ p, r.length ≤ 100) : Does Tryz.prog 113 [v] w (RetO w XR p) := by
  refine Zb Tryz.func113 rfl Tryz.results113 Tryz.ntmps113 rfl ?_
  focus
    refine Gh<|Zr rfl<|Ge<|Gh<|Vb (XSl 3 XInt) rfl Xa Kr ?_; rintro b1 w1 hb1 b1lt E1 hO1; refine Zr rfl<|Ge<|Gg<|Gh<|Gw rfl<|Ge<|Gl ?_
  refine Zf [3, 4, 6, 7, 8, 9, 10, 11, 12, 13, 14, 15, 16, 17, 18, 19, 20] (fun ((k, u) : Nat × Value) => [(4, .int .i64 (k : Nat)), (3, u)]) (fun (k, u) w' => Ext w w' ∧ k ≤ p.length ∧ Owned w.heap.size XR w' u (p.take k)) (fun x => p.length - x.1) (0, .slice (some ⟨b1, 0, none⟩) 0 0) Kg ?_ ?_
  · exact ⟨by exact E1, Nat.zero_le _, by simpa using hO1⟩
  clear hO1
  rintro ⟨k, u⟩ ρj w2 ⟨E2, hk, hO1⟩
  have hlt' : (p.take k).length = k := by simp; omega
  by_cases hlt : k < p.length
  · have hrl := hr _ (List.getElem_mem hlt)
    have heldS : w = w := rfl
    focus
      have szE2 := E2.size; refine Gg<|Gh<|Gk rfl<|Gq v rfl<|Gt Kn rfl h<|Gs rfl<|Ge<|Gf rfl (fun h1 => ?_) (fun h1 => ?_); refine Gn<|Gg<|Gl<|Gy<|Gq u rfl<|Vb XInt rfl Ys Kl ?_; rintro b2 w3 hb2 b2lt E3 hO2; have hs2 := E3.size; refine Gq v rfl<|Gk rfl<|Zl Kn Kr Kt rfl (fun _ => rfl) rfl h exq rfl Kf ?_; rintro _ u1 hu1; refine Wo_appS rfl Ys rfl rfl (Mono.mono (E2.trans E3) hu1) hO2.toB Kf Ka Ka (E2.trans E3) Ka ?_; have hT1 := hO2.toB; rintro v1 w4 hO2 E4 M1; have hO1 := (hO1.toB.ext E3).moves M1 hT1 Ka; have szM1 := M1.1.size
      refine Vl rfl Kn Kr Ji rfl (OwnedB.isC hO2.toB) rfl ?_; rintro b3 w5 hb3 E6 hB1 hHb3; have hs4 := E6.size; refine Vg rfl Xa rfl rfl hB1 (hO1.ext E6) (hO2.toB.ext E6).o Ka Kf Ka Ka (E4.trans E6) Ka ?_; rintro v2 w6 hO1 E7 M2; refine Zv v2 rfl<|Ge<|Gy<|Gk rfl<|Ze rfl<|Gw rfl<|Ge ?_; rotate_left; (exfalso; omega)
    refine ⟨((k + 1, v2)), Kg, Kh, ?_, ?_⟩
    · refine ⟨by exact E7, Ka, ?_⟩
      rw [Zj _ _ hlt]
      exact hO1
    · simp only; omega
  · obtain rfl : k = p.length := by omega
    rw [List.take_length] at hO1
    focus
      refine Gg<|Gh<|Gk rfl<|Gq v rfl<|Gt Kn rfl h<|Gs rfl<|Ge<|Gf rfl (fun h1 => ?_) (fun h1 => ?_); (exfalso; omega); refine Zd ?_; refine Gp ?_; refine Gg<|Gy<|Gq u rfl<|Zv u rfl<|Ge<|Gv ?_; exact ⟨E2, hO1.toB.o.mono Ka⟩
theorem l11Copy_ok (w : World) (u1 u2 : Value) (now : List (List Int)) (past : List (List (List Int))) (h1 : ESl Ints w u1 now) (h2 : ESl (ESl Ints) w u2 past) (hn : now.length ≤ 100 ∧ ∀ r ∈ now, r.length ≤ 100) (hpl : past.length ≤ 100) (hp : ∀ p ∈ past, p.length ≤ 100 ∧ ∀ r ∈ p, r.length ≤ 100) :
    Does Tryz.prog 60 [.agg #[u1, u2]] w (RetDk w 23 88 3 now past) := by
  have k1 : ∀ (w : World) (v : Value), ESl Ints w v now → Does Tryz.prog 113 [v] w (RetO w XR now) := fun w v h => l11Rows_ok w v now h hn.1 hn.2
  have k2 : ∀ (k : Nat) (hk : k < past.length) (w : World) (v : Value), ESl Ints w v past[k] → Does Tryz.prog 113 [v] w (RetO w XR past[k]) := fun k hk w v h => l11Rows_ok w v _ h (hp _ (List.getElem_mem hk)).1 (hp _ (List.getElem_mem hk)).2
  refine fn_of_Wc Tryz.func60 rfl Tryz.results60 Tryz.ntmps60 rfl Kv Kq ?_
  focus
    refine Gh<|Zu rfl rfl rfl ?_; rintro b1 w1 hb1 E1 hB1; have hlb1 := hB1.lt; refine Zt rfl Vf ?_; rintro b2 w2 hb2 E2 hB2; have hlb2 := hB2.lt; have hs2 := E2.size; refine Ge<|Gh<|Za Ks Ku rfl<|Vc u1 Ky (hB1.ext E2) rfl<|Gj rfl (Zx (a := u1) Tryz.call113 rfl) (k1 _ _ ((Mono.mono exq h1))) ?_; rintro u3 w3 ⟨E3, hO1⟩; have ichO1 := OwnedB.isC (Owned.toB hO1); have hs3 := E3.size; refine Wo rfl (opv_buildF0 Vf rfl (OwnedB.isC hO1.toB))<|Zt rfl Vf ?_; rintro b3 w4 hb3 E4 hB3; have hlb3 := hB3.lt; have hs4 := E4.size; refine Yo rfl Kq rfl rfl Ke Ke hB3 Ka (((E1.trans E2).trans E3).trans E4) ?_; rintro w5 E5 hB3 K1 hz1
    have E6 := ((E2.trans E3).trans E4).wroteAt exq E5 K1 hz1 Ka; have szE6 := E6.size; have E7 := (E3.trans E4).wroteAt exq E5 K1 hz1 Ka; have szE7 := E7.size; have E8 := E4.wroteAt exq E5 K1 hz1 Ka; simp only [List.set] at hB3; have hB1 := (hB1.ext exq).of_heap (K1 _ Ka); have hB2 := (hB2.ext exq).of_heap (K1 _ Ka); have hO1 := (hO1.toB.ext E4).wrote K1 Ka; refine Ge<|Gg<|Gh<|Gw rfl<|Ge<|Gl ?_
  have hO0 : Owned w4.heap.size (XSl 23 XR) w5 (.slice none 0 0) ([] : List (List (List Int))) := Owned.nil
  have hN := hO1
  clear hO1 hB1 hB2 k1
  refine Zf [4, 9, 10, 11, 12, 13, 14, 15, 16, 17, 18, 19, 20, 21, 22, 23, 24, 25, 26] (fun ((k, u) : Nat × Value) => [(4, .int .i64 (k : Nat))]) (fun (k, u) w' => Ext w3 w' ∧ k ≤ past.length ∧ w4.heap.size ≤ w'.heap.size ∧ Blk w' b3 [u3, u] ∧ Owned w4.heap.size (XSl 23 XR) w' u (past.take k) ∧ OwnedB w2.heap.size w3.heap.size XR w' u3 now) (fun x => past.length - x.1) (0, .slice none 0 0) Kg ?_ ?_
  · exact ⟨by exact E8, Nat.zero_le _, Ka, hB3, by simpa using hO0, hN⟩
  clear hO0 hB3 hN
  rintro ⟨k, u⟩ ρj w6 ⟨E6, hk, hsz, hB4, hO1, hN⟩
  have icu : isCell u = true := OwnedB.isC hO1.toB
  have hlt' : (past.take k).length = k := by simp; omega
  by_cases hlt : k < past.length
  · have k2k := k2 k hlt
    have ht := Zj _ _ hlt
    have heldS : w = w := rfl
    focus
      have szE5 := E5.size; have szE4 := E4.size; refine Gg<|Gg<|Gy<|Gk rfl<|Za Ks Kw rfl<|Vc u2 Ja (hB1.ext exq) rfl<|Gt Kx rfl h2<|Gs rfl<|Ge<|Gf rfl (fun h3 => ?_) (fun h3 => ?_); refine Gn<|Gg<|Gl<|Ra (fun w' => Ext w w') Vt rfl Kb ?_; intro w7 E9 K2 hz2; have hs5 := E9.size; refine Wtfld 0 Ks Kw rfl rfl exq<|Wtfld 2 Ks Kw rfl rfl exq<|WtmI 4 rfl rfl exq<|Wha [1, 3]<|Zc rfl ?_ ?_; refine Vc u Ja (hB4.ext E9) rfl<|Ge ?_; refine ⟨exq, ?_⟩; refine Wha [3]<|Zc rfl ?_ ?_; refine Vc u2 Ja (hB1.ext exq) rfl<|Ge ?_; refine ⟨exq, ?_⟩
      refine Wh_get 5 6 rfl Kb Kb rfl rfl Kb Kb (fun _ => rfl) Kx Ku Ky rfl h2 (fun w' hw' => Ext.trans (Ext.refl _) hw') rfl Kf exq ?_; rintro _ u4 hu1; refine Wha [7]<|Zc rfl ?_ ?_; refine Gj rfl (Zx (a := u4) Tryz.call113 rfl) (k2k _ _ ((Mono.mono exq hu1))) ?_; rintro u5 w8 ⟨E10, hO2⟩; have hs6 := E10.size; refine Ge ?_; refine ⟨exq, ?_⟩; refine Wha [8]<|Zc rfl ?_ ?_; refine Vl rfl Kx Ku Jm rfl (OwnedB.isC hO2.toB) rfl ?_; rintro b4 w9 hb4 E11 hB5 hHb4; have hlb4 := hB5.lt; have hs7 := E11.size; refine Ge ?_; refine ⟨exq, ?_⟩; refine Wha [9]<|Zc rfl ?_ ?_
      refine Vg rfl el24 rfl rfl hB5 (hO1.toB.ext ((E9.trans E10).trans E11)) (hO2.toB.ext E11).o Ka Kf Ka Ka ((((((E1.trans E2).trans E3).trans E6).trans E9).trans E10).trans E11) Ka ?_; have hT1 := (hO1.toB.ext ((E9.trans E10).trans E11)); rintro v1 w10 hO1 E12 M1; have E15 := M1.ext hT1 (((E6.trans E9).trans E10).trans E11) Ka; have hB4 := (hB4.ext exq).moves M1 hT1 Ka; have hN := (hN.ext exq).moves M1 hT1 Ka; have szM1 := M1.1.size; refine Ge ?_; refine ⟨E12, ?_⟩; refine Wtfld 10 Ks Kw rfl rfl E12<|Wha [11]<|Zc rfl ?_ ?_; refine Yk (v := v1) rfl Kw rfl rfl (OwnedB.isC hO1.toB) hB4 Ki Ka E12 ?_; rintro w11 E16 hB4 K3 hz3; have E19 := E15.wroteAt E12 E16 K3 hz3 Ka; simp only [List.set] at hB4; have hO1 := hO1.toB.wrote K3 Ka
      have hN := hN.wrote K3 Ka; refine Ge ?_; refine ⟨E16, ?_⟩; refine Yp Kb ?_; refine Gy<|Gk rfl<|Ze rfl<|Gw rfl<|Ge ?_; rotate_left; exact Zh; exact Zh; exact Zh; exact Zh; exact Zh; refine Zc rfl ?_ ?_; refine Vc u2 Ja (hB1.ext exq) rfl<|Ge ?_; refine ⟨exq, ?_⟩; refine Wh_get 5 6 rfl Kb Kb rfl rfl Kb Kb (fun _ => rfl) Kx Ku Ky rfl h2 (fun w' hw' => Ext.trans (Ext.refl _) hw') rfl Kf exq ?_; rintro _ u4 hu1; refine Wha [1, 7]<|Zc rfl ?_ ?_; refine Vc u Ja (hB4.ext E9) rfl<|Ge ?_; refine ⟨exq, ?_⟩; refine Wha [7]<|Zc rfl ?_ ?_
      refine Gj rfl (Zx (a := u4) Tryz.call113 rfl) (k2k _ _ ((Mono.mono exq hu1))) ?_; rintro u5 w8 ⟨E10, hO2⟩; have hs6 := E10.size; refine Ge ?_; refine ⟨exq, ?_⟩; refine Wha [8]<|Zc rfl ?_ ?_; refine Vl rfl Kx Ku Jm rfl (OwnedB.isC hO2.toB) rfl ?_; rintro b4 w9 hb4 E11 hB5 hHb4; have hlb4 := hB5.lt; have hs7 := E11.size; refine Ge ?_; refine ⟨exq, ?_⟩; refine Wha [9]<|Zc rfl ?_ ?_; refine Vg rfl el24 rfl rfl hB5 (hO1.toB.ext ((E9.trans E10).trans E11)) (hO2.toB.ext E11).o Ka Kf Ka Ka ((((((E1.trans E2).trans E3).trans E6).trans E9).trans E10).trans E11) Ka ?_; have hT1 := (hO1.toB.ext ((E9.trans E10).trans E11)); rintro v1 w10 hO1 E12 M1; have E15 := M1.ext hT1 (((E6.trans E9).trans E10).trans E11) Ka
      have hB4 := (hB4.ext exq).moves M1 hT1 Ka; have hN := (hN.ext exq).moves M1 hT1 Ka; have szM1 := M1.1.size; refine Ge ?_; refine ⟨E12, ?_⟩; refine Wtfld 10 Ks Kw rfl rfl E12<|Wha [11]<|Zc rfl ?_ ?_; refine Yk (v := v1) rfl Kw rfl rfl (OwnedB.isC hO1.toB) hB4 Ki Ka E12 ?_; rintro w11 E16 hB4 K3 hz3; have E19 := E15.wroteAt E12 E16 K3 hz3 Ka; simp only [List.set] at hB4; have hO1 := hO1.toB.wrote K3 Ka; have hN := hN.wrote K3 Ka; refine Ge ?_; refine ⟨E16, ?_⟩; refine Yp Kb ?_; refine Gy<|Gk rfl<|Ze rfl<|Gw rfl<|Ge ?_; rotate_left; exact Zh; exact Zh; exact Zh; exact Zh; refine Zc rfl ?_ ?_
      refine Gj rfl (Zx (a := u4) Tryz.call113 rfl) (k2k _ _ ((Mono.mono exq hu1))) ?_; rintro u5 w8 ⟨E10, hO2⟩; have hs6 := E10.size; refine Ge ?_; refine ⟨exq, ?_⟩; refine Wha [1, 8]<|Zc rfl ?_ ?_; refine Vc u Ja (hB4.ext exq) rfl<|Ge ?_; refine ⟨exq, ?_⟩; refine Wha [8]<|Zc rfl ?_ ?_; refine Vl rfl Kx Ku Jm rfl (OwnedB.isC hO2.toB) rfl ?_; rintro b4 w9 hb4 E11 hB5 hHb4; have hlb4 := hB5.lt; have hs7 := E11.size; refine Ge ?_; refine ⟨exq, ?_⟩; refine Wha [9]<|Zc rfl ?_ ?_; refine Vg rfl el24 rfl rfl hB5 (hO1.toB.ext ((E9.trans E10).trans E11)) (hO2.toB.ext E11).o Ka Kf Ka Ka ((((((E1.trans E2).trans E3).trans E6).trans E9).trans E10).trans E11) Ka ?_
      have hT1 := (hO1.toB.ext ((E9.trans E10).trans E11)); rintro v1 w10 hO1 E12 M1; have E15 := M1.ext hT1 (((E6.trans E9).trans E10).trans E11) Ka; have hB4 := (hB4.ext exq).moves M1 hT1 Ka; have hN := (hN.ext exq).moves M1 hT1 Ka; have szM1 := M1.1.size; refine Ge ?_; refine ⟨E12, ?_⟩; refine Wtfld 10 Ks Kw rfl rfl E12<|Wha [11]<|Zc rfl ?_ ?_; refine Yk (v := v1) rfl Kw rfl rfl (OwnedB.isC hO1.toB) hB4 Ki Ka E12 ?_; rintro w11 E16 hB4 K3 hz3; have E19 := E15.wroteAt E12 E16 K3 hz3 Ka; simp only [List.set] at hB4; have hO1 := hO1.toB.wrote K3 Ka; have hN := hN.wrote K3 Ka; refine Ge ?_; refine ⟨E16, ?_⟩; refine Yp Kb ?_; refine Gy<|Gk rfl<|Ze rfl<|Gw rfl ?_
      refine Ge ?_; rotate_left; exact Zh; exact Zh; exact Zh; refine Zc rfl ?_ ?_; refine Vl rfl Kx Ku Jm rfl (OwnedB.isC hO2.toB) rfl ?_; rintro b4 w9 hb4 E11 hB5 hHb4; have hlb4 := hB5.lt; have hs7 := E11.size; refine Ge ?_; refine ⟨exq, ?_⟩; refine Wha [1]<|Zc rfl ?_ ?_; refine Vc u Ja (hB4.ext exq) rfl<|Ge ?_; refine ⟨exq, ?_⟩; refine Wha [9]<|Zc rfl ?_ ?_; refine Vg rfl el24 rfl rfl hB5 (hO1.toB.ext ((E9.trans E10).trans E11)) (hO2.toB.ext E11).o Ka Kf Ka Ka ((((((E1.trans E2).trans E3).trans E6).trans E9).trans E10).trans E11) Ka ?_; have hT1 := (hO1.toB.ext ((E9.trans E10).trans E11)); rintro v1 w10 hO1 E12 M1; have E15 := M1.ext hT1 (((E6.trans E9).trans E10).trans E11) Ka
      have hB4 := (hB4.ext exq).moves M1 hT1 Ka; have hN := (hN.ext exq).moves M1 hT1 Ka; have szM1 := M1.1.size; refine Ge ?_; refine ⟨E12, ?_⟩; refine Wtfld 10 Ks Kw rfl rfl E12<|Wha [11]<|Zc rfl ?_ ?_; refine Yk (v := v1) rfl Kw rfl rfl (OwnedB.isC hO1.toB) hB4 Ki Ka E12 ?_; rintro w11 E16 hB4 K3 hz3; have E19 := E15.wroteAt E12 E16 K3 hz3 Ka; simp only [List.set] at hB4; have hO1 := hO1.toB.wrote K3 Ka; have hN := hN.wrote K3 Ka; refine Ge ?_; refine ⟨E16, ?_⟩; refine Yp Kb ?_; refine Gy<|Gk rfl<|Ze rfl<|Gw rfl<|Ge ?_; rotate_left; exact Zh; exact Zh; exact Zh; exact Zh; exact Zh; exact Zh; (exfalso; omega)
    · refine ⟨((k + 1, v1)), Kg, Kh, ?_, ?_⟩
      · refine ⟨by exact E19, Ka, Ka, hB4, ?_, hN⟩
        rw [ht]; exact hO1.o
      · simp only; omega
    · refine ⟨((k + 1, v1)), Kg, Kh, ?_, ?_⟩
      · refine ⟨by exact E19, Ka, Ka, hB4, ?_, hN⟩
        rw [ht]; exact hO1.o
      · simp only; omega
    · refine ⟨((k + 1, v1)), Kg, Kh, ?_, ?_⟩
      · refine ⟨by exact E19, Ka, Ka, hB4, ?_, hN⟩
        rw [ht]; exact hO1.o
      · simp only; omega
    · refine ⟨((k + 1, v1)), Kg, Kh, ?_, ?_⟩
      · refine ⟨by exact E19, Ka, Ka, hB4, ?_, hN⟩
        rw [ht]; exact hO1.o
      · simp only; omega
  · obtain rfl : k = past.length := by omega
    rw [List.take_length] at hO1
    focus
      have szE6 := E6.size; have szE4 := E4.size; refine Gg<|Gg<|Gy<|Gk rfl<|Za Ks Kw rfl<|Vc u2 Ja (hB1.ext exq) rfl<|Gt Kx rfl h2<|Gs rfl<|Ge<|Gf rfl (fun h3 => ?_) (fun h3 => ?_); (exfalso; omega); refine Zd ?_; refine Gp ?_; refine Gh<|Vp Kv Kq hB4 rfl<|Yo rfl Kq rfl rfl Ke Ke (hB2.ext (E3.trans E6)) Ka (((E1.trans E2).trans E3).trans E6) ?_; rintro w7 E9 hB2 K2 hz2; have hN := hN.wrote K2 Ka; have hO1 := hO1.toB.wrote K2 Ka; refine Ge<|Gv ?_
    refine ⟨b2, u3, u, rfl, Kd, u3, u, w3.heap.size, rfl, by exact E9, ?_, hO1.o.mono Ka, Ka, Ka⟩
    exact hN.wide Ka (Nat.le_refl _)
end Go.Proofs.YtbgpppaljpngmaaGreatDoor
namespace Go.Proofs.YtbgpppaljpngmaaGreatDoor
open Go.Hs
set_option maxRecDepth 10000
set_option maxHeartbeats 4000000
set_option linter.unusedVariables false
set_option linter.unusedSimpArgs false
theorem spec_ReadPicture_ok (w : World) (s : List UInt8) (hs : s.length ≤ 1048576) : Does Tryz.prog 122 [str s] w (RetOB w XR ((rdP s).getD []) (rdP s).isSome) := by
  obtain ⟨ps, hps⟩ : ∃ ps, ps = cutB 47 s := ⟨_, rfl⟩
  have k1 : ∀ w, Does Tryz.prog 70 [str s, .int .u8 47] w (RetO w XS ps) := fun w => hps ▸ l1Cut_ok w s 47 hs
  have hpl : ps.length ≤ 1048577 := by rw [hps, cutB_len]; have := List.count_le_length (a := (47 : UInt8)) (l := s); omega
  have hpe : ∀ (k : Nat) (hk : k < ps.length), ps[k].length ≤ 1048576 := fun k hk => by
    have : ps[k] ∈ cutB 47 s := hps ▸ List.getElem_mem hk
    have := Qz s.length s (Nat.le_refl _) _ this; omega
  refine Xc Tryz.func122 rfl Tryz.results122 Tryz.ntmps122 rfl ?_
  focus
    refine Gh<|Zr rfl<|Gx rfl<|Ge<|Gh<|Vb (XSl 3 XInt) rfl Xa Kr ?_; rintro b1 w1 hb1 b1lt E1 hO1; refine Zr rfl<|Ge<|Gh<|Qg rfl<|Gj rfl (Va (a := .string _) (b := .int _ _) Tryz.call70 rfl rfl) (k1 _) ?_; rintro u1 w2 ⟨E2, hO2⟩; refine Zv u1 rfl<|Ge<|Gg<|Gh<|Gw rfl<|Ge<|Gl ?_
  have hBe : Besides (Value.ownBlock (.slice (some ⟨b1, 0, none⟩) 0 0)) Strs w2 u1 ps := Besides.start hO1 hO2.above
  refine Zf [2, 3, 4, 6, 7, 8, 9, 13, 14, 15, 16, 17, 18, 19, 20, 21, 22, 23, 24, 25, 26, 27, 28, 29, 30, 31, 32, 33, 34, 35, 36, 37, 38, 39, 40, 41, 42, 43, 44, 45, 46, 47, 48, 49, 50, 51, 52] (fun (k, u) => [(6, .int .i64 (k : Nat)), (4, u)]) (fun (k, u) w' => Ext w w' ∧ k ≤ ps.length ∧ Owned w.heap.size XR w' u ((ps.take k).map (rowB ps.length)) ∧ Besides u.ownBlock Strs w' u1 ps ∧ ∀ x ∈ ps.take k, inR ps.length x) (fun x => ps.length - x.1) (0, .slice (some ⟨b1, 0, none⟩) 0 0) Kg ?_ ?_
  · exact ⟨E1.trans E2, Nat.zero_le _, hO1.ext E2, hBe, Ki⟩
  clear hO1 hO2 hBe
  rintro ⟨k, u⟩ ρj w3 ⟨E3, hk, hO3, hBe, hin⟩
  by_cases hkl : k < ps.length
  · have hpk := hpe k hkl
    focus
      have szE3 := E3.size; refine Gg<|Gh<|Gk rfl<|Gq u1 rfl<|Gt Jf rfl (Besides.here hBe)<|Gs rfl<|Ge<|Gf rfl (fun h1 => ?_) (fun h1 => ?_); refine Gn<|Gg<|Gl<|Gh<|Gq u1 rfl<|Gt Jf rfl (Besides.here hBe)<|Qn rfl Ys rfl Ka ?_; rintro b2 w4 hb2 b2lt E4 hO1; refine Zr rfl<|Ge<|Gg<|Gh<|Gw rfl<|Ge<|Gl ?_; rotate_left; (exfalso; omega)
    refine Zf [2, 3, 8, 9, 22, 23, 24, 25, 26, 27, 28, 29, 30, 31, 32, 33, 34, 35, 36, 37, 38, 39, 40, 41, 42, 43, 44, 45, 46, 47, 48] (fun (j : Nat) => [(8, .int .i64 (j : Nat))]) (fun j w' => Ext w3 w' ∧ j ≤ ps[k].length ∧ Owned w3.heap.size XI w' (.slice (some ⟨b2, 0, none⟩) ps.length ps.length) (rowB ps.length (ps[k].take j)) ∧ inR ps.length (ps[k].take j)) (fun j => ps[k].length - j) 0 Kg ?_ ?_
    · refine ⟨Kd, Nat.zero_le _, ?_, fun c hc => by cases hc⟩
      rw [List.take_zero, rowB_nil]
      simpa using hO1
    clear hO1
    rintro j ρk w5 ⟨E5, hj, hO5, hir⟩
    have hrl : (rowB ps.length (ps[k].take j)).length = ps.length := Uz
    by_cases hjl : j < ps[k].length
    · have hc8 : (ps[k].getD j 0).toNat < 256 := UInt8.toNat_lt _
      have hcd : ps[k].getD j 0 = ps[k][j] := Zn hjl
      have hts : ps[k].take (j + 1) = ps[k].take j ++ [ps[k].getD j 0] := by rw [hcd]; exact List.take_succ_eq_append_getElem hjl
      have hmem : ps[k] ∈ cutB 47 s := hps ▸ List.getElem_mem hkl
      have hnl : (ps.length : Int) = (cutB 47 s).length := by rw [hps]
      by_cases hr : 48 ≤ (ps[k].getD j 0).toNat ∧ (ps[k].getD j 0).toNat < 48 + ps.length
      · focus
          have szE5 := E5.size; refine Gg<|Gh<|Gk rfl<|Gq u1 rfl<|Gk rfl<|Zl Jf Kz Jb rfl (fun _ => rfl) rfl (Besides.here hBe) E5 rfl Kf ?_; rintro _ _ ⟨rfl, -⟩; refine Wo rfl (Ua Jj rfl)<|Gs rfl<|Ge<|Gf rfl (fun h2 => ?_) (fun h2 => ?_); refine Gn<|Gg<|Gl<|Gh<|Gq u1 rfl<|Gk rfl<|Zl Jf Kz Jb rfl (fun _ => rfl) rfl (Besides.here hBe) E5 rfl Kf ?_; rintro _ _ ⟨rfl, -⟩; refine Gk rfl<|Wo rfl (Xu Jj rfl rfl Ka) ?_; refine Wo rfl (Qe Jp Ju rfl Ka) ?_; refine Xz rfl<|Gw rfl<|Ge<|Gg<|Gh<|Gk rfl<|Gq u1 rfl ?_
          refine Gt Jf rfl (Besides.here hBe)<|Xz rfl<|Gj rfl (opc3 (a := .int _ _) (b := .int _ _) (c := .int _ _) Jk rfl rfl rfl) (Xv _ _ _ _) ?_; rintro _ w6 ⟨rfl, E6⟩; refine Zy rfl<|Ge<|Zk rfl (fun h3 => ?_) (fun h3 => ?_); (exfalso; omega); refine Gn<|Gy<|Yc rfl<|Gk rfl<|Wo rfl (Ya Km Kl rfl rfl Ka) ?_; refine Rg rfl Kl rfl rfl (hO5.toB.ext E6) Kf Owned.int (Nat.le_refl _) Ka ?_; rintro w7 hO5 On1 K1 hz1; have E7 := On1.ext1 ((E3.trans E5).trans E6) Ka; have E8 := On1.ext1 (E5.trans E6) Ka; have szE8 := E8.size; have hO3 := (hO3.toB.ext exq).wrote K1 Ka; have hs5 := On1.size; refine Ge<|Gy<|Gk rfl<|Ze rfl<|Gw rfl<|Ge ?_; rotate_left
          (exfalso; omega)
        · refine ⟨(j + 1), Kg, Kh, ?_, ?_⟩
          · refine ⟨Kd, Ka, ?_, ?_⟩
            · rw [rowB_set (c := ps[k].getD j 0) Ka Ka, ← hts] at hO5
              exact hO5
            · rw [hts]
              intro c hc
              rcases List.mem_append.1 hc with hc | hc
              · exact hir c hc
              · obtain rfl := List.mem_singleton.1 hc; exact hr
          · omega
        all_goals omega
      · rw [rd_no1 hmem (List.getElem_mem hjl) (fun h => hr (by rw [hcd]; omega))]
        focus
          have szE5 := E5.size; refine Gg<|Gh<|Gk rfl<|Gq u1 rfl<|Gk rfl<|Zl Jf Kz Jb rfl (fun _ => rfl) rfl (Besides.here hBe) E5 rfl Kf ?_; rintro _ _ ⟨rfl, -⟩; refine Wo rfl (Ua Jj rfl)<|Gs rfl<|Ge<|Gf rfl (fun h2 => ?_) (fun h2 => ?_); refine Gn<|Gg<|Gl<|Gh<|Gq u1 rfl<|Gk rfl<|Zl Jf Kz Jb rfl (fun _ => rfl) rfl (Besides.here hBe) E5 rfl Kf ?_; rintro _ _ ⟨rfl, -⟩; refine Gk rfl<|Wo rfl (Xu Jj rfl rfl Ka) ?_; refine Wo rfl (Qe Jp Ju rfl Ka) ?_; refine Xz rfl<|Gw rfl<|Ge<|Gg<|Gh<|Gk rfl<|Gq u1 rfl ?_
          refine Gt Jf rfl (Besides.here hBe)<|Xz rfl<|Gj rfl (opc3 (a := .int _ _) (b := .int _ _) (c := .int _ _) Jk rfl rfl rfl) (Xv _ _ _ _) ?_; rintro _ w6 ⟨rfl, E6⟩; have hs4 := E6.size; refine Zy rfl<|Ge<|Zk rfl (fun h3 => ?_) (fun h3 => ?_); refine Gh<|Vb (XSl 3 XInt) rfl Xa Kr ?_; rintro b3 w7 hb3 b3lt E7 hO1; refine Zr rfl<|Gx rfl<|Ge<|Gv ?_; refine Gz (v := .tuple #[.slice _ _ _, .bool _]) rfl ?_; exact ⟨_, rfl, exq, hO1.toB.o.mono Ka⟩; (exfalso; omega); (exfalso; omega)
        all_goals omega
    · obtain rfl : j = ps[k].length := by omega
      rw [List.take_length] at hO5 hir
      focus
        have szE5 := E5.size; have szE3 := E3.size; refine Gg<|Gh<|Gk rfl<|Gq u1 rfl<|Gk rfl<|Zl Jf Kz Jb rfl (fun _ => rfl) rfl (Besides.here hBe) E5 rfl Kf ?_; rintro _ _ ⟨rfl, -⟩; refine Wo rfl (Ua Jj rfl)<|Gs rfl<|Ge<|Gf rfl (fun h2 => ?_) (fun h2 => ?_); (exfalso; omega); refine Zd ?_; refine Gp ?_; refine Gy<|Gq u rfl<|Yc rfl<|Vz (ps := [(0, .slice _ _ _)]) (cs := [_]) rfl Kn Kr Ji rfl rfl rfl rfl ?_; rintro b3 w6 hb3 E6 hB1; have hs4 := E6.size; refine Vg rfl Xa rfl rfl hB1 (hO3.toB.ext (E5.trans E6)) (hO5.toB.ext E6).o Ka Kf Ka Ka ((E3.trans E5).trans E6) Ka ?_
        rintro v1 w7 hO3 E7 M1; have hBe := (hBe.ext exq).moves M1; refine Wo rfl (Vk (v := v1) rfl)<|Ge<|Yd rfl<|Wo rfl (Zg (v := .int _ _) rfl)<|Wo rfl (Xx rfl rfl Ka) ?_; refine Wo rfl (Vk (v := .int _ _) rfl)<|Ge ?_
      refine ⟨((k + 1, v1)), Kg, Kh, ?_, ?_⟩
      · have hts : ps.take (k + 1) = ps.take k ++ [ps[k]] := List.take_succ_eq_append_getElem hkl
        refine ⟨Kd, Ka, ?_, Kd, ?_⟩
        · rw [hts, List.map_append]; exact hO3
        · rw [hts]
          intro x hx
          rcases List.mem_append.1 hx with hx | hx
          · exact hin x hx
          · obtain rfl := List.mem_singleton.1 hx; exact hir
      · simp only; omega
  · obtain rfl : k = ps.length := by omega
    have eM : ps.map (rowB ps.length) = rdM s := by rw [hps]; rfl
    rw [List.take_length, eM] at hO3
    clear k1
    by_cases hP : Pic (rdM s)
    · by_cases hT : txt (rdM s) = s
      · rw [rd_yes hP hT]
        have k2 : ∀ w v, ESl Ints w v (rdM s) → Does Tryz.prog 115 [v] w (Ret w (.bool true)) := fun w v h => by
          have := Yf w v _ h
          rwa [decide_eq_true hP] at this
        have k3 : ∀ w v, ESl Ints w v (rdM s) → Does Tryz.prog 62 [v] w (Ret w (str s)) := fun w v h => by
          have := Vx w v _ h
          rwa [if_pos hP, hT] at this
        focus
          refine Gg<|Gh<|Gk rfl<|Gq u1 rfl<|Gt Jf rfl (Besides.here hBe)<|Gs rfl<|Ge<|Gf rfl (fun h1 => ?_) (fun h1 => ?_); (exfalso; omega); refine Zd ?_; refine Gp ?_; refine Gg<|Gh<|Gq u rfl<|Gj rfl (Zx (a := u) Jl rfl) (k2 _ _ ((Owned.read hO3))) ?_; rintro _ w4 ⟨rfl, E4⟩; refine Zy rfl<|Vd rfl (Zg (v := .bool _) rfl) (fun h2 => ?_) (fun h2 => ?_); contradiction; refine Gq u rfl<|Gj rfl (Zx (a := u) Jn rfl) (k3 _ _ ((Mono.mono E4 (Owned.read hO3)))) ?_; rintro _ w5 ⟨rfl, E5⟩; refine Qg rfl<|Wo rfl (Yq rfl rfl)<|Zw rfl<|Ge<|Zk rfl (fun h3 => ?_) (fun h3 => ?_); contradiction; refine Gn<|Gh<|Gq u rfl<|Zv u rfl<|Gx rfl<|Ge<|Gv ?_; refine Gz (v := .tuple #[u, .bool _]) rfl ?_
          exact ⟨_, rfl, exq, (hO3.toB.ext exq).o.mono Ka⟩
      · rw [rd_no3 hT]
        have k2 : ∀ w v, ESl Ints w v (rdM s) → Does Tryz.prog 115 [v] w (Ret w (.bool true)) := fun w v h => by
          have := Yf w v _ h
          rwa [decide_eq_true hP] at this
        have k3 : ∀ w v, ESl Ints w v (rdM s) → Does Tryz.prog 62 [v] w (Ret w (str (txt (rdM s)))) := fun w v h => by
          have := Vx w v _ h
          rwa [if_pos hP] at this
        focus
          have szE3 := E3.size; refine Gg<|Gh<|Gk rfl<|Gq u1 rfl<|Gt Jf rfl (Besides.here hBe)<|Gs rfl<|Ge<|Gf rfl (fun h1 => ?_) (fun h1 => ?_); (exfalso; omega); refine Zd ?_; refine Gp ?_; refine Gg<|Gh<|Gq u rfl<|Gj rfl (Zx (a := u) Jl rfl) (k2 _ _ ((Owned.read hO3))) ?_; rintro _ w4 ⟨rfl, E4⟩; have hs3 := E4.size; refine Zy rfl<|Vd rfl (Zg (v := .bool _) rfl) (fun h2 => ?_) (fun h2 => ?_); contradiction; refine Gq u rfl<|Gj rfl (Zx (a := u) Jn rfl) (k3 _ _ ((Mono.mono E4 (Owned.read hO3)))) ?_; rintro _ w5 ⟨rfl, E5⟩; have hs4 := E5.size; refine Qg rfl<|Wo rfl (Yq rfl rfl)<|Zw rfl<|Ge<|Zk rfl (fun h3 => ?_) (fun h3 => ?_); refine Gh<|Vb (XSl 3 XInt) rfl Xa Kr ?_
          rintro b2 w6 hb2 b2lt E6 hO1; refine Zr rfl<|Gx rfl<|Ge<|Gv ?_; refine Gz (v := .tuple #[.slice _ _ _, .bool _]) rfl ?_; exact ⟨_, rfl, exq, hO1.toB.o.mono Ka⟩; contradiction
    · rw [rd_no2 hP]
      have k2 : ∀ w v, ESl Ints w v (rdM s) → Does Tryz.prog 115 [v] w (Ret w (.bool false)) := fun w v h => by
        have := Yf w v _ h
        rwa [decide_eq_false hP] at this
      focus
        have szE3 := E3.size; refine Gg<|Gh<|Gk rfl<|Gq u1 rfl<|Gt Jf rfl (Besides.here hBe)<|Gs rfl<|Ge<|Gf rfl (fun h1 => ?_) (fun h1 => ?_); (exfalso; omega); refine Zd ?_; refine Gp ?_; refine Gg<|Gh<|Gq u rfl<|Gj rfl (Zx (a := u) Jl rfl) (k2 _ _ ((Owned.read hO3))) ?_; rintro _ w4 ⟨rfl, E4⟩; have hs3 := E4.size; refine Zy rfl<|Vd rfl (Zg (v := .bool _) rfl) (fun h2 => ?_) (fun h2 => ?_); refine Gi rfl<|Gi rfl<|Gi rfl<|Gi rfl<|Vr rfl<|Ge<|Vj rfl ?_; refine Gh<|Vb (XSl 3 XInt) rfl Xa Kr ?_; rintro b2 w5 hb2 b2lt E5 hO1; refine Zr rfl<|Gx rfl<|Ge<|Gv ?_; refine Gz (v := .tuple #[.slice _ _ _, .bool _]) rfl ?_; exact ⟨_, rfl, exq, hO1.toB.o.mono Ka⟩; contradiction
end Go.Proofs.YtbgpppaljpngmaaGreatDoor
namespace Go.Proofs.YtbgpppaljpngmaaGreatDoor
open Go.Hs
set_option maxRecDepth 10000
set_option maxHeartbeats 4000000
set_option linter.unusedVariables false
set_option linter.unusedSimpArgs false
theorem Ri : Flat Tryz.prog 48 [.int .i64 0, str [], .int .i64 0] := ⟨_, Tryz.underlying48, fun _ => Kb, fun _ => Kb⟩
theorem opv_eqD {ρ : Env} {w : World} {x y : Operand} {t' ty : TypeId} {k n k' n' : Int} {a b : List UInt8} (hx : evalE ρ x = .agg #[.int .i64 k, str a, .int .i64 n]) (hy : evalE ρ y = .agg #[.int .i64 k', str b, .int .i64 n']) :
    OpV Tryz.prog (.binOp .eql 48 x y t') ty ρ w (.bool (decide ((⟨k, a, n⟩ : Deed) = ⟨k', b, n'⟩))) := by
  have u3 := Tryz.underlying3
  have a3 := Tryz.isAgg3
  have z3 := Tryz.sizeOf3
  have u9 := Tryz.underlying9
  have a9 := Tryz.isAgg9
  have z9 := Tryz.sizeOf9
  have hS : Tryz.prog.underlying 48 = some (.struct (Tryz.prog.fieldsOf 48)) := Kb
  have hp : Tryz.prog.stoodInHeld 48 = false := Kb
  have hg : Tryz.prog.eqGuardType Tryz.prog.depth 48 = false := Kb
  have e : ((binOp .eql 48 (.agg #[.int .i64 k, str a, .int .i64 n]) (.agg #[.int .i64 k', str b, .int .i64 n'])).run Tryz.prog w) = .ok (.bool (decide ((⟨k, a, n⟩ : Deed) = ⟨k', b, n'⟩))) w := by
    rw [run_eql_struct, show (10000 : Nat) = 9999 + 1 from rfl, run_equalIn_agg w 9999 48 _ _ hS hp]
    simp only [Program.fieldsOf, Tryz.underlying48]
    go_simp
    by_cases h1 : k = k' <;> by_cases h2 : a = b <;> by_cases h3 : n = n' <;> simp [h1, h2, h3]
  simp [OpV, execOp, hx, hy, run_eqGuard_agg, hg, e]
theorem szDeed_ok (w : World) (k n : Int) (t : List UInt8) (ht : t.length ≤ 9223372036854775807) (left : Int) (hl : 0 ≤ left ∧ left ≤ 1048576) :
    Does Tryz.prog 40 [.agg #[.int .i64 k, str t, .int .i64 n], .int .i64 left] w (RetX w (Value.int .i64) (fun z _ => z = -1 ∨ (0 ≤ z ∧ z = left - t.length ∧ t.length ≤ 1048576))) := by
  refine Zb Tryz.func40 rfl Tryz.results40 Tryz.ntmps40 rfl ?_
  focus
    refine Gh<|Zu rfl rfl rfl ?_; rintro b1 w1 hb1 E1 hB1; refine Gw rfl<|Ge<|Gg<|Gy<|Gk rfl<|Za Tryz.underlying55 Kz rfl<|Yl Jb hB1 rfl<|Wo rfl (Ua Jj rfl)<|Xz rfl<|Gw rfl<|Ge<|Gg<|Gh<|Gk rfl<|Gs rfl<|Ge<|Gf rfl (fun h1 => ?_) (fun h1 => ?_); refine Gh<|Gw rfl<|Ge<|Gv ?_; refine Gz (v := .int _ _) rfl ?_; refine ⟨E1, _, rfl, ?_⟩; (try dsimp only); rotate_left; refine Gn<|Gg<|Gy<|Gk rfl<|Gw rfl<|Ge<|Gv ?_; refine Gz (v := .int _ _) rfl ?_; refine ⟨E1, _, rfl, ?_⟩; (try dsimp only); rotate_left
  · exact .inl rfl
  · exact .inr ⟨Ka, rfl, Ka⟩
theorem eqDeed_ok (w : World) (k n k' n' : Int) (t t' : List UInt8) :
    Does Tryz.prog 98 [.agg #[.int .i64 k, str t, .int .i64 n], .agg #[.int .i64 k', str t', .int .i64 n']] w (Ret w (.bool (decide ((⟨k, t, n⟩ : Deed) = ⟨k', t', n'⟩)))) := by
  refine Zb Tryz.func98 rfl Tryz.results98 Tryz.ntmps98 rfl ?_
  focus
    refine Gh<|Zu rfl rfl rfl ?_; rintro b1 w1 hb1 E1 hB1; have hlb1 := hB1.lt; have hs1 := E1.size; refine Zu rfl rfl rfl ?_; rintro b2 w2 hb2 E2 hB2; have hlb2 := hB2.lt; have hs2 := E2.size; refine Gx rfl<|Ge<|Gg<|Gh<|Za Kp Kl rfl<|Zs Ko (hB1.ext E2) rfl<|Za Kp Kl rfl<|Zs Ko hB2 rfl<|Yn rfl<|Ge<|Zk rfl (fun h1 => ?_) (fun h1 => ?_); refine Gh<|Gx rfl<|Ge<|Gv ?_; refine Gz (v := .bool _) rfl ?_; refine ⟨congrArg Value.bool ?_, exq⟩; rotate_left; refine Gn<|Gg<|Gh<|Za Kp Kz rfl<|Yl Jb (hB1.ext E2) rfl<|Za Kp Kz rfl<|Yl Jb hB2 rfl<|Wo rfl (Yq rfl rfl)<|Ge ?_
    refine Zk rfl (fun h2 => ?_) (fun h2 => ?_); refine Gh<|Gx rfl<|Ge<|Gv ?_; refine Gz (v := .bool _) rfl ?_; refine ⟨congrArg Value.bool ?_, exq⟩; rotate_left; refine Gn<|Gg<|Gh<|Za Kp Kl rfl<|Zs Ko (hB1.ext E2) rfl<|Za Kp Kl rfl<|Zs Ko hB2 rfl<|Yn rfl<|Ge<|Zk rfl (fun h3 => ?_) (fun h3 => ?_); refine Gh<|Gx rfl<|Ge<|Gv ?_; refine Gz (v := .bool _) rfl ?_; refine ⟨congrArg Value.bool ?_, exq⟩; rotate_left; refine Gn<|Gg<|Gy<|Gx rfl<|Ge<|Gv ?_; refine Gz (v := .bool _) rfl ?_; refine ⟨congrArg Value.bool ?_, exq⟩; rotate_left
  all_goals first
    | exact (decide_eq_true (by simp_all)).symm
    | exact (decide_eq_false (by simp_all)).symm
theorem toDeed_ok (w : World) (k n : Int) (t : List UInt8) :
    Does Tryz.prog 41 [.agg #[.int .i64 k, str t, .int .i64 n]] w (Ret w (.agg #[.int .i64 k, str t, .int .i64 n])) := by
  refine fn_of_Wc3 Tryz.func41 rfl Tryz.results41 Tryz.ntmps41 rfl Jg Jc ?_
  focus
    refine Gh<|Zu rfl rfl rfl ?_; rintro b1 w1 hb1 E1 hB1; have hlb1 := hB1.lt; refine Wo_allocN rfl Ri ?_; rintro b2 w2 hb2 E2 hB2; have hlb2 := hB2.lt; refine Ge<|Gh<|Wo_allocN rfl Ri ?_; rintro b3 w3 hb3 E3 hB3; refine Ge<|Gg<|Gy<|Za Tryz.underlying55 Kl rfl<|Zs Ko (hB1.ext exq) rfl<|Za Kp Kl rfl<|Yk (v := .int _ _) rfl Kl rfl rfl rfl hB3 Kc Ka ((E1.trans E2).trans E3) ?_; rintro w4 E4 hB3 K1 hz1; have E5 := (E2.trans E3).wroteAt exq E4 K1 hz1 Ka; have E6 := E3.wroteAt exq E4 K1 hz1 Ka; simp only [List.set] at hB3; have hB1 := (hB1.ext exq).of_heap (K1 _ Ka); have hB2 := (hB2.ext E3).of_heap (K1 _ Ka); refine Ge<|Gh ?_
    refine Za Tryz.underlying55 Kz rfl<|Yl Jb hB1 rfl<|Za Kp Kz rfl<|Yk (v := .string _) rfl Kz rfl rfl rfl hB3 Ki Ka E4 ?_; rintro w5 E7 hB3 K2 hz2; have E8 := E5.wroteAt E4 E7 K2 hz2 Ka; simp only [List.set] at hB3; have hB1 := hB1.of_heap (K2 _ Ka); have hB2 := hB2.of_heap (K2 _ Ka); refine Ge<|Gh<|Za Tryz.underlying55 Kl rfl<|Zs Ko hB1 rfl<|Za Kp Kl rfl<|Yk (v := .int _ _) rfl Kl rfl rfl rfl hB3 Ki Ka E7 ?_; rintro w6 E10 hB3 K3 hz3; simp only [List.set] at hB3; have hB2 := hB2.of_heap (K3 _ Ka); refine Ge<|Gg<|Gy<|Wsl3 Jg Jc hB3 rfl<|Wst3 Jc hB2 rfl E10 ?_; rintro w7 E13 hB2 K4 hz4
    refine Ge<|Gv ?_
  exact ⟨b2, _, _, _, rfl, hB2, rfl, Kd⟩
end Go.Proofs.YtbgpppaljpngmaaGreatDoor
namespace Go.Proofs.YtbgpppaljpngmaaGreatDoor
open Go.Hs
set_option maxRecDepth 10000
set_option maxHeartbeats 4000000
set_option linter.unusedVariables false
set_option linter.unusedSimpArgs false
open Classical in
theorem l11Made_ok (w : World) (v : Value) (p : List (List Int)) (h : ESl Ints w v p) (hp : Pic p) (k n : Int) (t : List UInt8) (ht : t.length ≤ 1048576) :
    Does Tryz.prog 93 [v, .agg #[.int .i64 k, str t, .int .i64 n]] w (RetOB w XR (og (madeV p ⟨k, t, n⟩)) (madeV p ⟨k, t, n⟩).isSome) := by
  have hle := h.le
  have hp1 := hp.1
  have hp5 := hp.2.1
  have hN : Nod p (0 : Nat) := ⟨hp, Kc, Ka⟩
  obtain ⟨Q, hQ⟩ : ∃ Q, Q = (rdP t).getD [] := ⟨_, rfl⟩
  obtain ⟨B, hB⟩ : ∃ B, B = (rdP t).isSome := ⟨_, rfl⟩
  obtain ⟨M, hM⟩ : ∃ M, M = madeV p ⟨k, t, n⟩ := ⟨_, rfl⟩
  rw [← hM]
  have k0 : ∀ w, Does Tryz.prog 122 [str t] w (RetOB w XR Q B) := fun w => hQ ▸ hB ▸ spec_ReadPicture_ok w t ht
  refine Xc Tryz.func93 rfl Tryz.results93 Tryz.ntmps93 rfl ?_
  by_cases e0 : k = 0
  · subst e0
    by_cases e : t = [] ∧ n = 0
    · obtain ⟨rfl, rfl⟩ := e
      have hm : M = pairV p 0 p 0 := hM.trans (by simp [madeV])
      rw [hm]
      have k1 : ∀ (w : World) (v u : Value), ESl Ints w v p → ESl Ints w u p → Does Tryz.prog 141 [v, .int .i64 0, u, .int .i64 0] w (RetOB w XR (og (pairV p 0 p 0)) (pairV p 0 p 0).isSome) := fun w v u h1 h2 => PairOf_ok w v u p p h1 h2 0 0 hN hN
      focus
        refine Gh<|Zu rfl rfl rfl ?_; rintro b1 w1 hb1 E1 hB1; have hlb1 := hB1.lt; refine Zr rfl<|Gx rfl<|Ge<|Gh<|Za Kp Kz rfl<|Yl Jb hB1 rfl<|Gj rfl (Zx (a := .string _) Jh rfl) (k0 _) ?_; rintro _ w2 ⟨u1, rfl, E2, hO1⟩; have hs2 := E2.size; refine Xe rfl<|Yr u1 rfl<|Ym rfl<|Zv u1 rfl<|Gx rfl<|Ge<|Gg<|Gl<|Gh<|Za Kp Kl rfl<|Zs Ko (hB1.ext E2) rfl<|Zm rfl<|Zp rfl (fun h1 => ?_) (fun h1 => ?_); refine Za Kp Kz rfl<|Yl Jb (hB1.ext E2) rfl<|Wo rfl (Yi rfl rfl)<|Vr rfl<|Zp rfl (fun h2 => ?_) (fun h2 => ?_); refine Za Kp Kl rfl ?_
        refine Zs Ko (hB1.ext E2) rfl<|Zm rfl<|Vr rfl<|Gx rfl<|Ge<|Gf rfl (fun h3 => ?_) (fun h3 => ?_); refine Gh<|Gq v rfl<|Gq v rfl<|Gj rfl (Qy (a := v) (b := .int _ _) (c := v) (d := .int _ _) Tryz.call141 rfl rfl rfl rfl) (k1 _ _ _ ((Mono.mono exq h)) ((Mono.mono exq h))) ?_; rintro _ w3 ⟨u2, rfl, E3, hO2⟩; refine Yr u2 rfl<|Ym rfl<|Zv u2 rfl<|Gx rfl<|Ge<|Gv ?_; refine Gz (v := .tuple #[u2, .bool _]) rfl ?_; exact ⟨_, rfl, exq, hO2.toB.o.mono Ka⟩; contradiction; contradiction; contradiction
    · have hm : M = none := hM.trans (by simp only [madeV]; rw [if_neg (fun h => e ⟨h.2.1, h.2.2⟩), if_neg (fun h => absurd h.1 Kc), if_neg (fun h => absurd h.1 Kc), if_neg (fun h => absurd h.1 Kc)])
      rw [hm, show og none = [] from rfl, show (none : Option (List (List Int))).isSome = false from rfl]
      by_cases et : t = []
      · have en : ¬ n = 0 := fun h => e ⟨et, h⟩
        subst et
        focus
          refine Gh<|Zu rfl rfl rfl ?_; rintro b1 w1 hb1 E1 hB1; have hlb1 := hB1.lt; refine Zr rfl<|Gx rfl<|Ge<|Gh<|Za Kp Kz rfl<|Yl Jb hB1 rfl<|Gj rfl (Zx (a := .string _) Jh rfl) (k0 _) ?_; rintro _ w2 ⟨u1, rfl, E2, hO1⟩; have hs2 := E2.size; refine Xe rfl<|Yr u1 rfl<|Ym rfl<|Zv u1 rfl<|Gx rfl<|Ge<|Gg<|Gl<|Gh<|Za Kp Kl rfl<|Zs Ko (hB1.ext E2) rfl<|Zm rfl<|Zp rfl (fun h1 => ?_) (fun h1 => ?_); refine Za Kp Kz rfl<|Yl Jb (hB1.ext E2) rfl<|Wo rfl (Yi rfl rfl)<|Vr rfl<|Zp rfl (fun h2 => ?_) (fun h2 => ?_); refine Za Kp Kl rfl ?_
          refine Zs Ko (hB1.ext E2) rfl<|Zm rfl<|Vr rfl<|Gx rfl<|Ge<|Gf rfl (fun h3 => ?_) (fun h3 => ?_); contradiction; refine Gh<|Za Kp Kl rfl<|Zs Ko (hB1.ext E2) rfl<|Zm rfl<|Zp rfl (fun h4 => ?_) (fun h4 => ?_); contradiction; refine Gi rfl<|Zw rfl<|Vi rfl<|Gi rfl<|Gi rfl<|Gi rfl<|Zw rfl<|Gx rfl<|Ge<|Gu rfl ?_; refine Gh<|Za Kp Kl rfl<|Zs Ko (hB1.ext E2) rfl<|Zm rfl<|Zp rfl (fun h5 => ?_) (fun h5 => ?_); contradiction; refine Gi rfl<|Zw rfl<|Vi rfl<|Gi rfl<|Gi rfl<|Gi rfl<|Zw rfl<|Gx rfl<|Ge<|Gu rfl ?_
          refine Gg<|Vq Vt Kb rfl ?_; refine Yt Kp Kl rfl<|Vv (v := .int _ _) rfl (fun w' hw' => Zq Ko rfl (((hB1.ext E2).ext hw').cell rfl)) ?_; refine Xk rfl<|Yg rfl (fun h6 => ?_) (fun h6 => ?_); contradiction; refine Gm rfl<|Gm rfl<|Gm rfl<|Xh rfl<|Xt rfl<|Gm rfl<|Gm rfl<|Gm rfl<|Gm rfl<|Gm rfl<|Gm rfl<|Xh rfl<|Xt rfl<|Gm rfl<|Gm rfl<|Gm rfl<|Gm rfl<|Gm rfl<|Gm rfl<|Gm rfl<|Gm rfl<|Xh rfl<|WqaB rfl<|Vo (fun w3 E3 => ?_); have hs3 := E3.size; refine Gu rfl ?_; refine Gn<|Gh<|Vb (XSl 3 XInt) rfl Xa Kr ?_; rintro b2 w4 hb2 b2lt E4 hO2; refine Zr rfl<|Gx rfl<|Ge ?_
          refine Gv ?_; refine Gz (v := .tuple #[.slice _ _ _, .bool _]) rfl ?_; exact ⟨_, rfl, exq, hO2.toB.o.mono Ka⟩; contradiction; contradiction
      · focus
          refine Gh<|Zu rfl rfl rfl ?_; rintro b1 w1 hb1 E1 hB1; have hlb1 := hB1.lt; refine Zr rfl<|Gx rfl<|Ge<|Gh<|Za Kp Kz rfl<|Yl Jb hB1 rfl<|Gj rfl (Zx (a := .string _) Jh rfl) (k0 _) ?_; rintro _ w2 ⟨u1, rfl, E2, hO1⟩; have hs2 := E2.size; refine Xe rfl<|Yr u1 rfl<|Ym rfl<|Zv u1 rfl<|Gx rfl<|Ge<|Gg<|Gl<|Gh<|Za Kp Kl rfl<|Zs Ko (hB1.ext E2) rfl<|Zm rfl<|Zp rfl (fun h1 => ?_) (fun h1 => ?_); refine Za Kp Kz rfl<|Yl Jb (hB1.ext E2) rfl<|Wo rfl (Yi rfl rfl)<|Vr rfl<|Zp rfl (fun h2 => ?_) (fun h2 => ?_); contradiction; refine Gi rfl<|Gi rfl<|Gi rfl ?_
          refine Zw rfl<|Gx rfl<|Ge<|Gu rfl ?_; refine Gh<|Za Kp Kl rfl<|Zs Ko (hB1.ext E2) rfl<|Zm rfl<|Zp rfl (fun h3 => ?_) (fun h3 => ?_); contradiction; refine Gi rfl<|Zw rfl<|Vi rfl<|Gi rfl<|Gi rfl<|Gi rfl<|Zw rfl<|Gx rfl<|Ge<|Gu rfl ?_; refine Gh<|Za Kp Kl rfl<|Zs Ko (hB1.ext E2) rfl<|Zm rfl<|Zp rfl (fun h4 => ?_) (fun h4 => ?_); contradiction; refine Gi rfl<|Zw rfl<|Vi rfl<|Gi rfl<|Gi rfl<|Gi rfl<|Zw rfl<|Gx rfl<|Ge<|Gu rfl ?_; refine Gg<|Vq Vt Kb rfl ?_; refine Yt Kp Kl rfl ?_
          refine Vv (v := .int _ _) rfl (fun w' hw' => Zq Ko rfl (((hB1.ext E2).ext hw').cell rfl)) ?_; refine Xk rfl<|Yg rfl (fun h5 => ?_) (fun h5 => ?_); contradiction; refine Gm rfl<|Gm rfl<|Gm rfl<|Xh rfl<|Xt rfl<|Gm rfl<|Gm rfl<|Gm rfl<|Gm rfl<|Gm rfl<|Gm rfl<|Xh rfl<|Xt rfl<|Gm rfl<|Gm rfl<|Gm rfl<|Gm rfl<|Gm rfl<|Gm rfl<|Gm rfl<|Gm rfl<|Xh rfl<|WqaB rfl<|Vo (fun w3 E3 => ?_); have hs3 := E3.size; refine Gu rfl ?_; refine Gn<|Gh<|Vb (XSl 3 XInt) rfl Xa Kr ?_; rintro b2 w4 hb2 b2lt E4 hO2; refine Zr rfl<|Gx rfl<|Ge ?_
          refine Gv ?_; refine Gz (v := .tuple #[.slice _ _ _, .bool _]) rfl ?_; exact ⟨_, rfl, exq, hO2.toB.o.mono Ka⟩; contradiction
  by_cases e1 : k = 1
  · subst e1
    by_cases en : n = 0
    · subst en
      have hm : M = (rdP t).bind fun q => (pairV q 0 q 0).bind fun s => togV p 0 s 0 := hM.trans (by simp only [madeV]; rw [if_neg (fun h => absurd h.1 Kc), if_pos Ki])
      cases hr : rdP t with
      | none =>
        rw [hr] at hm hB hQ
        rw [hm, show og (none.bind fun q => (pairV q 0 q 0).bind fun s => togV p 0 s 0) = [] from rfl, show (none.bind fun q => (pairV q 0 q 0).bind fun s => togV p 0 s 0).isSome = false from rfl]
        rw [hB, show (none : Option (List (List Int))).isSome = false from rfl] at k0
        focus
          refine Gh<|Zu rfl rfl rfl ?_; rintro b1 w1 hb1 E1 hB1; have hlb1 := hB1.lt; refine Zr rfl<|Gx rfl<|Ge<|Gh<|Za Kp Kz rfl<|Yl Jb hB1 rfl<|Gj rfl (Zx (a := .string _) Jh rfl) (k0 _) ?_; rintro _ w2 ⟨u1, rfl, E2, hO1⟩; have hs2 := E2.size; refine Xe rfl<|Yr u1 rfl<|Ym rfl<|Zv u1 rfl<|Gx rfl<|Ge<|Gg<|Gl<|Gh<|Za Kp Kl rfl<|Zs Ko (hB1.ext E2) rfl<|Zm rfl<|Zp rfl (fun h1 => ?_) (fun h1 => ?_); contradiction; refine Gi rfl<|Gi rfl<|Gi rfl<|Zw rfl<|Vi rfl<|Gi rfl<|Gi rfl<|Gi rfl<|Zw rfl<|Gx rfl<|Ge<|Gu rfl ?_; refine Gh ?_
          refine Za Kp Kl rfl<|Zs Ko (hB1.ext E2) rfl<|Zm rfl<|Zp rfl (fun h2 => ?_) (fun h2 => ?_); refine Vi rfl<|Vr rfl<|Vi rfl<|Gi rfl<|Gi rfl<|Gi rfl<|Zw rfl<|Gx rfl<|Ge<|Gu rfl ?_; refine Gh<|Za Kp Kl rfl<|Zs Ko (hB1.ext E2) rfl<|Zm rfl<|Zp rfl (fun h3 => ?_) (fun h3 => ?_); contradiction; refine Gi rfl<|Zw rfl<|Vi rfl<|Gi rfl<|Gi rfl<|Gi rfl<|Zw rfl<|Gx rfl<|Ge<|Gu rfl ?_; refine Gg<|Vq Vt Kb rfl ?_; refine Yt Kp Kl rfl<|Vv (v := .int _ _) rfl (fun w' hw' => Zq Ko rfl (((hB1.ext E2).ext hw').cell rfl)) ?_
          refine Xk rfl<|Yg rfl (fun h4 => ?_) (fun h4 => ?_); contradiction; refine Gm rfl<|Gm rfl<|Gm rfl<|Xh rfl<|Xt rfl<|Gm rfl<|Gm rfl<|Gm rfl<|Gm rfl<|Gm rfl<|Gm rfl<|Xh rfl<|Xt rfl<|Gm rfl<|Gm rfl<|Gm rfl<|Gm rfl<|Gm rfl<|Gm rfl<|Gm rfl<|Gm rfl<|Xh rfl<|WqaB rfl<|Vo (fun w3 E3 => ?_); have hs3 := E3.size; refine Gu rfl ?_; refine Gn<|Gh<|Vb (XSl 3 XInt) rfl Xa Kr ?_; rintro b2 w4 hb2 b2lt E4 hO2; refine Zr rfl<|Gx rfl<|Ge<|Gv ?_; refine Gz (v := .tuple #[.slice _ _ _, .bool _]) rfl ?_; exact ⟨_, rfl, exq, hO2.toB.o.mono Ka⟩; contradiction
      | some q =>
        rw [hr] at hm hB hQ
        rw [hB, hQ, show (some q).isSome = true from rfl, show (some q).getD [] = q from rfl] at k0
        have hq := (Qu hr).1
        have hNq : Nod q (0 : Nat) := ⟨hq, Kc, by have := hq.1; omega⟩
        have k1 : ∀ (w : World) (v u : Value), ESl Ints w v q → ESl Ints w u q → Does Tryz.prog 141 [v, .int .i64 0, u, .int .i64 0] w (RetOB w XR (og (pairV q 0 q 0)) (pairV q 0 q 0).isSome) := fun w v u h1 h2 => PairOf_ok w v u q q h1 h2 0 0 hNq hNq
        rw [hm, show ((some q).bind fun q => (pairV q 0 q 0).bind fun s => togV p 0 s 0) = (pairV q 0 q 0).bind fun s => togV p 0 s 0 from rfl]
        cases hs : pairV q 0 q 0 with
        | none =>
          rw [hs] at k1
          rw [show (none.bind fun s => togV p 0 s 0) = none from rfl]
          rw [show og none = [] from rfl, show (none : Option (List (List Int))).isSome = false from rfl] at k1 ⊢
          focus
            refine Gh<|Zu rfl rfl rfl ?_; rintro b1 w1 hb1 E1 hB1; have hlb1 := hB1.lt; refine Zr rfl<|Gx rfl<|Ge<|Gh<|Za Kp Kz rfl<|Yl Jb hB1 rfl<|Gj rfl (Zx (a := .string _) Jh rfl) (k0 _) ?_; rintro _ w2 ⟨u1, rfl, E2, hO1⟩; have hs2 := E2.size; refine Xe rfl<|Yr u1 rfl<|Ym rfl<|Zv u1 rfl<|Gx rfl<|Ge<|Gg<|Gl<|Gh<|Za Kp Kl rfl<|Zs Ko (hB1.ext E2) rfl<|Zm rfl<|Zp rfl (fun h1 => ?_) (fun h1 => ?_); contradiction; refine Gi rfl<|Gi rfl<|Gi rfl<|Zw rfl<|Vi rfl<|Gi rfl<|Gi rfl<|Gi rfl<|Zw rfl<|Gx rfl<|Ge<|Gu rfl ?_; refine Gh ?_
            refine Za Kp Kl rfl<|Zs Ko (hB1.ext E2) rfl<|Zm rfl<|Zp rfl (fun h2 => ?_) (fun h2 => ?_); refine Vi rfl<|Vr rfl<|Vi rfl<|Za Kp Kl rfl<|Zs Ko (hB1.ext E2) rfl<|Zm rfl<|Vr rfl<|Gx rfl<|Ge<|Gf rfl (fun h3 => ?_) (fun h3 => ?_); refine Gg<|Gy<|Gq u1 rfl<|Gq u1 rfl<|Gj rfl (Qy (a := u1) (b := .int _ _) (c := u1) (d := .int _ _) Tryz.call141 rfl rfl rfl rfl) (k1 _ _ _ ((Owned.read hO1)) ((Owned.read hO1))) ?_; rintro _ w3 ⟨u2, rfl, E3, hO2⟩; have hs3 := E3.size; refine Xe rfl<|Yr u2 rfl<|Ym rfl<|Zv u2 rfl<|Gx rfl<|Ge<|Gg<|Gh<|Vi rfl<|Zy rfl<|Ge ?_
            refine Vh rfl (fun h4 => ?_) (fun h4 => ?_); refine Gh<|Vb (XSl 3 XInt) rfl Xa Kr ?_; rintro b2 w4 hb2 b2lt E4 hO3; refine Zr rfl<|Gx rfl<|Ge<|Gv ?_; refine Gz (v := .tuple #[.slice _ _ _, .bool _]) rfl ?_; exact ⟨_, rfl, exq, hO3.toB.o.mono Ka⟩; contradiction; contradiction; contradiction
        | some s =>
          rw [hs] at k1
          rw [show ((some s).bind fun s => togV p 0 s 0) = togV p 0 s 0 from rfl]
          rw [show og (some s) = s from rfl, show (some s).isSome = true from rfl] at k1
          have hsp := (Rb hq hq hs).1
          have hNs : Nod s (0 : Nat) := ⟨hsp, Kc, by have := hsp.1; omega⟩
          have k2 : ∀ (w : World) (v u : Value), ESl Ints w v p → ESl Ints w u s → Does Tryz.prog 142 [v, .int .i64 0, u, .int .i64 0] w (RetOB w XR (og (togV p 0 s 0)) (togV p 0 s 0).isSome) := fun w v u h1 h2 => TogetherOf_ok w v u p s h1 h2 0 0 hN hNs
          focus
            refine Gh<|Zu rfl rfl rfl ?_; rintro b1 w1 hb1 E1 hB1; have hlb1 := hB1.lt; refine Zr rfl<|Gx rfl<|Ge<|Gh<|Za Kp Kz rfl<|Yl Jb hB1 rfl<|Gj rfl (Zx (a := .string _) Jh rfl) (k0 _) ?_; rintro _ w2 ⟨u1, rfl, E2, hO1⟩; have hs2 := E2.size; refine Xe rfl<|Yr u1 rfl<|Ym rfl<|Zv u1 rfl<|Gx rfl<|Ge<|Gg<|Gl<|Gh<|Za Kp Kl rfl<|Zs Ko (hB1.ext E2) rfl<|Zm rfl<|Zp rfl (fun h1 => ?_) (fun h1 => ?_); contradiction; refine Gi rfl<|Gi rfl<|Gi rfl<|Zw rfl<|Vi rfl<|Gi rfl<|Gi rfl<|Gi rfl<|Zw rfl<|Gx rfl<|Ge<|Gu rfl ?_; refine Gh ?_
            refine Za Kp Kl rfl<|Zs Ko (hB1.ext E2) rfl<|Zm rfl<|Zp rfl (fun h2 => ?_) (fun h2 => ?_); refine Vi rfl<|Vr rfl<|Vi rfl<|Za Kp Kl rfl<|Zs Ko (hB1.ext E2) rfl<|Zm rfl<|Vr rfl<|Gx rfl<|Ge<|Gf rfl (fun h3 => ?_) (fun h3 => ?_); refine Gg<|Gy<|Gq u1 rfl<|Gq u1 rfl<|Gj rfl (Qy (a := u1) (b := .int _ _) (c := u1) (d := .int _ _) Tryz.call141 rfl rfl rfl rfl) (k1 _ _ _ ((Owned.read hO1)) ((Owned.read hO1))) ?_; rintro _ w3 ⟨u2, rfl, E3, hO2⟩; have hs3 := E3.size; refine Xe rfl<|Yr u2 rfl<|Ym rfl<|Zv u2 rfl<|Gx rfl<|Ge<|Gg<|Gh<|Vi rfl<|Zy rfl<|Ge ?_
            refine Vh rfl (fun h4 => ?_) (fun h4 => ?_); contradiction; refine Gn<|Gh<|Gq v rfl<|Gq u2 rfl<|Gj rfl (Qy (a := v) (b := .int _ _) (c := u2) (d := .int _ _) Tryz.call142 rfl rfl rfl rfl) (k2 _ _ _ ((Mono.mono exq h)) ((Owned.read hO2))) ?_; rintro _ w4 ⟨u3, rfl, E4, hO3⟩; refine Yr u3 rfl<|Ym rfl<|Zv u3 rfl<|Gx rfl<|Ge<|Gv ?_; refine Gz (v := .tuple #[u3, .bool _]) rfl ?_; exact ⟨_, rfl, exq, hO3.toB.o.mono Ka⟩; contradiction; contradiction
    · have hm : M = none := hM.trans (by simp only [madeV]; rw [if_neg (fun h => absurd h.1 Kc), if_neg (fun h => en h.2), if_neg (fun h => absurd h.1 Kc), if_neg (fun h => absurd h.1 Kc)])
      rw [hm, show og none = [] from rfl, show (none : Option (List (List Int))).isSome = false from rfl]
      cases B
      · focus
          refine Gh<|Zu rfl rfl rfl ?_; rintro b1 w1 hb1 E1 hB1; have hlb1 := hB1.lt; refine Zr rfl<|Gx rfl<|Ge<|Gh<|Za Kp Kz rfl<|Yl Jb hB1 rfl<|Gj rfl (Zx (a := .string _) Jh rfl) (k0 _) ?_; rintro _ w2 ⟨u1, rfl, E2, hO1⟩; have hs2 := E2.size; refine Xe rfl<|Yr u1 rfl<|Ym rfl<|Zv u1 rfl<|Gx rfl<|Ge<|Gg<|Gl<|Gh<|Za Kp Kl rfl<|Zs Ko (hB1.ext E2) rfl<|Zm rfl<|Zp rfl (fun h1 => ?_) (fun h1 => ?_); contradiction; refine Gi rfl<|Gi rfl<|Gi rfl<|Zw rfl<|Vi rfl<|Gi rfl<|Gi rfl<|Gi rfl<|Zw rfl<|Gx rfl<|Ge<|Gu rfl ?_; refine Gh ?_
          refine Za Kp Kl rfl<|Zs Ko (hB1.ext E2) rfl<|Zm rfl<|Zp rfl (fun h2 => ?_) (fun h2 => ?_); refine Vi rfl<|Vr rfl<|Vi rfl<|Gi rfl<|Gi rfl<|Gi rfl<|Zw rfl<|Gx rfl<|Ge<|Gu rfl ?_; refine Gh<|Za Kp Kl rfl<|Zs Ko (hB1.ext E2) rfl<|Zm rfl<|Zp rfl (fun h3 => ?_) (fun h3 => ?_); contradiction; refine Gi rfl<|Zw rfl<|Vi rfl<|Gi rfl<|Gi rfl<|Gi rfl<|Zw rfl<|Gx rfl<|Ge<|Gu rfl ?_; refine Gg<|Vq Vt Kb rfl ?_; refine Yt Kp Kl rfl<|Vv (v := .int _ _) rfl (fun w' hw' => Zq Ko rfl (((hB1.ext E2).ext hw').cell rfl)) ?_
          refine Xk rfl<|Yg rfl (fun h4 => ?_) (fun h4 => ?_); contradiction; refine Gm rfl<|Gm rfl<|Gm rfl<|Xh rfl<|Xt rfl<|Gm rfl<|Gm rfl<|Gm rfl<|Gm rfl<|Gm rfl<|Gm rfl<|Xh rfl<|Xt rfl<|Gm rfl<|Gm rfl<|Gm rfl<|Gm rfl<|Gm rfl<|Gm rfl<|Gm rfl<|Gm rfl<|Xh rfl<|WqaB rfl<|Vo (fun w3 E3 => ?_); have hs3 := E3.size; refine Gu rfl ?_; refine Gn<|Gh<|Vb (XSl 3 XInt) rfl Xa Kr ?_; rintro b2 w4 hb2 b2lt E4 hO2; refine Zr rfl<|Gx rfl<|Ge<|Gv ?_; refine Gz (v := .tuple #[.slice _ _ _, .bool _]) rfl ?_; exact ⟨_, rfl, exq, hO2.toB.o.mono Ka⟩; contradiction
      · focus
          refine Gh<|Zu rfl rfl rfl ?_; rintro b1 w1 hb1 E1 hB1; have hlb1 := hB1.lt; refine Zr rfl<|Gx rfl<|Ge<|Gh<|Za Kp Kz rfl<|Yl Jb hB1 rfl<|Gj rfl (Zx (a := .string _) Jh rfl) (k0 _) ?_; rintro _ w2 ⟨u1, rfl, E2, hO1⟩; have hs2 := E2.size; refine Xe rfl<|Yr u1 rfl<|Ym rfl<|Zv u1 rfl<|Gx rfl<|Ge<|Gg<|Gl<|Gh<|Za Kp Kl rfl<|Zs Ko (hB1.ext E2) rfl<|Zm rfl<|Zp rfl (fun h1 => ?_) (fun h1 => ?_); contradiction; refine Gi rfl<|Gi rfl<|Gi rfl<|Zw rfl<|Vi rfl<|Gi rfl<|Gi rfl<|Gi rfl<|Zw rfl<|Gx rfl<|Ge<|Gu rfl ?_; refine Gh ?_
          refine Za Kp Kl rfl<|Zs Ko (hB1.ext E2) rfl<|Zm rfl<|Zp rfl (fun h2 => ?_) (fun h2 => ?_); refine Vi rfl<|Vr rfl<|Vi rfl<|Za Kp Kl rfl<|Zs Ko (hB1.ext E2) rfl<|Zm rfl<|Vr rfl<|Gx rfl<|Ge<|Gf rfl (fun h3 => ?_) (fun h3 => ?_); contradiction; refine Gh<|Za Kp Kl rfl<|Zs Ko (hB1.ext E2) rfl<|Zm rfl<|Zp rfl (fun h4 => ?_) (fun h4 => ?_); contradiction; refine Gi rfl<|Zw rfl<|Vi rfl<|Gi rfl<|Gi rfl<|Gi rfl<|Zw rfl<|Gx rfl<|Ge<|Gu rfl ?_; refine Gg<|Vq Vt Kb rfl ?_; refine Yt Kp Kl rfl ?_
          refine Vv (v := .int _ _) rfl (fun w' hw' => Zq Ko rfl (((hB1.ext E2).ext hw').cell rfl)) ?_; refine Xk rfl<|Yg rfl (fun h5 => ?_) (fun h5 => ?_); contradiction; refine Gm rfl<|Gm rfl<|Gm rfl<|Xh rfl<|Xt rfl<|Gm rfl<|Gm rfl<|Gm rfl<|Gm rfl<|Gm rfl<|Gm rfl<|Xh rfl<|Xt rfl<|Gm rfl<|Gm rfl<|Gm rfl<|Gm rfl<|Gm rfl<|Gm rfl<|Gm rfl<|Gm rfl<|Xh rfl<|WqaB rfl<|Vo (fun w3 E3 => ?_); have hs3 := E3.size; refine Gu rfl ?_; refine Gn<|Gh<|Vb (XSl 3 XInt) rfl Xa Kr ?_; rintro b2 w4 hb2 b2lt E4 hO2; refine Zr rfl<|Gx rfl<|Ge ?_
          refine Gv ?_; refine Gz (v := .tuple #[.slice _ _ _, .bool _]) rfl ?_; exact ⟨_, rfl, exq, hO2.toB.o.mono Ka⟩; contradiction
  by_cases e2 : k = 2
  · subst e2
    by_cases en : n = 0
    · subst en
      have hm : M = (rdP t).bind fun q => wosV p 0 q 0 := hM.trans (by simp only [madeV]; rw [if_neg (fun h => absurd h.1 Kc), if_neg (fun h => absurd h.1 Kc), if_pos Ki])
      cases hr : rdP t with
      | none =>
        rw [hr] at hm hB hQ
        rw [hm, show og (none.bind fun q => wosV p 0 q 0) = [] from rfl, show (none.bind fun q => wosV p 0 q 0).isSome = false from rfl]
        rw [hB, show (none : Option (List (List Int))).isSome = false from rfl] at k0
        focus
          refine Gh<|Zu rfl rfl rfl ?_; rintro b1 w1 hb1 E1 hB1; have hlb1 := hB1.lt; refine Zr rfl<|Gx rfl<|Ge<|Gh<|Za Kp Kz rfl<|Yl Jb hB1 rfl<|Gj rfl (Zx (a := .string _) Jh rfl) (k0 _) ?_; rintro _ w2 ⟨u1, rfl, E2, hO1⟩; have hs2 := E2.size; refine Xe rfl<|Yr u1 rfl<|Ym rfl<|Zv u1 rfl<|Gx rfl<|Ge<|Gg<|Gl<|Gh<|Za Kp Kl rfl<|Zs Ko (hB1.ext E2) rfl<|Zm rfl<|Zp rfl (fun h1 => ?_) (fun h1 => ?_); contradiction; refine Gi rfl<|Gi rfl<|Gi rfl<|Zw rfl<|Vi rfl<|Gi rfl<|Gi rfl<|Gi rfl<|Zw rfl<|Gx rfl<|Ge<|Gu rfl ?_; refine Gh ?_
          refine Za Kp Kl rfl<|Zs Ko (hB1.ext E2) rfl<|Zm rfl<|Zp rfl (fun h2 => ?_) (fun h2 => ?_); contradiction; refine Gi rfl<|Zw rfl<|Vi rfl<|Gi rfl<|Gi rfl<|Gi rfl<|Zw rfl<|Gx rfl<|Ge<|Gu rfl ?_; refine Gh<|Za Kp Kl rfl<|Zs Ko (hB1.ext E2) rfl<|Zm rfl<|Zp rfl (fun h3 => ?_) (fun h3 => ?_); refine Vi rfl<|Vr rfl<|Vi rfl<|Gi rfl<|Gi rfl<|Gi rfl<|Zw rfl<|Gx rfl<|Ge<|Gu rfl ?_; refine Gg<|Vq Vt Kb rfl ?_; refine Yt Kp Kl rfl<|Vv (v := .int _ _) rfl (fun w' hw' => Zq Ko rfl (((hB1.ext E2).ext hw').cell rfl)) ?_; refine Xk rfl ?_
          refine Yg rfl (fun h4 => ?_) (fun h4 => ?_); contradiction; refine Gm rfl<|Gm rfl<|Gm rfl<|Xh rfl<|Xt rfl<|Gm rfl<|Gm rfl<|Gm rfl<|Gm rfl<|Gm rfl<|Gm rfl<|Xh rfl<|Xt rfl<|Gm rfl<|Gm rfl<|Gm rfl<|Gm rfl<|Gm rfl<|Gm rfl<|Gm rfl<|Gm rfl<|Xh rfl<|WqaB rfl<|Vo (fun w3 E3 => ?_); have hs3 := E3.size; refine Gu rfl ?_; refine Gn<|Gh<|Vb (XSl 3 XInt) rfl Xa Kr ?_; rintro b2 w4 hb2 b2lt E4 hO2; refine Zr rfl<|Gx rfl<|Ge<|Gv ?_; refine Gz (v := .tuple #[.slice _ _ _, .bool _]) rfl ?_; exact ⟨_, rfl, exq, hO2.toB.o.mono Ka⟩; contradiction
      | some q =>
        rw [hr] at hm hB hQ
        rw [hB, hQ, show (some q).isSome = true from rfl, show (some q).getD [] = q from rfl] at k0
        have hq := (Qu hr).1
        have hNq : Nod q (0 : Nat) := ⟨hq, Kc, by have := hq.1; omega⟩
        have k1 : ∀ (w : World) (v u : Value), ESl Ints w v p → ESl Ints w u q → Does Tryz.prog 143 [v, .int .i64 0, u, .int .i64 0] w (RetOB w XR (og (wosV p 0 q 0)) (wosV p 0 q 0).isSome) := fun w v u h1 h2 => WithoutSet_ok w v u p q h1 h2 0 0 hN hNq
        rw [hm, show ((some q).bind fun q => wosV p 0 q 0) = wosV p 0 q 0 from rfl]
        focus
          refine Gh<|Zu rfl rfl rfl ?_; rintro b1 w1 hb1 E1 hB1; have hlb1 := hB1.lt; refine Zr rfl<|Gx rfl<|Ge<|Gh<|Za Kp Kz rfl<|Yl Jb hB1 rfl<|Gj rfl (Zx (a := .string _) Jh rfl) (k0 _) ?_; rintro _ w2 ⟨u1, rfl, E2, hO1⟩; have hs2 := E2.size; refine Xe rfl<|Yr u1 rfl<|Ym rfl<|Zv u1 rfl<|Gx rfl<|Ge<|Gg<|Gl<|Gh<|Za Kp Kl rfl<|Zs Ko (hB1.ext E2) rfl<|Zm rfl<|Zp rfl (fun h1 => ?_) (fun h1 => ?_); contradiction; refine Gi rfl<|Gi rfl<|Gi rfl<|Zw rfl<|Vi rfl<|Gi rfl<|Gi rfl<|Gi rfl<|Zw rfl<|Gx rfl<|Ge<|Gu rfl ?_; refine Gh ?_
          refine Za Kp Kl rfl<|Zs Ko (hB1.ext E2) rfl<|Zm rfl<|Zp rfl (fun h2 => ?_) (fun h2 => ?_); contradiction; refine Gi rfl<|Zw rfl<|Vi rfl<|Gi rfl<|Gi rfl<|Gi rfl<|Zw rfl<|Gx rfl<|Ge<|Gu rfl ?_; refine Gh<|Za Kp Kl rfl<|Zs Ko (hB1.ext E2) rfl<|Zm rfl<|Zp rfl (fun h3 => ?_) (fun h3 => ?_); refine Vi rfl<|Vr rfl<|Vi rfl<|Za Kp Kl rfl<|Zs Ko (hB1.ext E2) rfl<|Zm rfl<|Vr rfl<|Gx rfl<|Ge<|Gf rfl (fun h4 => ?_) (fun h4 => ?_); refine Gg<|Gy<|Gq v rfl<|Gq u1 rfl ?_
          refine Gj rfl (Qy (a := v) (b := .int _ _) (c := u1) (d := .int _ _) Tryz.call143 rfl rfl rfl rfl) (k1 _ _ _ ((Mono.mono exq h)) ((Owned.read hO1))) ?_; rintro _ w3 ⟨u2, rfl, E3, hO2⟩; refine Yr u2 rfl<|Ym rfl<|Zv u2 rfl<|Gx rfl<|Ge<|Gv ?_; refine Gz (v := .tuple #[u2, .bool _]) rfl ?_; exact ⟨_, rfl, exq, hO2.toB.o.mono Ka⟩; contradiction; contradiction
    · have hm : M = none := hM.trans (by simp only [madeV]; rw [if_neg (fun h => absurd h.1 Kc), if_neg (fun h => absurd h.1 Kc), if_neg (fun h => en h.2), if_neg (fun h => absurd h.1 Kc)])
      rw [hm, show og none = [] from rfl, show (none : Option (List (List Int))).isSome = false from rfl]
      cases B
      · focus
          refine Gh<|Zu rfl rfl rfl ?_; rintro b1 w1 hb1 E1 hB1; have hlb1 := hB1.lt; refine Zr rfl<|Gx rfl<|Ge<|Gh<|Za Kp Kz rfl<|Yl Jb hB1 rfl<|Gj rfl (Zx (a := .string _) Jh rfl) (k0 _) ?_; rintro _ w2 ⟨u1, rfl, E2, hO1⟩; have hs2 := E2.size; refine Xe rfl<|Yr u1 rfl<|Ym rfl<|Zv u1 rfl<|Gx rfl<|Ge<|Gg<|Gl<|Gh<|Za Kp Kl rfl<|Zs Ko (hB1.ext E2) rfl<|Zm rfl<|Zp rfl (fun h1 => ?_) (fun h1 => ?_); contradiction; refine Gi rfl<|Gi rfl<|Gi rfl<|Zw rfl<|Vi rfl<|Gi rfl<|Gi rfl<|Gi rfl<|Zw rfl<|Gx rfl<|Ge<|Gu rfl ?_; refine Gh ?_
          refine Za Kp Kl rfl<|Zs Ko (hB1.ext E2) rfl<|Zm rfl<|Zp rfl (fun h2 => ?_) (fun h2 => ?_); contradiction; refine Gi rfl<|Zw rfl<|Vi rfl<|Gi rfl<|Gi rfl<|Gi rfl<|Zw rfl<|Gx rfl<|Ge<|Gu rfl ?_; refine Gh<|Za Kp Kl rfl<|Zs Ko (hB1.ext E2) rfl<|Zm rfl<|Zp rfl (fun h3 => ?_) (fun h3 => ?_); refine Vi rfl<|Vr rfl<|Vi rfl<|Gi rfl<|Gi rfl<|Gi rfl<|Zw rfl<|Gx rfl<|Ge<|Gu rfl ?_; refine Gg<|Vq Vt Kb rfl ?_; refine Yt Kp Kl rfl<|Vv (v := .int _ _) rfl (fun w' hw' => Zq Ko rfl (((hB1.ext E2).ext hw').cell rfl)) ?_; refine Xk rfl ?_
          refine Yg rfl (fun h4 => ?_) (fun h4 => ?_); contradiction; refine Gm rfl<|Gm rfl<|Gm rfl<|Xh rfl<|Xt rfl<|Gm rfl<|Gm rfl<|Gm rfl<|Gm rfl<|Gm rfl<|Gm rfl<|Xh rfl<|Xt rfl<|Gm rfl<|Gm rfl<|Gm rfl<|Gm rfl<|Gm rfl<|Gm rfl<|Gm rfl<|Gm rfl<|Xh rfl<|WqaB rfl<|Vo (fun w3 E3 => ?_); have hs3 := E3.size; refine Gu rfl ?_; refine Gn<|Gh<|Vb (XSl 3 XInt) rfl Xa Kr ?_; rintro b2 w4 hb2 b2lt E4 hO2; refine Zr rfl<|Gx rfl<|Ge<|Gv ?_; refine Gz (v := .tuple #[.slice _ _ _, .bool _]) rfl ?_; exact ⟨_, rfl, exq, hO2.toB.o.mono Ka⟩; contradiction
      · focus
          refine Gh<|Zu rfl rfl rfl ?_; rintro b1 w1 hb1 E1 hB1; have hlb1 := hB1.lt; refine Zr rfl<|Gx rfl<|Ge<|Gh<|Za Kp Kz rfl<|Yl Jb hB1 rfl<|Gj rfl (Zx (a := .string _) Jh rfl) (k0 _) ?_; rintro _ w2 ⟨u1, rfl, E2, hO1⟩; have hs2 := E2.size; refine Xe rfl<|Yr u1 rfl<|Ym rfl<|Zv u1 rfl<|Gx rfl<|Ge<|Gg<|Gl<|Gh<|Za Kp Kl rfl<|Zs Ko (hB1.ext E2) rfl<|Zm rfl<|Zp rfl (fun h1 => ?_) (fun h1 => ?_); contradiction; refine Gi rfl<|Gi rfl<|Gi rfl<|Zw rfl<|Vi rfl<|Gi rfl<|Gi rfl<|Gi rfl<|Zw rfl<|Gx rfl<|Ge<|Gu rfl ?_; refine Gh ?_
          refine Za Kp Kl rfl<|Zs Ko (hB1.ext E2) rfl<|Zm rfl<|Zp rfl (fun h2 => ?_) (fun h2 => ?_); contradiction; refine Gi rfl<|Zw rfl<|Vi rfl<|Gi rfl<|Gi rfl<|Gi rfl<|Zw rfl<|Gx rfl<|Ge<|Gu rfl ?_; refine Gh<|Za Kp Kl rfl<|Zs Ko (hB1.ext E2) rfl<|Zm rfl<|Zp rfl (fun h3 => ?_) (fun h3 => ?_); refine Vi rfl<|Vr rfl<|Vi rfl<|Za Kp Kl rfl<|Zs Ko (hB1.ext E2) rfl<|Zm rfl<|Vr rfl<|Gx rfl<|Ge<|Gf rfl (fun h4 => ?_) (fun h4 => ?_); contradiction; refine Gg<|Vq Vt Kb rfl ?_; refine Yt Kp Kl rfl ?_
          refine Vv (v := .int _ _) rfl (fun w' hw' => Zq Ko rfl (((hB1.ext E2).ext hw').cell rfl)) ?_; refine Xk rfl<|Yg rfl (fun h5 => ?_) (fun h5 => ?_); contradiction; refine Gm rfl<|Gm rfl<|Gm rfl<|Xh rfl<|Xt rfl<|Gm rfl<|Gm rfl<|Gm rfl<|Gm rfl<|Gm rfl<|Gm rfl<|Xh rfl<|Xt rfl<|Gm rfl<|Gm rfl<|Gm rfl<|Gm rfl<|Gm rfl<|Gm rfl<|Gm rfl<|Gm rfl<|Xh rfl<|WqaB rfl<|Vo (fun w3 E3 => ?_); have hs3 := E3.size; refine Gu rfl ?_; refine Gn<|Gh<|Vb (XSl 3 XInt) rfl Xa Kr ?_; rintro b2 w4 hb2 b2lt E4 hO2; refine Zr rfl<|Gx rfl<|Ge ?_
          refine Gv ?_; refine Gz (v := .tuple #[.slice _ _ _, .bool _]) rfl ?_; exact ⟨_, rfl, exq, hO2.toB.o.mono Ka⟩; contradiction
  by_cases e3 : k = 3
  · subst e3
    by_cases et : t = []
    · subst et
      by_cases en : 0 ≤ n ∧ n ≤ (p.length : Int) - 1
      · have k2 : ∀ w, Does Tryz.prog 116 [.int .i64 n, .int .i64 0, .int .i64 ((p.length : Int) - 1)] w (Ret w (.bool true)) := fun w => by
          have := Xv n 0 ((p.length : Int) - 1) w; rwa [decide_eq_true en] at this
        have hrow : p[0].length = p.length := hp.row hp1
        obtain ⟨i, rfl⟩ : ∃ i : Nat, n = i := ⟨n.toNat, Ka⟩
        have hbit : bit p 0 i = p[0][i] := by unfold bit; rw [Zn hp1, Zn (show i < p[0].length by omega)]
        by_cases eb : p[0][i] = 1
        · have hm : M = some (lst p i) := hM.trans (by simp only [madeV]; rw [if_neg (fun h => absurd h.1 Kc), if_neg (fun h => absurd h.1 Kc), if_neg (fun h => absurd h.1 Kc), if_pos ⟨trivial, trivial, Ka, Ka, by rw [Int.toNat_natCast, hbit, eb]⟩, Int.toNat_natCast])
          have hNi : Nod p (i : Int) := ⟨hp, Ka, Ka⟩
          have k3 : ∀ (w : World) (v : Value), ESl Ints w v p → Does Tryz.prog 126 [v, .int .i64 (i : Int)] w (RetO w XR (lst p i)) := fun w v h => by
            have := Uo w v p h (i : Int); rw [if_pos hNi] at this; exact this
          rw [hm, show og (some (lst p i)) = lst p i from rfl, show (some (lst p i)).isSome = true from rfl]
          focus
            refine Gh<|Zu rfl rfl rfl ?_; rintro b1 w1 hb1 E1 hB1; have hlb1 := hB1.lt; refine Zr rfl<|Gx rfl<|Ge<|Gh<|Za Kp Kz rfl<|Yl Jb hB1 rfl<|Gj rfl (Zx (a := .string _) Jh rfl) (k0 _) ?_; rintro _ w2 ⟨u1, rfl, E2, hO1⟩; have hs2 := E2.size; refine Xe rfl<|Yr u1 rfl<|Ym rfl<|Zv u1 rfl<|Gx rfl<|Ge<|Gg<|Gl<|Gh<|Za Kp Kl rfl<|Zs Ko (hB1.ext E2) rfl<|Zm rfl<|Zp rfl (fun h1 => ?_) (fun h1 => ?_); contradiction; refine Gi rfl<|Gi rfl<|Gi rfl<|Zw rfl<|Vi rfl<|Gi rfl<|Gi rfl<|Gi rfl<|Zw rfl<|Gx rfl<|Ge<|Gu rfl ?_; refine Gh ?_
            refine Za Kp Kl rfl<|Zs Ko (hB1.ext E2) rfl<|Zm rfl<|Zp rfl (fun h2 => ?_) (fun h2 => ?_); contradiction; refine Gi rfl<|Zw rfl<|Vi rfl<|Gi rfl<|Gi rfl<|Gi rfl<|Zw rfl<|Gx rfl<|Ge<|Gu rfl ?_; refine Gh<|Za Kp Kl rfl<|Zs Ko (hB1.ext E2) rfl<|Zm rfl<|Zp rfl (fun h3 => ?_) (fun h3 => ?_); contradiction; refine Gi rfl<|Zw rfl<|Vi rfl<|Gi rfl<|Gi rfl<|Gi rfl<|Zw rfl<|Gx rfl<|Ge<|Gu rfl ?_; refine Gg<|Vq Vt Kb rfl ?_; refine Yt Kp Kl rfl<|Vv (v := .int _ _) rfl (fun w' hw' => Zq Ko rfl (((hB1.ext E2).ext hw').cell rfl)) ?_; refine Xk rfl ?_
            refine Yg rfl (fun h4 => ?_) (fun h4 => ?_); refine Yt Kp Kz rfl<|Vv (v := .string _) rfl (fun w' hw' => Zq Jb rfl (((hB1.ext E2).ext hw').cell rfl)) ?_; refine Vv rfl (fun _ _ => Yi rfl rfl) ?_; refine WqpB rfl<|Yg rfl (fun h5 => ?_) (fun h5 => ?_); refine Yt Kp Kl rfl<|Vv (v := .int _ _) rfl (fun w' hw' => Zq Ko rfl (((hB1.ext E2).ext hw').cell rfl)) ?_; refine Yx v rfl<|Vv rfl (fun _ _ => Uq Kn rfl h) ?_; refine Vv rfl (fun _ _ => opv_sub rfl rfl Ka) ?_; refine Xb rfl (fun _ _ => opc3 (a := .int _ _) (b := .int _ _) (c := .int _ _) Jk rfl rfl rfl) (fun w' hw' => (k2 _)) ?_; refine WqpB rfl<|Xt rfl<|Yx v rfl ?_
            refine Vs (k := 0) Kn Kr Kt rfl (fun _ => rfl) rfl h exq rfl Kf ?_; rintro _ u2 hu1; refine Yt Kp Kl rfl<|Vv (v := .int _ _) rfl (fun w' hw' => Zq Ko rfl (((hB1.ext E2).ext hw').cell rfl)) ?_; refine Vs Km Kl Ko rfl (fun _ => rfl) rfl hu1 exq rfl Kf ?_; rintro _ _ rfl; refine Xk rfl<|WqpB rfl<|WqaB rfl<|Vo (fun w3 E3 => ?_); have hs3 := E3.size; refine Gf rfl (fun h6 => ?_) (fun h6 => ?_); refine Gh<|Gq v rfl<|Za Kp Kl rfl<|Zs Ko (hB1.ext exq) rfl<|Gj rfl (Va (a := v) (b := .int _ _) Jw rfl rfl) (k3 _ _ ((Mono.mono exq h))) ?_
            rintro u3 w4 ⟨E4, hO2⟩; refine Zv u3 rfl<|Gx rfl<|Ge<|Gv ?_; refine Gz (v := .tuple #[u3, .bool _]) rfl ?_; exact ⟨_, rfl, exq, hO2.toB.o.mono Ka⟩; contradiction; contradiction; contradiction
        · have hm : M = none := hM.trans (by simp only [madeV]; rw [if_neg (fun h => absurd h.1 Kc), if_neg (fun h => absurd h.1 Kc), if_neg (fun h => absurd h.1 Kc), if_neg (fun h => eb (by have := h.2.2.2.2; rwa [Int.toNat_natCast, hbit] at this))])
          rw [hm, show og none = [] from rfl, show (none : Option (List (List Int))).isSome = false from rfl]
          focus
            refine Gh<|Zu rfl rfl rfl ?_; rintro b1 w1 hb1 E1 hB1; have hlb1 := hB1.lt; refine Zr rfl<|Gx rfl<|Ge<|Gh<|Za Kp Kz rfl<|Yl Jb hB1 rfl<|Gj rfl (Zx (a := .string _) Jh rfl) (k0 _) ?_; rintro _ w2 ⟨u1, rfl, E2, hO1⟩; have hs2 := E2.size; refine Xe rfl<|Yr u1 rfl<|Ym rfl<|Zv u1 rfl<|Gx rfl<|Ge<|Gg<|Gl<|Gh<|Za Kp Kl rfl<|Zs Ko (hB1.ext E2) rfl<|Zm rfl<|Zp rfl (fun h1 => ?_) (fun h1 => ?_); contradiction; refine Gi rfl<|Gi rfl<|Gi rfl<|Zw rfl<|Vi rfl<|Gi rfl<|Gi rfl<|Gi rfl<|Zw rfl<|Gx rfl<|Ge<|Gu rfl ?_; refine Gh ?_
            refine Za Kp Kl rfl<|Zs Ko (hB1.ext E2) rfl<|Zm rfl<|Zp rfl (fun h2 => ?_) (fun h2 => ?_); contradiction; refine Gi rfl<|Zw rfl<|Vi rfl<|Gi rfl<|Gi rfl<|Gi rfl<|Zw rfl<|Gx rfl<|Ge<|Gu rfl ?_; refine Gh<|Za Kp Kl rfl<|Zs Ko (hB1.ext E2) rfl<|Zm rfl<|Zp rfl (fun h3 => ?_) (fun h3 => ?_); contradiction; refine Gi rfl<|Zw rfl<|Vi rfl<|Gi rfl<|Gi rfl<|Gi rfl<|Zw rfl<|Gx rfl<|Ge<|Gu rfl ?_; refine Gg<|Vq Vt Kb rfl ?_; refine Yt Kp Kl rfl<|Vv (v := .int _ _) rfl (fun w' hw' => Zq Ko rfl (((hB1.ext E2).ext hw').cell rfl)) ?_; refine Xk rfl ?_
            refine Yg rfl (fun h4 => ?_) (fun h4 => ?_); refine Yt Kp Kz rfl<|Vv (v := .string _) rfl (fun w' hw' => Zq Jb rfl (((hB1.ext E2).ext hw').cell rfl)) ?_; refine Vv rfl (fun _ _ => Yi rfl rfl) ?_; refine WqpB rfl<|Yg rfl (fun h5 => ?_) (fun h5 => ?_); refine Yt Kp Kl rfl<|Vv (v := .int _ _) rfl (fun w' hw' => Zq Ko rfl (((hB1.ext E2).ext hw').cell rfl)) ?_; refine Yx v rfl<|Vv rfl (fun _ _ => Uq Kn rfl h) ?_; refine Vv rfl (fun _ _ => opv_sub rfl rfl Ka) ?_; refine Xb rfl (fun _ _ => opc3 (a := .int _ _) (b := .int _ _) (c := .int _ _) Jk rfl rfl rfl) (fun w' hw' => (k2 _)) ?_; refine WqpB rfl<|Xt rfl<|Yx v rfl ?_
            refine Vs (k := 0) Kn Kr Kt rfl (fun _ => rfl) rfl h exq rfl Kf ?_; rintro _ u2 hu1; refine Yt Kp Kl rfl<|Vv (v := .int _ _) rfl (fun w' hw' => Zq Ko rfl (((hB1.ext E2).ext hw').cell rfl)) ?_; refine Vs Km Kl Ko rfl (fun _ => rfl) rfl hu1 exq rfl Kf ?_; rintro _ _ rfl; refine Xk rfl<|WqpB rfl<|WqaB rfl<|Vo (fun w3 E3 => ?_); have hs3 := E3.size; refine Gf rfl (fun h6 => ?_) (fun h6 => ?_); contradiction; refine Gn<|Gh<|Vb (XSl 3 XInt) rfl Xa Kr ?_; rintro b2 w4 hb2 b2lt E4 hO2; refine Zr rfl<|Gx rfl<|Ge<|Gv ?_; refine Gz (v := .tuple #[.slice _ _ _, .bool _]) rfl ?_
            exact ⟨_, rfl, exq, hO2.toB.o.mono Ka⟩; contradiction; contradiction
      · have k2 : ∀ w, Does Tryz.prog 116 [.int .i64 n, .int .i64 0, .int .i64 ((p.length : Int) - 1)] w (Ret w (.bool false)) := fun w => by
          have := Xv n 0 ((p.length : Int) - 1) w; rwa [decide_eq_false en] at this
        have hm : M = none := hM.trans (by simp only [madeV]; rw [if_neg (fun h => absurd h.1 Kc), if_neg (fun h => absurd h.1 Kc), if_neg (fun h => absurd h.1 Kc), if_neg (fun h => en ⟨h.2.2.1, by have := h.2.2.2.1; omega⟩)])
        rw [hm, show og none = [] from rfl, show (none : Option (List (List Int))).isSome = false from rfl]
        focus
          refine Gh<|Zu rfl rfl rfl ?_; rintro b1 w1 hb1 E1 hB1; have hlb1 := hB1.lt; refine Zr rfl<|Gx rfl<|Ge<|Gh<|Za Kp Kz rfl<|Yl Jb hB1 rfl<|Gj rfl (Zx (a := .string _) Jh rfl) (k0 _) ?_; rintro _ w2 ⟨u1, rfl, E2, hO1⟩; have hs2 := E2.size; refine Xe rfl<|Yr u1 rfl<|Ym rfl<|Zv u1 rfl<|Gx rfl<|Ge<|Gg<|Gl<|Gh<|Za Kp Kl rfl<|Zs Ko (hB1.ext E2) rfl<|Zm rfl<|Zp rfl (fun h1 => ?_) (fun h1 => ?_); contradiction; refine Gi rfl<|Gi rfl<|Gi rfl<|Zw rfl<|Vi rfl<|Gi rfl<|Gi rfl<|Gi rfl<|Zw rfl<|Gx rfl<|Ge<|Gu rfl ?_; refine Gh ?_
          refine Za Kp Kl rfl<|Zs Ko (hB1.ext E2) rfl<|Zm rfl<|Zp rfl (fun h2 => ?_) (fun h2 => ?_); contradiction; refine Gi rfl<|Zw rfl<|Vi rfl<|Gi rfl<|Gi rfl<|Gi rfl<|Zw rfl<|Gx rfl<|Ge<|Gu rfl ?_; refine Gh<|Za Kp Kl rfl<|Zs Ko (hB1.ext E2) rfl<|Zm rfl<|Zp rfl (fun h3 => ?_) (fun h3 => ?_); contradiction; refine Gi rfl<|Zw rfl<|Vi rfl<|Gi rfl<|Gi rfl<|Gi rfl<|Zw rfl<|Gx rfl<|Ge<|Gu rfl ?_; refine Gg<|Vq Vt Kb rfl ?_; refine Yt Kp Kl rfl<|Vv (v := .int _ _) rfl (fun w' hw' => Zq Ko rfl (((hB1.ext E2).ext hw').cell rfl)) ?_; refine Xk rfl ?_
          refine Yg rfl (fun h4 => ?_) (fun h4 => ?_); refine Yt Kp Kz rfl<|Vv (v := .string _) rfl (fun w' hw' => Zq Jb rfl (((hB1.ext E2).ext hw').cell rfl)) ?_; refine Vv rfl (fun _ _ => Yi rfl rfl) ?_; refine WqpB rfl<|Yg rfl (fun h5 => ?_) (fun h5 => ?_); refine Yt Kp Kl rfl<|Vv (v := .int _ _) rfl (fun w' hw' => Zq Ko rfl (((hB1.ext E2).ext hw').cell rfl)) ?_; refine Yx v rfl<|Vv rfl (fun _ _ => Uq Kn rfl h) ?_; refine Vv rfl (fun _ _ => opv_sub rfl rfl Ka) ?_; refine Xb rfl (fun _ _ => opc3 (a := .int _ _) (b := .int _ _) (c := .int _ _) Jk rfl rfl rfl) (fun w' hw' => (k2 _)) ?_; refine WqpB rfl<|Xt rfl<|Gm rfl<|Gm rfl<|Gm rfl<|Gm rfl ?_
          refine Gm rfl<|Gm rfl<|Gm rfl<|Gm rfl<|Xh rfl<|WqaB rfl<|Vo (fun w3 E3 => ?_); have hs3 := E3.size; refine Gu rfl ?_; refine Gn<|Gh<|Vb (XSl 3 XInt) rfl Xa Kr ?_; rintro b2 w4 hb2 b2lt E4 hO2; refine Zr rfl<|Gx rfl<|Ge<|Gv ?_; refine Gz (v := .tuple #[.slice _ _ _, .bool _]) rfl ?_; exact ⟨_, rfl, exq, hO2.toB.o.mono Ka⟩; contradiction; contradiction
    · have hm : M = none := hM.trans (by simp only [madeV]; rw [if_neg (fun h => absurd h.1 Kc), if_neg (fun h => absurd h.1 Kc), if_neg (fun h => absurd h.1 Kc), if_neg (fun h => et h.2.1)])
      rw [hm, show og none = [] from rfl, show (none : Option (List (List Int))).isSome = false from rfl]
      focus
        refine Gh<|Zu rfl rfl rfl ?_; rintro b1 w1 hb1 E1 hB1; have hlb1 := hB1.lt; refine Zr rfl<|Gx rfl<|Ge<|Gh<|Za Kp Kz rfl<|Yl Jb hB1 rfl<|Gj rfl (Zx (a := .string _) Jh rfl) (k0 _) ?_; rintro _ w2 ⟨u1, rfl, E2, hO1⟩; have hs2 := E2.size; refine Xe rfl<|Yr u1 rfl<|Ym rfl<|Zv u1 rfl<|Gx rfl<|Ge<|Gg<|Gl<|Gh<|Za Kp Kl rfl<|Zs Ko (hB1.ext E2) rfl<|Zm rfl<|Zp rfl (fun h1 => ?_) (fun h1 => ?_); contradiction; refine Gi rfl<|Gi rfl<|Gi rfl<|Zw rfl<|Vi rfl<|Gi rfl<|Gi rfl<|Gi rfl<|Zw rfl<|Gx rfl<|Ge<|Gu rfl ?_; refine Gh ?_
        refine Za Kp Kl rfl<|Zs Ko (hB1.ext E2) rfl<|Zm rfl<|Zp rfl (fun h2 => ?_) (fun h2 => ?_); contradiction; refine Gi rfl<|Zw rfl<|Vi rfl<|Gi rfl<|Gi rfl<|Gi rfl<|Zw rfl<|Gx rfl<|Ge<|Gu rfl ?_; refine Gh<|Za Kp Kl rfl<|Zs Ko (hB1.ext E2) rfl<|Zm rfl<|Zp rfl (fun h3 => ?_) (fun h3 => ?_); contradiction; refine Gi rfl<|Zw rfl<|Vi rfl<|Gi rfl<|Gi rfl<|Gi rfl<|Zw rfl<|Gx rfl<|Ge<|Gu rfl ?_; refine Gg<|Vq Vt Kb rfl ?_; refine Yt Kp Kl rfl<|Vv (v := .int _ _) rfl (fun w' hw' => Zq Ko rfl (((hB1.ext E2).ext hw').cell rfl)) ?_; refine Xk rfl ?_
        refine Yg rfl (fun h4 => ?_) (fun h4 => ?_); refine Yt Kp Kz rfl<|Vv (v := .string _) rfl (fun w' hw' => Zq Jb rfl (((hB1.ext E2).ext hw').cell rfl)) ?_; refine Vv rfl (fun _ _ => Yi rfl rfl) ?_; refine WqpB rfl<|Yg rfl (fun h5 => ?_) (fun h5 => ?_); contradiction; refine Gm rfl<|Gm rfl<|Gm rfl<|Gm rfl<|Gm rfl<|Gm rfl<|Xh rfl<|Xt rfl<|Gm rfl<|Gm rfl<|Gm rfl<|Gm rfl<|Gm rfl<|Gm rfl<|Gm rfl<|Gm rfl<|Xh rfl<|WqaB rfl<|Vo (fun w3 E3 => ?_); have hs3 := E3.size; refine Gu rfl ?_; refine Gn<|Gh<|Vb (XSl 3 XInt) rfl Xa Kr ?_; rintro b2 w4 hb2 b2lt E4 hO2; refine Zr rfl<|Gx rfl<|Ge ?_
        refine Gv ?_; refine Gz (v := .tuple #[.slice _ _ _, .bool _]) rfl ?_; exact ⟨_, rfl, exq, hO2.toB.o.mono Ka⟩; contradiction
  have hm : M = none := hM.trans (by simp only [madeV]; rw [if_neg (fun h => e0 h.1), if_neg (fun h => e1 h.1), if_neg (fun h => e2 h.1), if_neg (fun h => e3 h.1)])
  rw [hm, show og none = [] from rfl, show (none : Option (List (List Int))).isSome = false from rfl]
  focus
    refine Gh<|Zu rfl rfl rfl ?_; rintro b1 w1 hb1 E1 hB1; have hlb1 := hB1.lt; refine Zr rfl<|Gx rfl<|Ge<|Gh<|Za Kp Kz rfl<|Yl Jb hB1 rfl<|Gj rfl (Zx (a := .string _) Jh rfl) (k0 _) ?_; rintro _ w2 ⟨u1, rfl, E2, hO1⟩; have hs2 := E2.size; refine Xe rfl<|Yr u1 rfl<|Ym rfl<|Zv u1 rfl<|Gx rfl<|Ge<|Gg<|Gl<|Gh<|Za Kp Kl rfl<|Zs Ko (hB1.ext E2) rfl<|Zm rfl<|Zp rfl (fun h1 => ?_) (fun h1 => ?_); contradiction; refine Gi rfl<|Gi rfl<|Gi rfl<|Zw rfl<|Vi rfl<|Gi rfl<|Gi rfl<|Gi rfl<|Zw rfl<|Gx rfl<|Ge<|Gu rfl ?_; refine Gh ?_
    refine Za Kp Kl rfl<|Zs Ko (hB1.ext E2) rfl<|Zm rfl<|Zp rfl (fun h2 => ?_) (fun h2 => ?_); contradiction; refine Gi rfl<|Zw rfl<|Vi rfl<|Gi rfl<|Gi rfl<|Gi rfl<|Zw rfl<|Gx rfl<|Ge<|Gu rfl ?_; refine Gh<|Za Kp Kl rfl<|Zs Ko (hB1.ext E2) rfl<|Zm rfl<|Zp rfl (fun h3 => ?_) (fun h3 => ?_); contradiction; refine Gi rfl<|Zw rfl<|Vi rfl<|Gi rfl<|Gi rfl<|Gi rfl<|Zw rfl<|Gx rfl<|Ge<|Gu rfl ?_; refine Gg<|Vq Vt Kb rfl ?_; refine Yt Kp Kl rfl<|Vv (v := .int _ _) rfl (fun w' hw' => Zq Ko rfl (((hB1.ext E2).ext hw').cell rfl)) ?_; refine Xk rfl ?_
    refine Yg rfl (fun h4 => ?_) (fun h4 => ?_); contradiction; refine Gm rfl<|Gm rfl<|Gm rfl<|Xh rfl<|Xt rfl<|Gm rfl<|Gm rfl<|Gm rfl<|Gm rfl<|Gm rfl<|Gm rfl<|Xh rfl<|Xt rfl<|Gm rfl<|Gm rfl<|Gm rfl<|Gm rfl<|Gm rfl<|Gm rfl<|Gm rfl<|Gm rfl<|Xh rfl<|WqaB rfl<|Vo (fun w3 E3 => ?_); have hs3 := E3.size; refine Gu rfl ?_; refine Gn<|Gh<|Vb (XSl 3 XInt) rfl Xa Kr ?_; rintro b2 w4 hb2 b2lt E4 hO2; refine Zr rfl<|Gx rfl<|Ge<|Gv ?_; refine Gz (v := .tuple #[.slice _ _ _, .bool _]) rfl ?_; exact ⟨_, rfl, exq, hO2.toB.o.mono Ka⟩
end Go.Proofs.YtbgpppaljpngmaaGreatDoor
namespace Go.Proofs.YtbgpppaljpngmaaGreatDoor
open Go.Hs
set_option maxRecDepth 10000
set_option maxHeartbeats 4000000
set_option linter.unusedVariables false
set_option linter.unusedSimpArgs false
open Classical in
theorem spec_DeskDo_ok (w : World) (u1 u2 : Value) (d : Dsk) (h1 : ESl Ints w u1 d.now) (h2 : ESl (ESl Ints) w u2 d.past) (k n : Int) (t : List UInt8) (ht : t.length ≤ 1048576) :
    Does Tryz.prog 37 [.agg #[u1, u2], .agg #[.int .i64 k, str t, .int .i64 n]] w (RetDkAB w (if DkOk d then (doV d ⟨k, t, n⟩).1.now else []) (if DkOk d then (doV d ⟨k, t, n⟩).1.past else []) (decide (DkOk d) && (doV d ⟨k, t, n⟩).2)) := by
  obtain ⟨p, pp⟩ := d
  have hle := h2.le
  have i1 : isCell u1 = true := Yw h1
  have i2 : isCell u2 = true := Yw h2
  simp only at h1 h2 hle
  refine fn_of_Wct Tryz.func37 rfl Tryz.results37 Tryz.ntmps37 rfl Kv Kq ?_
  by_cases hd : DkOk ⟨p, pp⟩
  · have k0 : ∀ w, ESl Ints w u1 p → ESl (ESl Ints) w u2 pp → Does Tryz.prog 16 [.agg #[u1, u2]] w (Ret w (.bool true)) := fun w h1 h2 => by
      have := Ug w u1 u2 ⟨p, pp⟩ h1 h2; rwa [decide_eq_true hd] at this
    have hpp : Pic p := hd.1.1
    have hppl : pp.length ≤ 8 := hd.2.1
    have hb1 : p.length ≤ 100 ∧ ∀ r ∈ p, r.length ≤ 100 := ⟨by have := hpp.2.1; omega, fun r hr => by rw [(hpp.2.2 r hr).1]; have := hpp.2.1; omega⟩
    have hb2 : ∀ q ∈ pp, q.length ≤ 100 ∧ ∀ r ∈ q, r.length ≤ 100 := fun q hq => by
      have hq := (hd.2.2 q hq).1
      exact ⟨by have := hq.2.1; omega, fun r hr => by rw [(hq.2.2 r hr).1]; have := hq.2.1; omega⟩
    have k1 : ∀ w, ESl Ints w u1 p → ESl (ESl Ints) w u2 pp → Does Tryz.prog 60 [.agg #[u1, u2]] w (RetDk w 23 88 3 p pp) := fun w h1 h2 => l11Copy_ok w u1 u2 p pp h1 h2 hb1 Ka hb2
    rw [if_pos hd, if_pos hd, decide_eq_true hd, Bool.true_and]
    by_cases hb : isBack ⟨p, pp⟩ ⟨k, t, n⟩
    · obtain ⟨e, hne⟩ := hb
      cases e
      have hpl : 0 < pp.length := List.length_pos_iff.2 hne
      have hdo : doV ⟨p, pp⟩ ⟨4, [], 0⟩ = (⟨pp.getLastD [], pp.dropLast⟩, true) := by unfold doV; rw [if_pos ⟨rfl, hne⟩]
      rw [hdo]
      simp only
      have stop6 : True := trivial
      focus
        refine Gh<|Zu rfl rfl rfl ?_; rintro b1 w1 hb3 E1 hB1; have hlb1 := hB1.lt; have hs1 := E1.size; refine Zu rfl rfl rfl ?_; rintro b2 w2 hb4 E2 hB2; have hlb2 := hB2.lt; refine Zt rfl Vf ?_; rintro b3 w3 hb5 E3 hB3; have hlb3 := hB3.lt; refine Gx rfl<|Ge<|Gg<|Gg<|Gy<|Vp Kv Kq (hB1.ext exq) rfl<|Gj rfl (Zx (a := .agg _) Js rfl) (k0 _ ((Mono.mono exq h1)) ((Mono.mono exq h2))) ?_; rintro _ w4 ⟨rfl, E4⟩; have hs4 := E4.size; refine Zy rfl<|Ge<|Vh rfl (fun h3 => ?_) (fun h3 => ?_); contradiction; refine Gn<|Gh<|Vp Kv Kq (hB1.ext exq) rfl<|Gj rfl (Zx (a := .agg _) Jy rfl) (k1 _ ((Mono.mono exq h1)) ((Mono.mono exq h2))) ?_; rintro _ w5 ⟨u3, q1, m1, rfl, E5, hO1, hQ1, hm1, hn1⟩
        have icu3 := OwnedB.isC hO1; have icq1 := OwnedB.isC (Owned.toB hQ1); have cpq1 := OwnedB.capOk (Owned.toB hQ1); have hs5 := E5.size; refine Zt rfl Vf ?_; rintro b4 w6 hb6 E6 hB4; refine Yo rfl Kq rfl rfl Ke Ke hB4 Ka (((((E1.trans E2).trans E3).trans E4).trans E5).trans E6) ?_; rintro w7 E7 hB4 K1 hz1; have E8 := ((((E2.trans E3).trans E4).trans E5).trans E6).wroteAt exq E7 K1 hz1 Ka; have szE8 := E8.size; have E9 := (((E3.trans E4).trans E5).trans E6).wroteAt exq E7 K1 hz1 Ka; have E10 := ((E4.trans E5).trans E6).wroteAt exq E7 K1 hz1 Ka; have E11 := (E5.trans E6).wroteAt exq E7 K1 hz1 Ka; have E12 := E6.wroteAt exq E7 K1 hz1 Ka; have hB1 := (hB1.ext exq).of_heap (K1 _ Ka)
        have hB2 := (hB2.ext exq).of_heap (K1 _ Ka); have hB3 := (hB3.ext exq).of_heap (K1 _ Ka); have hO1 := (hO1.ext E6).wrote K1 Ka; have hQ1 := (hQ1.toB.ext E6).wrote K1 Ka; refine Ge<|Gg<|Gh<|Wsl3 Jg Jc hB2 rfl<|Wo rfl (Yy (ps := [(0, .int _ _)]) (cs := [_, _, _]) Ri rfl rfl)<|Wo rfl (opv_eqD rfl rfl)<|Zp rfl (fun h4 => ?_) (fun h4 => ?_); refine Za Ks Kw rfl<|Vc u2 Ja hB1 rfl<|Gt Kx rfl h2<|Xo rfl<|Vr rfl<|Ge<|Gf rfl (fun h5 => ?_) (fun h5 => ?_); refine Gh<|Za Ks Kw rfl<|Vc q1 Ja hB4 rfl<|Gt Kx rfl (OwnedB.read hQ1)<|Xz rfl<|Gw rfl<|Ge<|Gg ?_; rotate_left; (exfalso; omega); contradiction
      clear stop6
      obtain ⟨qb, qc, ur, rfl, hqc, hcl, hel, hqb, hqb2, icr⟩ := hQ1.elem (i := pp.length - 1) Ka
      have hcl : w7.cell? ⟨qb, 0 + ((pp.length : Int) - 1).toNat, none⟩ = some ur := by rw [Nat.zero_add, show ((pp.length : Int) - 1).toNat = pp.length - 1 by omega]; exact hcl
      focus
        have szE7 := E7.size; refine Gy<|Za Ks Kw rfl<|Xm Ja hB4 rfl<|Gk rfl<|Wo rfl (Ya Kx Ku rfl rfl Ka) ?_; refine Wo rfl (Zq Ky rfl Kd) ?_; refine Za Ks Ku rfl<|Yk (v := ur) rfl Ku rfl rfl (OwnedB.isC hel) hB4 Ki Ka E7 ?_; rintro w8 E13 hB4 K2 hz2; have E14 := E8.wroteAt E7 E13 K2 hz2 Ka; have E15 := E9.wroteAt E7 E13 K2 hz2 Ka; simp only [List.set] at hB4; have hB3 := hB3.of_heap (K2 _ Ka); have hQ1 := hQ1.wrote K2 Ka; have hel := hel.wrote K2 Ka; refine Ge<|Gg<|Gy<|Za Ks Kw rfl<|Xm Ja hB4 rfl<|Gk rfl ?_
        refine Wo rfl (Xw Kx Ku rfl rfl Ka) ?_; refine Za Ks Kw rfl<|Yk (v := .slice _ _ _) rfl Kw rfl rfl rfl hB4 Ki Ka E13 ?_; rintro w9 E19 hB4 K3 hz3; simp only [List.set] at hB4; have hB3 := hB3.of_heap (K3 _ Ka); have hQ1 := hQ1.wrote K3 Ka; have hel := hel.wrote K3 Ka; refine Ge<|Gh<|Vp Kv Kq hB4 rfl<|Xy Kq hB3 rfl E19 ?_; rintro w10 E25 hB3 K4 hz4; have hQ1 := hQ1.wrote K4 Ka; have hel := hel.wrote K4 Ka; refine Gx rfl<|Ge<|Gv ?_
      have hlast : pp.getLastD [] = pp[pp.length - 1] := by rw [List.getLastD_eq_getLast?, List.getLast?_eq_getElem?, List.getElem?_eq_getElem Ka]; rfl
      rw [hlast, List.dropLast_eq_take]
      refine ⟨b3, ur, _, rfl, hB3, ur, _, rfl, E25, hel.above.mono Ka, ?_, icr, rfl, Ka⟩
      rw [show ((pp.length : Int) - 1).toNat = pp.length - 1 by omega]
      exact (hQ1.above.mono Ka).takeS Ka
    · have hdo : doV ⟨p, pp⟩ ⟨k, t, n⟩ = match nextV p ⟨k, t, n⟩ with
        | some c => (⟨c, last8 (pp ++ [p])⟩, true)
        | none => (⟨p, pp⟩, false) := by unfold doV; rw [if_neg hb]; rfl
      rw [hdo]
      have hback : (⟨k, t, n⟩ : Deed) = ⟨4, [], 0⟩ → pp.length = 0 := fun e => Classical.byContradiction fun h => hb ⟨e, fun h' => h (by rw [show pp = [] from h']; rfl)⟩
      have k2 : ∀ w, ESl Ints w u1 p → Does Tryz.prog 93 [u1, .agg #[.int .i64 k, str t, .int .i64 n]] w (RetOB w XR (og (madeV p ⟨k, t, n⟩)) (madeV p ⟨k, t, n⟩).isSome) := fun w h => l11Made_ok w u1 p h hpp k n t ht
      have litown : True := trivial
      by_cases ha : (⟨k, t, n⟩ : Deed) = ⟨4, [], 0⟩
      · have hpl0 := hback ha
        cases ha
        have hmv : madeV p ⟨4, [], 0⟩ = none := by simp [madeV]
        have hnx : nextV p ⟨4, [], 0⟩ = none := by unfold nextV; rw [hmv]
        rw [hmv, show og none = [] from rfl, show (none : Option (List (List Int))).isSome = false from rfl] at k2
        rw [hnx]
        simp only
        focus
          refine Gh<|Zu rfl rfl rfl ?_; rintro b1 w1 hb3 E1 hB1; have hlb1 := hB1.lt; refine Zu rfl rfl rfl ?_; rintro b2 w2 hb4 E2 hB2; have hlb2 := hB2.lt; refine Zt rfl Vf ?_; rintro b3 w3 hb5 E3 hB3; have hlb3 := hB3.lt; refine Gx rfl<|Ge<|Gg<|Gg<|Gy<|Vp Kv Kq (hB1.ext exq) rfl<|Gj rfl (Zx (a := .agg _) Js rfl) (k0 _ ((Mono.mono exq h1)) ((Mono.mono exq h2))) ?_; rintro _ w4 ⟨rfl, E4⟩; have hs4 := E4.size; refine Zy rfl<|Ge<|Vh rfl (fun h3 => ?_) (fun h3 => ?_); contradiction; refine Gn<|Gh<|Vp Kv Kq (hB1.ext exq) rfl<|Gj rfl (Zx (a := .agg _) Jy rfl) (k1 _ ((Mono.mono exq h1)) ((Mono.mono exq h2))) ?_; rintro _ w5 ⟨u3, q1, m1, rfl, E5, hO1, hQ1, hm1, hn1⟩
          have icu3 := OwnedB.isC hO1; have icq1 := OwnedB.isC (Owned.toB hQ1); have hs5 := E5.size; refine Zt rfl Vf ?_; rintro b4 w6 hb6 E6 hB4; refine Yo rfl Kq rfl rfl Ke Ke hB4 Ka (((((E1.trans E2).trans E3).trans E4).trans E5).trans E6) ?_; rintro w7 E7 hB4 K1 hz1; have E8 := ((((E2.trans E3).trans E4).trans E5).trans E6).wroteAt exq E7 K1 hz1 Ka; have hB1 := (hB1.ext exq).of_heap (K1 _ Ka); have hB2 := (hB2.ext exq).of_heap (K1 _ Ka); have hB3 := (hB3.ext exq).of_heap (K1 _ Ka); have hO1 := (hO1.ext E6).wrote K1 Ka; have hQ1 := (hQ1.toB.ext E6).wrote K1 Ka; refine Ge<|Gg<|Gh<|Wsl3 Jg Jc hB2 rfl ?_
          refine Wo rfl (Yy (ps := [(0, .int _ _)]) (cs := [_, _, _]) Ri rfl rfl)<|Wo rfl (opv_eqD rfl rfl)<|Zp rfl (fun h4 => ?_) (fun h4 => ?_); refine Za Ks Kw rfl<|Vc u2 Ja hB1 rfl<|Gt Kx rfl h2<|Xo rfl<|Vr rfl<|Ge<|Gf rfl (fun h5 => ?_) (fun h5 => ?_); (exfalso; omega); refine Gn<|Gg<|Gy<|Za Ks Ku rfl<|Vc u1 Ky hB1 rfl<|Wsl3 Jg Jc hB2 rfl<|Gj rfl (Va (a := u1) (b := .agg _) Tryz.call93 rfl rfl) (k2 _ ((Mono.mono E7 h1))) ?_; rintro _ w8 ⟨u4, rfl, E13, hO2⟩; refine Xe rfl<|Yr u4 rfl<|Ym rfl<|Zv u4 rfl<|Gx rfl<|Ge<|Gg<|Gg<|Vq Vt Kb rfl ?_
          refine Xt rfl<|Wqnot rfl<|Qa rfl (fun _ _ => Zg (v := .bool _) rfl) (fun h6 => ?_) (fun h6 => ?_); refine Gm rfl<|Gm rfl<|Gm rfl<|Gm rfl<|Gm rfl<|Gm rfl<|Gm rfl<|Gm rfl<|Gm rfl<|Gm rfl<|Gm rfl<|Gm rfl<|Gm rfl<|Gm rfl<|WqpB rfl<|Vo (fun w9 E14 => ?_); refine Vj rfl ?_; refine Gh<|Vp Kv Kq (hB4.ext exq) rfl<|Xy Kq (hB3.ext (E13.trans E14)) rfl ((E7.trans E13).trans E14) ?_; rintro w10 E15 hB3 K2 hz2; have E16 := ((E8.trans E13).trans E14).wroteAt exq E15 K2 hz2 Ka; have szE16 := E16.size; have hO1 := (hO1.ext exq).wrote K2 Ka; have hQ1 := (hQ1.ext exq).wrote K2 Ka; refine Gx rfl<|Ge<|Gv ?_; rotate_left; contradiction; contradiction
        exact ⟨b3, u3, q1, rfl, hB3, u3, q1, rfl, by exact E15, hO1.above.mono Ka, hQ1.above.mono Ka, icu3, icq1, Ka⟩
      · cases hmv : madeV p ⟨k, t, n⟩ with
        | none =>
          have hnx : nextV p ⟨k, t, n⟩ = none := by unfold nextV; rw [hmv]
          rw [hmv, show og none = [] from rfl, show (none : Option (List (List Int))).isSome = false from rfl] at k2
          rw [hnx]
          simp only
          focus
            refine Gh<|Zu rfl rfl rfl ?_; rintro b1 w1 hb3 E1 hB1; have hlb1 := hB1.lt; refine Zu rfl rfl rfl ?_; rintro b2 w2 hb4 E2 hB2; have hlb2 := hB2.lt; refine Zt rfl Vf ?_; rintro b3 w3 hb5 E3 hB3; have hlb3 := hB3.lt; refine Gx rfl<|Ge<|Gg<|Gg<|Gy<|Vp Kv Kq (hB1.ext exq) rfl<|Gj rfl (Zx (a := .agg _) Js rfl) (k0 _ ((Mono.mono exq h1)) ((Mono.mono exq h2))) ?_; rintro _ w4 ⟨rfl, E4⟩; have hs4 := E4.size; refine Zy rfl<|Ge<|Vh rfl (fun h3 => ?_) (fun h3 => ?_); contradiction; refine Gn<|Gh<|Vp Kv Kq (hB1.ext exq) rfl<|Gj rfl (Zx (a := .agg _) Jy rfl) (k1 _ ((Mono.mono exq h1)) ((Mono.mono exq h2))) ?_; rintro _ w5 ⟨u3, q1, m1, rfl, E5, hO1, hQ1, hm1, hn1⟩
            have icu3 := OwnedB.isC hO1; have icq1 := OwnedB.isC (Owned.toB hQ1); have hs5 := E5.size; refine Zt rfl Vf ?_; rintro b4 w6 hb6 E6 hB4; refine Yo rfl Kq rfl rfl Ke Ke hB4 Ka (((((E1.trans E2).trans E3).trans E4).trans E5).trans E6) ?_; rintro w7 E7 hB4 K1 hz1; have E8 := ((((E2.trans E3).trans E4).trans E5).trans E6).wroteAt exq E7 K1 hz1 Ka; have hB1 := (hB1.ext exq).of_heap (K1 _ Ka); have hB2 := (hB2.ext exq).of_heap (K1 _ Ka); have hB3 := (hB3.ext exq).of_heap (K1 _ Ka); have hO1 := (hO1.ext E6).wrote K1 Ka; have hQ1 := (hQ1.toB.ext E6).wrote K1 Ka; refine Ge<|Gg<|Gh<|Wsl3 Jg Jc hB2 rfl ?_
            refine Wo rfl (Yy (ps := [(0, .int _ _)]) (cs := [_, _, _]) Ri rfl rfl)<|Wo rfl (opv_eqD rfl rfl)<|Zp rfl (fun h4 => ?_) (fun h4 => ?_); contradiction; refine Gi rfl<|Gi rfl<|Gi rfl<|Gi rfl<|Zw rfl<|Ge<|Gu rfl ?_; refine Gn<|Gg<|Gy<|Za Ks Ku rfl<|Vc u1 Ky hB1 rfl<|Wsl3 Jg Jc hB2 rfl<|Gj rfl (Va (a := u1) (b := .agg _) Tryz.call93 rfl rfl) (k2 _ ((Mono.mono E7 h1))) ?_; rintro _ w8 ⟨u4, rfl, E13, hO2⟩; refine Xe rfl<|Yr u4 rfl<|Ym rfl<|Zv u4 rfl<|Gx rfl<|Ge<|Gg<|Gg<|Vq Vt Kb rfl ?_; refine Xt rfl<|Wqnot rfl<|Qa rfl (fun _ _ => Zg (v := .bool _) rfl) (fun h5 => ?_) (fun h5 => ?_); refine Gm rfl ?_
            refine Gm rfl<|Gm rfl<|Gm rfl<|Gm rfl<|Gm rfl<|Gm rfl<|Gm rfl<|Gm rfl<|Gm rfl<|Gm rfl<|Gm rfl<|Gm rfl<|Gm rfl<|WqpB rfl<|Vo (fun w9 E14 => ?_); refine Vj rfl ?_; refine Gh<|Vp Kv Kq (hB4.ext exq) rfl<|Xy Kq (hB3.ext (E13.trans E14)) rfl ((E7.trans E13).trans E14) ?_; rintro w10 E15 hB3 K2 hz2; have E16 := ((E8.trans E13).trans E14).wroteAt exq E15 K2 hz2 Ka; have szE16 := E16.size; have hO1 := (hO1.ext exq).wrote K2 Ka; have hQ1 := (hQ1.ext exq).wrote K2 Ka; refine Gx rfl<|Ge<|Gv ?_; rotate_left; contradiction
          exact ⟨b3, u3, q1, rfl, hB3, u3, q1, rfl, by exact E15, hO1.above.mono Ka, hQ1.above.mono Ka, icu3, icq1, Ka⟩
        | some c =>
          rw [hmv, show og (some c) = c from rfl, show (some c).isSome = true from rfl] at k2
          have hc : LeastP c := madeV_least hpp hmv
          have hcp := hc.1
          have k3 : ∀ (w : World) (v : Value), ESl Ints w v c → Does Tryz.prog 62 [v] w (Ret w (str (txt c))) := fun w v h => by
            have := Vx w v _ h
            rwa [if_pos hcp] at this
          by_cases hcq : c = p
          · subst hcq
            have hnx : nextV c ⟨k, t, n⟩ = none := by unfold nextV; rw [hmv]; simp
            rw [hnx]
            simp only
            focus
              refine Gh<|Zu rfl rfl rfl ?_; rintro b1 w1 hb3 E1 hB1; have hlb1 := hB1.lt; refine Zu rfl rfl rfl ?_; rintro b2 w2 hb4 E2 hB2; have hlb2 := hB2.lt; refine Zt rfl Vf ?_; rintro b3 w3 hb5 E3 hB3; have hlb3 := hB3.lt; refine Gx rfl<|Ge<|Gg<|Gg<|Gy<|Vp Kv Kq (hB1.ext exq) rfl<|Gj rfl (Zx (a := .agg _) Js rfl) (k0 _ ((Mono.mono exq h1)) ((Mono.mono exq h2))) ?_; rintro _ w4 ⟨rfl, E4⟩; have hs4 := E4.size; refine Zy rfl<|Ge<|Vh rfl (fun h3 => ?_) (fun h3 => ?_); contradiction; refine Gn<|Gh<|Vp Kv Kq (hB1.ext exq) rfl<|Gj rfl (Zx (a := .agg _) Jy rfl) (k1 _ ((Mono.mono exq h1)) ((Mono.mono exq h2))) ?_; rintro _ w5 ⟨u3, q1, m1, rfl, E5, hO1, hQ1, hm1, hn1⟩
              have icu3 := OwnedB.isC hO1; have icq1 := OwnedB.isC (Owned.toB hQ1); have hs5 := E5.size; refine Zt rfl Vf ?_; rintro b4 w6 hb6 E6 hB4; refine Yo rfl Kq rfl rfl Ke Ke hB4 Ka (((((E1.trans E2).trans E3).trans E4).trans E5).trans E6) ?_; rintro w7 E7 hB4 K1 hz1; have E8 := ((((E2.trans E3).trans E4).trans E5).trans E6).wroteAt exq E7 K1 hz1 Ka; have hB1 := (hB1.ext exq).of_heap (K1 _ Ka); have hB2 := (hB2.ext exq).of_heap (K1 _ Ka); have hB3 := (hB3.ext exq).of_heap (K1 _ Ka); have hO1 := (hO1.ext E6).wrote K1 Ka; have hQ1 := (hQ1.toB.ext E6).wrote K1 Ka; refine Ge<|Gg<|Gh<|Wsl3 Jg Jc hB2 rfl ?_
              refine Wo rfl (Yy (ps := [(0, .int _ _)]) (cs := [_, _, _]) Ri rfl rfl)<|Wo rfl (opv_eqD rfl rfl)<|Zp rfl (fun h4 => ?_) (fun h4 => ?_); contradiction; refine Gi rfl<|Gi rfl<|Gi rfl<|Gi rfl<|Zw rfl<|Ge<|Gu rfl ?_; refine Gn<|Gg<|Gy<|Za Ks Ku rfl<|Vc u1 Ky hB1 rfl<|Wsl3 Jg Jc hB2 rfl<|Gj rfl (Va (a := u1) (b := .agg _) Tryz.call93 rfl rfl) (k2 _ ((Mono.mono E7 h1))) ?_; rintro _ w8 ⟨u4, rfl, E13, hO2⟩; refine Xe rfl<|Yr u4 rfl<|Ym rfl<|Zv u4 rfl<|Gx rfl<|Ge<|Gg<|Gg<|Vq Vt Kb rfl ?_; refine Xt rfl<|Wqnot rfl<|Qa rfl (fun _ _ => Zg (v := .bool _) rfl) (fun h5 => ?_) (fun h5 => ?_); contradiction
              refine Yx u4 rfl<|Vv rfl (fun _ _ => Uq Kn rfl (Owned.read hO2)) ?_; refine Yt Ks Ku rfl<|Vv (v := u1) rfl (fun w' hw' => Zq Ky rfl (((hB1.ext E13).ext hw').cell rfl)) ?_; refine Vv rfl (fun _ _ => Uq Kn rfl h1) ?_; refine Xk rfl<|Yg rfl (fun h6 => ?_) (fun h6 => ?_); refine Yx u4 rfl<|Xb rfl (fun _ _ => Zx (a := u4) Jn rfl) (fun w' hw' => (k3 _ _ ((Mono.mono hw' (Owned.read hO2))))) ?_; refine Yt Ks Ku rfl<|Vv (v := u1) rfl (fun w' hw' => Zq Ky rfl (((hB1.ext E13).ext hw').cell rfl)) ?_; refine Xb rfl (fun _ _ => Zx (a := u1) Jn rfl) (fun w' hw' => (k3 _ _ ((Mono.mono exq h1)))) ?_; refine Vv rfl (fun _ _ => Yi rfl rfl) ?_
              refine WqpB rfl<|Xh rfl<|Vo (fun w9 E14 => ?_); refine Gf rfl (fun h7 => ?_) (fun h7 => ?_); refine Gh<|Vp Kv Kq (hB4.ext exq) rfl<|Xy Kq (hB3.ext (E13.trans E14)) rfl ((E7.trans E13).trans E14) ?_; rintro w10 E15 hB3 K2 hz2; have E16 := ((E8.trans E13).trans E14).wroteAt exq E15 K2 hz2 Ka; have szE16 := E16.size; have hO1 := (hO1.ext exq).wrote K2 Ka; have hQ1 := (hQ1.ext exq).wrote K2 Ka; refine Gx rfl<|Ge<|Gv ?_; rotate_left; contradiction; contradiction
            exact ⟨b3, u3, q1, rfl, hB3, u3, q1, rfl, by exact E15, hO1.above.mono Ka, hQ1.above.mono Ka, icu3, icq1, Ka⟩
          · have hnx : nextV p ⟨k, t, n⟩ = some c := by unfold nextV; rw [hmv]; simp [hcq]
            rw [hnx]
            simp only
            have k4 : ∀ (w : World) (v : Value), ESl Ints w v p → Does Tryz.prog 62 [v] w (Ret w (str (txt p))) := fun w v h => by
              have := Vx w v _ h
              rwa [if_pos hpp] at this
            have htx : txt c ≠ txt p := fun e => hcq (txt_inj hcp.gr hpp.gr e)
            have stop12 : True := trivial
            focus
              refine Gh<|Zu rfl rfl rfl ?_; rintro b1 w1 hb3 E1 hB1; have hlb1 := hB1.lt; have hs1 := E1.size; refine Zu rfl rfl rfl ?_; rintro b2 w2 hb4 E2 hB2; have hlb2 := hB2.lt; refine Zt rfl Vf ?_; rintro b3 w3 hb5 E3 hB3; have hlb3 := hB3.lt; refine Gx rfl<|Ge<|Gg<|Gg<|Gy<|Vp Kv Kq (hB1.ext exq) rfl<|Gj rfl (Zx (a := .agg _) Js rfl) (k0 _ ((Mono.mono exq h1)) ((Mono.mono exq h2))) ?_; rintro _ w4 ⟨rfl, E4⟩; have hs4 := E4.size; refine Zy rfl<|Ge<|Vh rfl (fun h3 => ?_) (fun h3 => ?_); contradiction; refine Gn<|Gh<|Vp Kv Kq (hB1.ext exq) rfl<|Gj rfl (Zx (a := .agg _) Jy rfl) (k1 _ ((Mono.mono exq h1)) ((Mono.mono exq h2))) ?_; rintro _ w5 ⟨u3, q1, m1, rfl, E5, hO1, hQ1, hm1, hn1⟩
              have icu3 := OwnedB.isC hO1; have icq1 := OwnedB.isC (Owned.toB hQ1); have hs5 := E5.size; refine Zt rfl Vf ?_; rintro b4 w6 hb6 E6 hB4; have hlb4 := hB4.lt; have hs6 := E6.size; refine Yo rfl Kq rfl rfl Ke Ke hB4 Ka (((((E1.trans E2).trans E3).trans E4).trans E5).trans E6) ?_; rintro w7 E7 hB4 K1 hz1; have E8 := ((((E2.trans E3).trans E4).trans E5).trans E6).wroteAt exq E7 K1 hz1 Ka; have E9 := (((E3.trans E4).trans E5).trans E6).wroteAt exq E7 K1 hz1 Ka; have E10 := ((E4.trans E5).trans E6).wroteAt exq E7 K1 hz1 Ka; have E11 := (E5.trans E6).wroteAt exq E7 K1 hz1 Ka; have hB1 := (hB1.ext exq).of_heap (K1 _ Ka); have hB2 := (hB2.ext exq).of_heap (K1 _ Ka); have hB3 := (hB3.ext exq).of_heap (K1 _ Ka); have hO1 := (hO1.ext E6).wrote K1 Ka
              have hQ1 := (hQ1.toB.ext E6).wrote K1 Ka; refine Ge<|Gg<|Gh<|Wsl3 Jg Jc hB2 rfl<|Wo rfl (Yy (ps := [(0, .int _ _)]) (cs := [_, _, _]) Ri rfl rfl)<|Wo rfl (opv_eqD rfl rfl)<|Zp rfl (fun h4 => ?_) (fun h4 => ?_); contradiction; refine Gi rfl<|Gi rfl<|Gi rfl<|Gi rfl<|Zw rfl<|Ge<|Gu rfl ?_; refine Gn<|Gg<|Gy<|Za Ks Ku rfl<|Vc u1 Ky hB1 rfl<|Wsl3 Jg Jc hB2 rfl<|Gj rfl (Va (a := u1) (b := .agg _) Tryz.call93 rfl rfl) (k2 _ ((Mono.mono E7 h1))) ?_; rintro _ w8 ⟨u4, rfl, E13, hO2⟩; have ichO2 := OwnedB.isC (Owned.toB hO2); have hs7 := E13.size; refine Xe rfl<|Yr u4 rfl<|Ym rfl ?_
              refine Zv u4 rfl<|Gx rfl<|Ge<|Gg<|Gg<|Vq Vt Kb rfl ?_; refine Xt rfl<|Wqnot rfl<|Qa rfl (fun _ _ => Zg (v := .bool _) rfl) (fun h5 => ?_) (fun h5 => ?_); contradiction; refine Yx u4 rfl<|Vv rfl (fun _ _ => Uq Kn rfl (Owned.read hO2)) ?_; refine Yt Ks Ku rfl<|Vv (v := u1) rfl (fun w' hw' => Zq Ky rfl (((hB1.ext E13).ext hw').cell rfl)) ?_; refine Vv rfl (fun _ _ => Uq Kn rfl h1) ?_; refine Xk rfl<|Yg rfl (fun h6 => ?_) (fun h6 => ?_); refine Yx u4 rfl<|Xb rfl (fun _ _ => Zx (a := u4) Jn rfl) (fun w' hw' => (k3 _ _ ((Mono.mono hw' (Owned.read hO2))))) ?_; refine Yt Ks Ku rfl ?_
              refine Vv (v := u1) rfl (fun w' hw' => Zq Ky rfl (((hB1.ext E13).ext hw').cell rfl)) ?_; refine Xb rfl (fun _ _ => Zx (a := u1) Jn rfl) (fun w' hw' => (k4 _ _ ((Mono.mono exq h1)))) ?_; refine Vv rfl (fun _ _ => Yi rfl rfl) ?_; refine WqpB rfl<|Xh rfl<|Vo (fun w9 E14 => ?_); have hs8 := E14.size; refine Gf rfl (fun h7 => ?_) (fun h7 => ?_); contradiction; refine Gn<|Gg ?_; rotate_left; refine Gm rfl<|Gm rfl<|Gm rfl<|Gm rfl<|Gm rfl<|Gm rfl<|Xh rfl<|Xh rfl<|Vo (fun w9 E14 => ?_); have hs8 := E14.size; refine Gu rfl ?_; refine Gn<|Gg ?_; rotate_left
            · clear stop12
              have stop13 : True := trivial
              have hQ0 := hQ1
              focus
                refine Gy<|Za Ks Kw rfl<|Vc q1 Ja (hB4.ext exq) rfl<|Za Ks Ku rfl<|Vc u3 Ky (hB4.ext exq) rfl<|Vl rfl Kx Ku Jm rfl (OwnedB.isC (hO1.ext exq)) rfl ?_; rintro b5 w10 hb7 E15 hB5 hHb5; have hs9 := E15.size; refine Wo_app1r rfl el24 rfl rfl hB5 (hQ0.ext ((E13.trans E14).trans E15)) (hO1.ext ((E13.trans E14).trans E15)) Kf Ka Ka (((E7.trans E13).trans E14).trans E15) Ka ?_; have hT1 := (hQ0.ext ((E13.trans E14).trans E15)); rintro v1 w11 hQ0 E16 M1; have E17 := M1.ext hT1 (((E8.trans E13).trans E14).trans E15) Ka; have szE17 := E17.size
                have E18 := M1.ext hT1 (((E9.trans E13).trans E14).trans E15) Ka; have E19 := M1.ext hT1 (((E10.trans E13).trans E14).trans E15) Ka; have E20 := M1.ext hT1 (((E11.trans E13).trans E14).trans E15) Ka; have hB4 := (hB4.ext exq).moves M1 hT1 Ka; have hB1 := (hB1.ext exq).moves M1 hT1 Ka; have hB2 := (hB2.ext exq).moves M1 hT1 Ka; have hB3 := (hB3.ext exq).moves M1 hT1 Ka; have hO1 := (hO1.ext exq).moves M1 hT1 Ka; have hO2 := (hO2.toB.ext exq).moves M1 hT1 Ka; have hB5 := hB5.moves M1 hT1 Ka; have hs10 := E16.size; have icv1 := OwnedB.isC (Owned.toB hQ0); refine Za Ks Kw rfl<|Yk (v := v1) rfl Kw rfl rfl (OwnedB.isC hQ0.toB) hB4 Ki Ka E16 ?_
                rintro w12 E21 hB4 K2 hz2; have E22 := E17.wroteAt E16 E21 K2 hz2 Ka; have E23 := E18.wroteAt E16 E21 K2 hz2 Ka; have E24 := E19.wroteAt E16 E21 K2 hz2 Ka; have E25 := E20.wroteAt E16 E21 K2 hz2 Ka; simp only [List.set] at hB4; have hB1 := hB1.of_heap (K2 _ Ka); have hB2 := hB2.of_heap (K2 _ Ka); have hB3 := hB3.of_heap (K2 _ Ka); have hO1 := hO1.wrote K2 Ka; have hO2 := hO2.wrote K2 Ka; have hB5 := hB5.of_heap (K2 _ Ka); refine Ge<|Gg<|Gg ?_
              clear stop13
              have hM : Moves w10 q1 w11 v1 := M1
              have hne := hM.ne hQ1 (b := b4) Ka Ka
              clear hQ1
              obtain ⟨nb, nc, rfl, hnc⟩ := hQ0.lit Ki
              have hnl : (pp ++ [p]).length = pp.length + 1 := Ki
              rw [hnl] at hB4 hQ0 hne hnc
              focus
                have szE7 := E7.size; refine Gy<|Za Ks Kw rfl<|Xm Ja hB4 rfl<|Gt Kx rfl (Owned.read hQ0)<|Xo rfl<|Ge<|Gf rfl (fun h8 => ?_) (fun h8 => ?_); refine Gy<|Za Ks Kw rfl<|Xm Ja hB4 rfl<|Wo rfl (Xl Kx Ku rfl rfl Ka) ?_; refine Za Ks Kw rfl<|Yk (v := .slice _ _ _) rfl Kw rfl rfl rfl hB4 Ki Ka E21 ?_; rintro w13 E26 hB4 K3 hz3; have E27 := E22.wroteAt E21 E26 K3 hz3 Ka; have E28 := E23.wroteAt E21 E26 K3 hz3 Ka; simp only [List.set] at hB4; have hB3 := hB3.of_heap (K3 _ Ka); have hO2 := hO2.wrote K3 Ka; refine Ge<|Gh<|Gq u4 rfl ?_
                refine Za Ks Ku rfl<|Yk (v := u4) rfl Ku rfl rfl (OwnedB.isC hO2) hB4 Ki Ka E26 ?_; rintro w14 E31 hB4 K4 hz4; simp only [List.set] at hB4; have hB3 := hB3.of_heap (K4 _ Ka); have hO2 := hO2.wrote K4 Ka; refine Ge<|Gh<|Vp Kv Kq hB4 rfl<|Xy Kq hB3 rfl E31 ?_; rintro w15 E36 hB3 K5 hz5; have hO2 := hO2.wrote K5 Ka; refine Gx rfl<|Ge<|Gv ?_; rotate_left; refine Gn<|Gh<|Gq u4 rfl<|Za Ks Ku rfl<|Yk (v := u4) rfl Ku rfl rfl (OwnedB.isC hO2) hB4 Ki Ka E21 ?_; rintro w13 E26 hB4 K3 hz3; simp only [List.set] at hB4; have hB3 := hB3.of_heap (K3 _ Ka); have hO2 := hO2.wrote K3 Ka; refine Ge<|Gh ?_
                refine Vp Kv Kq hB4 rfl<|Xy Kq hB3 rfl E26 ?_; rintro w14 E31 hB3 K4 hz4; have hO2 := hO2.wrote K4 Ka; refine Gx rfl<|Ge<|Gv ?_; rotate_left
              · have hQ3 := (hQ0.wroteLt (w' := w15) (fun k h1 h2 => (K5 k Ka).trans ((K4 k h2).trans ((K3 k h2).trans (K2 k h2)))) Ka hne).above.mono (show w.heap.size ≤ w4.heap.size by omega)
                refine ⟨b3, u4, _, rfl, hB3, u4, _, rfl, by exact E36, hO2.above.mono Ka, ?_, Kd, rfl, Ka⟩
                rw [show last8 (pp ++ [p]) = (pp ++ [p]).drop 1 from if_pos Ka]
                exact hQ3.dropS Ka
              · have hQ3 := (hQ0.wroteLt (w' := w14) (fun k h1 h2 => (K4 k Ka).trans ((K3 k h2).trans (K2 k h2))) Ka hne).above.mono (show w.heap.size ≤ w4.heap.size by omega)
                refine ⟨b3, u4, _, rfl, hB3, u4, _, rfl, by exact E31, hO2.above.mono Ka, ?_, Kd, rfl, Ka⟩
                rw [show last8 (pp ++ [p]) = pp ++ [p] from if_neg Ka]
                exact hQ3
            · clear stop12
              have stop13 : True := trivial
              have hQ0 := hQ1
              focus
                refine Gy<|Za Ks Kw rfl<|Vc q1 Ja (hB4.ext exq) rfl<|Za Ks Ku rfl<|Vc u3 Ky (hB4.ext exq) rfl<|Vl rfl Kx Ku Jm rfl (OwnedB.isC (hO1.ext exq)) rfl ?_; rintro b5 w10 hb7 E15 hB5 hHb5; have hs9 := E15.size; refine Wo_app1r rfl el24 rfl rfl hB5 (hQ0.ext ((E13.trans E14).trans E15)) (hO1.ext ((E13.trans E14).trans E15)) Kf Ka Ka (((E7.trans E13).trans E14).trans E15) Ka ?_; have hT1 := (hQ0.ext ((E13.trans E14).trans E15)); rintro v1 w11 hQ0 E16 M1; have E17 := M1.ext hT1 (((E8.trans E13).trans E14).trans E15) Ka; have szE17 := E17.size
                have E18 := M1.ext hT1 (((E9.trans E13).trans E14).trans E15) Ka; have E19 := M1.ext hT1 (((E10.trans E13).trans E14).trans E15) Ka; have E20 := M1.ext hT1 (((E11.trans E13).trans E14).trans E15) Ka; have hB4 := (hB4.ext exq).moves M1 hT1 Ka; have hB1 := (hB1.ext exq).moves M1 hT1 Ka; have hB2 := (hB2.ext exq).moves M1 hT1 Ka; have hB3 := (hB3.ext exq).moves M1 hT1 Ka; have hO1 := (hO1.ext exq).moves M1 hT1 Ka; have hO2 := (hO2.toB.ext exq).moves M1 hT1 Ka; have hB5 := hB5.moves M1 hT1 Ka; have hs10 := E16.size; have icv1 := OwnedB.isC (Owned.toB hQ0); refine Za Ks Kw rfl<|Yk (v := v1) rfl Kw rfl rfl (OwnedB.isC hQ0.toB) hB4 Ki Ka E16 ?_
                rintro w12 E21 hB4 K2 hz2; have E22 := E17.wroteAt E16 E21 K2 hz2 Ka; have E23 := E18.wroteAt E16 E21 K2 hz2 Ka; have E24 := E19.wroteAt E16 E21 K2 hz2 Ka; have E25 := E20.wroteAt E16 E21 K2 hz2 Ka; simp only [List.set] at hB4; have hB1 := hB1.of_heap (K2 _ Ka); have hB2 := hB2.of_heap (K2 _ Ka); have hB3 := hB3.of_heap (K2 _ Ka); have hO1 := hO1.wrote K2 Ka; have hO2 := hO2.wrote K2 Ka; have hB5 := hB5.of_heap (K2 _ Ka); refine Ge<|Gg<|Gg ?_
              clear stop13
              have hM : Moves w10 q1 w11 v1 := M1
              have hne := hM.ne hQ1 (b := b4) Ka Ka
              clear hQ1
              obtain ⟨nb, nc, rfl, hnc⟩ := hQ0.lit Ki
              have hnl : (pp ++ [p]).length = pp.length + 1 := Ki
              rw [hnl] at hB4 hQ0 hne hnc
              focus
                have szE7 := E7.size; refine Gy<|Za Ks Kw rfl<|Xm Ja hB4 rfl<|Gt Kx rfl (Owned.read hQ0)<|Xo rfl<|Ge<|Gf rfl (fun h7 => ?_) (fun h7 => ?_); refine Gy<|Za Ks Kw rfl<|Xm Ja hB4 rfl<|Wo rfl (Xl Kx Ku rfl rfl Ka) ?_; refine Za Ks Kw rfl<|Yk (v := .slice _ _ _) rfl Kw rfl rfl rfl hB4 Ki Ka E21 ?_; rintro w13 E26 hB4 K3 hz3; have E27 := E22.wroteAt E21 E26 K3 hz3 Ka; have E28 := E23.wroteAt E21 E26 K3 hz3 Ka; simp only [List.set] at hB4; have hB3 := hB3.of_heap (K3 _ Ka); have hO2 := hO2.wrote K3 Ka; refine Ge<|Gh<|Gq u4 rfl ?_
                refine Za Ks Ku rfl<|Yk (v := u4) rfl Ku rfl rfl (OwnedB.isC hO2) hB4 Ki Ka E26 ?_; rintro w14 E31 hB4 K4 hz4; simp only [List.set] at hB4; have hB3 := hB3.of_heap (K4 _ Ka); have hO2 := hO2.wrote K4 Ka; refine Ge<|Gh<|Vp Kv Kq hB4 rfl<|Xy Kq hB3 rfl E31 ?_; rintro w15 E36 hB3 K5 hz5; have hO2 := hO2.wrote K5 Ka; refine Gx rfl<|Ge<|Gv ?_; rotate_left; refine Gn<|Gh<|Gq u4 rfl<|Za Ks Ku rfl<|Yk (v := u4) rfl Ku rfl rfl (OwnedB.isC hO2) hB4 Ki Ka E21 ?_; rintro w13 E26 hB4 K3 hz3; simp only [List.set] at hB4; have hB3 := hB3.of_heap (K3 _ Ka); have hO2 := hO2.wrote K3 Ka; refine Ge<|Gh ?_
                refine Vp Kv Kq hB4 rfl<|Xy Kq hB3 rfl E26 ?_; rintro w14 E31 hB3 K4 hz4; have hO2 := hO2.wrote K4 Ka; refine Gx rfl<|Ge<|Gv ?_; rotate_left
              · have hQ3 := (hQ0.wroteLt (w' := w15) (fun k h1 h2 => (K5 k Ka).trans ((K4 k h2).trans ((K3 k h2).trans (K2 k h2)))) Ka hne).above.mono (show w.heap.size ≤ w4.heap.size by omega)
                refine ⟨b3, u4, _, rfl, hB3, u4, _, rfl, by exact E36, hO2.above.mono Ka, ?_, Kd, rfl, Ka⟩
                rw [show last8 (pp ++ [p]) = (pp ++ [p]).drop 1 from if_pos Ka]
                exact hQ3.dropS Ka
              · have hQ3 := (hQ0.wroteLt (w' := w14) (fun k h1 h2 => (K4 k Ka).trans ((K3 k h2).trans (K2 k h2))) Ka hne).above.mono (show w.heap.size ≤ w4.heap.size by omega)
                refine ⟨b3, u4, _, rfl, hB3, u4, _, rfl, by exact E31, hO2.above.mono Ka, ?_, Kd, rfl, Ka⟩
                rw [show last8 (pp ++ [p]) = pp ++ [p] from if_neg Ka]
                exact hQ3
  · have k0 : ∀ w, ESl Ints w u1 p → ESl (ESl Ints) w u2 pp → Does Tryz.prog 16 [.agg #[u1, u2]] w (Ret w (.bool false)) := fun w h1 h2 => by
      have := Ug w u1 u2 ⟨p, pp⟩ h1 h2; rwa [decide_eq_false hd] at this
    rw [if_neg hd, if_neg hd, decide_eq_false hd, Bool.false_and]
    focus
      refine Gh<|Zu rfl rfl rfl ?_; rintro b1 w1 hb1 E1 hB1; have hlb1 := hB1.lt; refine Zu rfl rfl rfl ?_; rintro b2 w2 hb2 E2 hB2; have hlb2 := hB2.lt; refine Zt rfl Vf ?_; rintro b3 w3 hb3 E3 hB3; refine Gx rfl<|Ge<|Gg<|Gg<|Gy<|Vp Kv Kq (hB1.ext exq) rfl<|Gj rfl (Zx (a := .agg _) Js rfl) (k0 _ ((Mono.mono exq h1)) ((Mono.mono exq h2))) ?_; rintro _ w4 ⟨rfl, E4⟩; refine Zy rfl<|Ge<|Vh rfl (fun h3 => ?_) (fun h3 => ?_); refine Gh<|Wo rfl (Yy (ps := []) (cs := [_, _]) Vf rfl rfl)<|Yo rfl Kq rfl rfl Ke Ke (hB3.ext E4) Ka (((E1.trans E2).trans E3).trans E4) ?_; rintro w5 E5 hB3 K1 hz1; have E6 := ((E2.trans E3).trans E4).wroteAt exq E5 K1 hz1 Ka; have szE6 := E6.size
      refine Gx rfl<|Ge<|Gv ?_; rotate_left; contradiction
    exact ⟨b3, _, _, rfl, hB3, _, _, rfl, by exact E5, (Owned.nil (e := 0) (X := XSl 0 XInt)).above, (Owned.nil (e := 0) (X := XSl 0 (XSl 0 XInt))).above, rfl, rfl, Ka⟩
end Go.Proofs.YtbgpppaljpngmaaGreatDoor
namespace Go.Proofs.YtbgpppaljpngmaaGreatDoor
open Go.Hs
set_option maxRecDepth 10000
set_option maxHeartbeats 4000000
set_option linter.unusedVariables false
set_option linter.unusedSimpArgs false
theorem szIntSS2_ok (w : World) (v : Value) (p : List (List Int)) (h : ESl Ints w v p) (left : Int) (hl : 0 ≤ left ∧ left ≤ 1048576) :
    Does Tryz.prog 80 [v, .int .i64 left] w (RetX w (Value.int .i64) (fun n _ => n = -1 ∨ (0 ≤ n ∧ n ≤ left - (total p : Nat) ∧ p.length ≤ 1048576 ∧ ∀ r ∈ p, r.length ≤ 1048576))) := by
  have hle := h.le
  refine Zb Tryz.func80 rfl Tryz.results80 Tryz.ntmps80 rfl ?_
  focus
    refine Gh<|Gw rfl<|Ge<|Gh<|Gk rfl<|Gq v rfl<|Gt Kn rfl h<|Xz rfl<|Gw rfl<|Ge<|Gg<|Gh<|Gk rfl<|Gs rfl<|Ge<|Gf rfl (fun h1 => ?_) (fun h1 => ?_); refine Gg<|Gy<|Gw rfl<|Ge<|Gv ?_; refine Gz (v := .int _ _) rfl ?_; refine ⟨(Ext.refl _), _, rfl, ?_⟩; (try dsimp only); rotate_left; refine Gn<|Gg<|Gh<|Gw rfl<|Ge<|Gl ?_; rotate_left
  · exact .inl rfl
  refine Zf [1, 4, 5, 12, 13, 14, 15, 16, 17, 18, 19, 20, 21, 22, 23, 24, 25] (fun (k, l) => [(5, .int .i64 (k : Nat)), (1, .int .i64 (l : Int))]) (fun (k, l) w' => Ext w w' ∧ k ≤ p.length ∧ 0 ≤ l ∧ l = left - p.length - (total (p.take k) : Nat)) (fun x => p.length - x.1) (0, left - p.length) Kg ?_ ?_
  · exact ⟨Ext.refl _, Nat.zero_le _, Ka, by simp [total]⟩
  rintro ⟨k, l⟩ ρj w1 ⟨E1, hk, h0, h1⟩
  focus
    refine Gg<|Gh<|Gk rfl<|Gq v rfl<|Gt Kn rfl h<|Gs rfl<|Ge<|Gf rfl (fun h2 => ?_) (fun h2 => ?_); refine Gn<|Gg<|Gl<|Gh<|Gq v rfl<|Gk rfl<|Zl Kn Kr Kt rfl (fun _ => rfl) rfl h E1 rfl Kf ?_; rintro _ u1 hu1; refine Gk rfl<|Gj rfl (Va (a := u1) (b := .int _ _) Tryz.call133 rfl rfl) (szIntS_ok _ _ _ ((Mono.mono E1 hu1)) _ Ka) ?_; rintro _ w2 ⟨E2, y1, rfl, hy1⟩; refine Gw rfl<|Ge<|Gh<|Gk rfl<|Gs rfl<|Ge<|Gf rfl (fun h3 => ?_) (fun h3 => ?_); refine Gh<|Gw rfl<|Ge<|Gv ?_; refine Gz (v := .int _ _) rfl ?_; refine ⟨exq, _, rfl, ?_⟩; (try dsimp only); rotate_left; refine Gn<|Gy<|Gk rfl<|Ze rfl ?_
    refine Gw rfl<|Ge ?_; rotate_left; refine Zd ?_; refine Gp ?_; refine Gh<|Gk rfl<|Gw rfl<|Ge<|Gv ?_; refine Gz (v := .int _ _) rfl ?_; refine ⟨E1, _, rfl, ?_⟩; (try dsimp only); rotate_left
  · exact .inl rfl
  · refine ⟨((k + 1, y1)), Kg, Kh, ?_, ?_⟩
    · refine ⟨E1.trans E2, Ka, Ka, ?_⟩
      rw [total_ge _ Ka]
      rcases hy1 with h9 | h9
      · omega
      · omega
    · simp only; omega
  · obtain rfl : k = p.length := by omega
    rw [List.take_length] at h1
    exact .inr ⟨Ka, Ka, Ka, fun r hr => by have := len_le_total hr; omega⟩
theorem szIntSSS2_ok (w : World) (v : Value) (p : List (List (List Int))) (h : ESl (ESl Ints) w v p) (left : Int) (hl : 0 ≤ left ∧ left ≤ 1048576) :
    Does Tryz.prog 81 [v, .int .i64 left] w (RetX w (Value.int .i64) (fun n _ => n = -1 ∨ (0 ≤ n ∧ n ≤ left - (total3 p : Nat) ∧ p.length ≤ 1048576 ∧ ∀ q ∈ p, q.length ≤ 1048576 ∧ ∀ r ∈ q, r.length ≤ 1048576))) := by
  have hle := h.le
  refine Zb Tryz.func81 rfl Tryz.results81 Tryz.ntmps81 rfl ?_
  focus
    refine Gh<|Gw rfl<|Ge<|Gh<|Gk rfl<|Gq v rfl<|Gt Kx rfl h<|Xz rfl<|Gw rfl<|Ge<|Gg<|Gh<|Gk rfl<|Gs rfl<|Ge<|Gf rfl (fun h1 => ?_) (fun h1 => ?_); refine Gg<|Gy<|Gw rfl<|Ge<|Gv ?_; refine Gz (v := .int _ _) rfl ?_; refine ⟨(Ext.refl _), _, rfl, ?_⟩; (try dsimp only); rotate_left; refine Gn<|Gg<|Gh<|Gw rfl<|Ge<|Gl ?_; rotate_left
  · exact .inl rfl
  refine Zf [1, 4, 5, 12, 13, 14, 15, 16, 17, 18, 19, 20, 21, 22, 23, 24, 25] (fun (k, l) => [(5, .int .i64 (k : Nat)), (1, .int .i64 (l : Int))]) (fun (k, l) w' => Ext w w' ∧ k ≤ p.length ∧ p.length ≤ 1048576 ∧ 0 ≤ l ∧ l ≤ left - (total3 (p.take k) : Nat) ∧ ∀ q ∈ p.take k, q.length ≤ 1048576 ∧ ∀ r ∈ q, r.length ≤ 1048576) (fun x => p.length - x.1) (0, left - p.length) Kg ?_ ?_
  · exact ⟨Ext.refl _, Nat.zero_le _, Ka, Ka, by simp [total3]; omega, Ki⟩
  rintro ⟨k, l⟩ ρj w1 ⟨E1, hk, hp1, h0, h1, h3⟩
  focus
    refine Gg<|Gh<|Gk rfl<|Gq v rfl<|Gt Kx rfl h<|Gs rfl<|Ge<|Gf rfl (fun h2 => ?_) (fun h2 => ?_); refine Gn<|Gg<|Gl<|Gh<|Gq v rfl<|Gk rfl<|Zl Kx Ku Ky rfl (fun _ => rfl) rfl h E1 rfl Kf ?_; rintro _ u1 hu1; refine Gk rfl<|Gj rfl (Va (a := u1) (b := .int _ _) Tryz.call80 rfl rfl) (szIntSS2_ok _ _ _ ((Mono.mono E1 hu1)) _ Ka) ?_; rintro _ w2 ⟨E2, y1, rfl, hy1⟩; refine Gw rfl<|Ge<|Gh<|Gk rfl<|Gs rfl<|Ge<|Gf rfl (fun h4 => ?_) (fun h4 => ?_); refine Gh<|Gw rfl<|Ge<|Gv ?_; refine Gz (v := .int _ _) rfl ?_; refine ⟨exq, _, rfl, ?_⟩; (try dsimp only); rotate_left; refine Gn<|Gy<|Gk rfl<|Ze rfl ?_
    refine Gw rfl<|Ge ?_; rotate_left; refine Zd ?_; refine Gp ?_; refine Gh<|Gk rfl<|Gw rfl<|Ge<|Gv ?_; refine Gz (v := .int _ _) rfl ?_; refine ⟨E1, _, rfl, ?_⟩; (try dsimp only); rotate_left
  · exact .inl rfl
  · refine ⟨((k + 1, y1)), Kg, Kh, ?_, ?_⟩
    · rcases hy1 with h9 | ⟨h9, h10, h11, h13⟩
      · omega
      · refine ⟨E1.trans E2, Ka, Ka, Ka, ?_, fun q hq => ?_⟩
        · rw [total3_ge _ Ka]; omega
        · rw [Zj _ _ Ka] at hq
          rcases List.mem_append.1 hq with hq | hq
          · exact h3 q hq
          · rw [List.mem_singleton.1 hq]; exact ⟨h11, h13⟩
    · simp only; omega
  · obtain rfl : k = p.length := by omega
    rw [List.take_length] at h1 h3
    exact .inr ⟨Ka, Ka, Ka, h3⟩
theorem szDesk_ok (w : World) (u1 u2 : Value) (p : List (List Int)) (pp : List (List (List Int))) (h1 : ESl Ints w u1 p) (h2 : ESl (ESl Ints) w u2 pp) (left : Int) (hl : 0 ≤ left ∧ left ≤ 1048576) :
    Does Tryz.prog 25 [.agg #[u1, u2], .int .i64 left] w (RetX w (Value.int .i64) (fun z _ => z = -1 ∨ (0 ≤ z ∧ z ≤ left - (total p : Nat) - (total3 pp : Nat) ∧ p.length ≤ 1048576 ∧ (∀ r ∈ p, r.length ≤ 1048576) ∧ pp.length ≤ 1048576 ∧ ∀ q ∈ pp, q.length ≤ 1048576 ∧ ∀ r ∈ q, r.length ≤ 1048576))) := by
  have icu1 : isCell u1 = true := Yw h1
  have icu2 : isCell u2 = true := Yw h2
  refine Zb Tryz.func25 rfl Tryz.results25 Tryz.ntmps25 rfl ?_
  focus
    refine Gh<|Zu rfl rfl rfl ?_; rintro b1 w1 hb1 E1 hB1; refine Gw rfl<|Ge<|Gg<|Gy<|Za Gd Ku rfl<|Vc u1 Ky hB1 rfl<|Gk rfl<|Gj rfl (Va (a := u1) (b := .int _ _) Tryz.call80 rfl rfl) (szIntSS2_ok _ _ _ ((Mono.mono E1 h1)) _ Kd) ?_; rintro _ w2 ⟨E2, y1, rfl, hy1⟩; refine Gw rfl<|Ge<|Gg<|Gh<|Gk rfl<|Gs rfl<|Ge<|Gf rfl (fun h3 => ?_) (fun h3 => ?_); refine Gh<|Gw rfl<|Ge<|Gv ?_; refine Gz (v := .int _ _) rfl ?_; refine ⟨exq, _, rfl, ?_⟩; (try dsimp only); rotate_left; refine Gn<|Gh<|Za Gd Kw rfl<|Vc u2 Ja (hB1.ext E2) rfl<|Gk rfl ?_
    refine Gj rfl (Va (a := u2) (b := .int _ _) Tryz.call81 rfl rfl) (szIntSSS2_ok _ _ _ ((Mono.mono exq h2)) _ Ka) ?_; rintro _ w3 ⟨E3, y2, rfl, hy2⟩; refine Gw rfl<|Ge<|Gg<|Gh<|Gk rfl<|Gs rfl<|Ge<|Gf rfl (fun h4 => ?_) (fun h4 => ?_); refine Gh<|Gw rfl<|Ge<|Gv ?_; refine Gz (v := .int _ _) rfl ?_; refine ⟨exq, _, rfl, ?_⟩; (try dsimp only); rotate_left; refine Gn<|Gh<|Gk rfl<|Gw rfl<|Ge<|Gv ?_; refine Gz (v := .int _ _) rfl ?_; refine ⟨exq, _, rfl, ?_⟩; (try dsimp only); rotate_left
  · exact .inl rfl
  · exact .inl rfl
  · rcases hy1 with h9 | ⟨h9, h10, h11, h12⟩
    · omega
    rcases hy2 with h8 | ⟨h8, h13, h14, h15⟩
    · omega
    exact .inr ⟨Ka, Ka, h11, h12, h14, h15⟩
theorem toDesk_ok (w : World) (u1 u2 : Value) (p : List (List Int)) (pp : List (List (List Int))) (h1 : ESl Ints w u1 p) (h2 : ESl (ESl Ints) w u2 pp) (hp : p.length ≤ 1048576 ∧ ∀ r ∈ p, r.length ≤ 1048576) (hl : pp.length ≤ 1048576) (hq : ∀ q ∈ pp, q.length ≤ 1048576 ∧ ∀ r ∈ q, r.length ≤ 1048576) :
    Does Tryz.prog 27 [.agg #[u1, u2]] w (RetDk w 23 88 3 p pp) := by
  have icu1 : isCell u1 = true := Yw h1
  have icu2 : isCell u2 = true := Yw h2
  have k1 := fun (w : World) (h : ESl Ints w u1 p) => toIntSS_ok w u1 p h hp.1 hp.2
  have k2 := fun (w : World) (h : ESl (ESl Ints) w u2 pp) => toIntSSS_ok w u2 pp h hl hq
  refine fn_of_Wc Tryz.func27 rfl Tryz.results27 Tryz.ntmps27 rfl Kv Kq ?_
  focus
    refine Gh<|Zu rfl rfl rfl ?_; rintro b1 w1 hb1 E1 hB1; have hlb1 := hB1.lt; refine Zt rfl Vf ?_; rintro b2 w2 hb2 E2 hB2; have hlb2 := hB2.lt; refine Ge<|Gh<|Zt rfl Vf ?_; rintro b3 w3 hb3 E3 hB3; have hlb3 := hB3.lt; have hs3 := E3.size; refine Ge<|Gg<|Gy<|Za Gd Ku rfl<|Vc u1 Ky (hB1.ext exq) rfl<|Gj rfl (Zx (a := u1) Tryz.call82 rfl) (k1 _ ((Mono.mono exq h1))) ?_; rintro u3 w4 ⟨E4, hO1⟩; have ichO1 := OwnedB.isC (Owned.toB hO1); have hs4 := E4.size; refine Za Ks Ku rfl<|Yk (v := u3) rfl Ku rfl rfl (OwnedB.isC hO1.toB) (hB3.ext E4) Kc Ka (((E1.trans E2).trans E3).trans E4) ?_; rintro w5 E5 hB3 K1 hz1; have E6 := ((E2.trans E3).trans E4).wroteAt exq E5 K1 hz1 Ka; have szE6 := E6.size
    simp only [List.set] at hB3; have hB1 := (hB1.ext exq).of_heap (K1 _ Ka); have hB2 := (hB2.ext exq).of_heap (K1 _ Ka); have hO1 := hO1.toB.wrote K1 Ka; refine Ge<|Gh<|Za Gd Kw rfl<|Vc u2 Ja hB1 rfl<|Gj rfl (Zx (a := u2) Tryz.call83 rfl) (k2 _ ((Mono.mono E5 h2))) ?_; rintro u4 w6 ⟨E8, hO2⟩; have ichO2 := OwnedB.isC (Owned.toB hO2); have hs5 := E8.size; refine Za Ks Kw rfl<|Yk (v := u4) rfl Kw rfl rfl (OwnedB.isC hO2.toB) (hB3.ext E8) Ki Ka (E5.trans E8) ?_; rintro w7 E9 hB3 K2 hz2; simp only [List.set] at hB3; have hB2 := (hB2.ext E8).of_heap (K2 _ Ka); have hO1 := (hO1.ext E8).wrote K2 Ka; have hO2 := hO2.toB.wrote K2 Ka; refine Ge<|Gh ?_
    refine Vp Kv Kq hB3 rfl<|Xy Kq hB2 rfl E9 ?_; rintro w8 E12 hB2 K3 hz3; have hO1 := hO1.wrote K3 Ka; have hO2 := hO2.wrote K3 Ka; refine Ge<|Gv ?_
  exact ⟨b2, _, _, rfl, hB2, _, _, w4.heap.size, rfl, by exact E12, hO1.wide Ka (Nat.le_refl _), hO2.o.mono Ka, Ka, Ka⟩
end Go.Proofs.YtbgpppaljpngmaaGreatDoor
namespace Go.Proofs.YtbgpppaljpngmaaGreatDoor
open Go.Hs
set_option maxRecDepth 10000
set_option maxHeartbeats 4000000
set_option linter.unusedVariables false
set_option linter.unusedSimpArgs false
theorem dk_total {d : Dsk} (h : DkOk d) : total d.now ≤ 25 ∧ total3 d.past ≤ 200 ∧ d.now.length ≤ 5 ∧ ∀ q ∈ d.past, q.length ≤ 5 := by
  have h3 : ∀ (l : List (List (List Int))), (∀ q ∈ l, Pic q) → total3 l ≤ l.length * 25 := by
    intro l
    induction l with
    | nil => intro _; simp [total3]
    | cons q l ih =>
      intro h
      have h1 := ih (fun x hx => h x (List.mem_cons_of_mem _ hx))
      have h2 := pic_total (h q (List.mem_cons_self ..))
      simp only [total3, List.length_cons]
      omega
  refine ⟨pic_total h.1.1, ?_, h.1.1.2.1, fun q hq => (h.2.2 q hq).1.2.1⟩
  have := h3 d.past (fun q hq => (h.2.2 q hq).1)
  have := h.2.1
  omega
end Go.Proofs.YtbgpppaljpngmaaGreatDoor
set_option linter.unusedVariables false
set_option linter.unusedSimpArgs false
namespace Go.Hs
open Go.RowKit (Below)
def dcs (l : List Deed) : List Value := l.flatMap fun a => [.int .i64 a.kind, str a.text, .int .i64 a.node]
theorem dcs_len (l : List Deed) : (dcs l).length = l.length * 3 := by
  induction l with
  | nil => rfl
  | cons a l ih => simp only [dcs, List.flatMap_cons, List.length_append, List.length_cons, List.length_nil] at ih ⊢; omega
theorem dcs_app (l m : List Deed) : dcs (l ++ m) = dcs l ++ dcs m := by simp [dcs]
theorem dcs_at : ∀ (l : List Deed) (i : Nat) (h : i < l.length), (dcs l)[i * 3]? = some (.int .i64 l[i].kind) ∧ (dcs l)[i * 3 + 1]? = some (str l[i].text) ∧ (dcs l)[i * 3 + 2]? = some (.int .i64 l[i].node)
  | a :: l, 0, _ => ⟨rfl, rfl, rfl⟩
  | a :: l, i + 1, h => by
    have := dcs_at l i (by simpa using h)
    simp only [List.getElem_cons_succ]
    have e : dcs (a :: l) = [.int .i64 a.kind, str a.text, .int .i64 a.node] ++ dcs l := rfl
    have e1 : (i + 1) * 3 = i * 3 + 3 := Ka
    rw [e, e1]
    refine ⟨?_, ?_, ?_⟩
    · rw [List.getElem?_append_right Ki]; simpa using this.1
    · rw [List.getElem?_append_right Ki]; simpa using this.2.1
    · rw [List.getElem?_append_right Ki]; simpa using this.2.2
def OD (e : TypeId) (lo : Nat) (w : World) (v : Value) (l : List Deed) : Prop := w.ownsRow lo e 3 v l.length (dcs l) ∧ ∀ a ∈ l, a.text.length ≤ 9223372036854775807
section
variable {e : TypeId} {lo : Nat} {w w' w0 : World} {v : Value} {l m : List Deed}
theorem OD.ext (h : OD e lo w v l) (k : Ext w w') : OD e lo w' v l :=
  ⟨h.1.kept (row := none) ⟨k.os, k.tape, k.output, k.size, fun i hi _ => k.block i hi⟩ (by cases hv : v.ownBlock <;> simp), h.2⟩
instance : Mono (OD e lo) := ⟨fun k h => h.ext k⟩
theorem OD.lt (h : OD e lo w v l) {k : Nat} (hk : v.ownBlock = some k) : lo ≤ k ∧ k < w.heap.size := h.1.lt k hk
theorem OD.read (h : OD e lo w v l) : ESD w v l := by
  have hA := h.1.2
  rcases hA with ⟨rfl, h0⟩ | ⟨g, cap, cur, rfl, hb, hg, hnc, hcm, hcs, ht⟩
  · have : l = [] := List.eq_nil_of_length_eq_zero h0
    subst this
    exact ⟨none, 0, rfl, Ki, .inl rfl⟩
  · refine ⟨_, _, rfl, by unfold maxLen at hcm; omega, .inr ⟨g, 0, rfl, fun i hi => ?_⟩⟩
    obtain ⟨h1, h2, h3⟩ := dcs_at l i hi
    have c0 := h.1.cellAt (i * 3) Ka
    have c1 := h.1.cellAt (i * 3 + 1) Ka
    have c2 := h.1.cellAt (i * 3 + 2) Ka
    rw [Nat.zero_add]
    exact ⟨c0.trans h1, c1.trans h2, c2.trans h3, h.2 _ (List.getElem_mem hi)⟩
theorem OD.blk {b n : Nat} (hb : w.heap[b]? = some (.cells (dcs l).toArray e (0, 0))) (hl : lo ≤ b) (hn : l.length = n) (hm : n ≤ maxLen) (hx : ∀ a ∈ l, a.text.length ≤ 9223372036854775807) : OD e lo w (.slice (some ⟨b, 0, none⟩) n n) l := by
  subst hn
  exact ⟨⟨dcs_len l, .inr ⟨b, l.length, (dcs l).toArray, rfl, hl, hb, Nat.le_refl _, hm, by simp [dcs_len], by rw [List.take_of_length_le (by simp [dcs_len])]⟩⟩, hx⟩
end
structure ElD (P : Program) (t e : TypeId) : Prop where
  und : P.underlying t = some (.slice e)
  info : ∃ i, P.info? e = some i ∧ i.zero = some (.agg #[.int .i64 0, str [], .int .i64 0]) ∧ i.size = 3 ∧ i.bytes ≤ 64
  size : ∀ w, (sizeOf e).run P w = .ok 3 w
  zero : ∀ w, (zeroValue e).run P w = .ok (.agg #[.int .i64 0, str [], .int .i64 0]) w
theorem ElD.of {P : Program} {t e : TypeId} (hu : P.underlying t = some (.slice e)) (h : (P.info? e).map (fun i => (i.zero, i.size, Nat.ble i.bytes 64)) = some (some (.agg #[.int .i64 0, str [], .int .i64 0]), 3, true))
    (hs : ∀ w, (sizeOf e).run P w = .ok 3 w) (hz : ∀ w, (zeroValue e).run P w = .ok (.agg #[.int .i64 0, str [], .int .i64 0]) w) : ElD P t e := by
  refine ⟨hu, ?_, hs, hz⟩
  cases hi : P.info? e with
  | none => rw [hi] at h; cases h
  | some i =>
    rw [hi] at h
    simp only [Option.map_some, Option.some.injEq, Prod.mk.injEq] at h
    exact ⟨i, rfl, h.1, h.2.1, by simpa using h.2.2⟩
section
variable {P : Program} {n : Nat} {N : Env → World → Prop} {ρ : Env} {w w0 : World} {all : Array Oper} {rest : List Oper} {d : Nat} {ty t el : TypeId} {pos : String} {after : Array Edge} {g : Option (Nat × Bool)} {x y z s : Operand} {v : Value} {l m : List Deed} {lo : Nat} {a1 a2 a3 : Deed}
end
end Go.Hs
set_option linter.unusedVariables false
set_option linter.unusedSimpArgs false
namespace Go.Hs
theorem dcs_set0 : ∀ (l : List Deed) (k : Nat) (h : k < l.length) (x : Int), (dcs l).set (k * 3) (.int .i64 x) = dcs (l.set k ⟨x, l[k].text, l[k].node⟩)
  | a :: l, 0, _, x => rfl
  | a :: l, k + 1, h, x => by
    have e : (k + 1) * 3 = k * 3 + 3 := Ka
    rw [e]
    show _ :: _ :: _ :: (dcs l).set (k * 3) _ = _
    rw [dcs_set0 l k (by simpa using h)]
    rfl
theorem dcs_set1 : ∀ (l : List Deed) (k : Nat) (h : k < l.length) (x : List UInt8), (dcs l).set (k * 3 + 1) (str x) = dcs (l.set k ⟨l[k].kind, x, l[k].node⟩)
  | a :: l, 0, _, x => rfl
  | a :: l, k + 1, h, x => by
    have e : (k + 1) * 3 + 1 = k * 3 + 1 + 3 := Ka
    rw [e]
    show _ :: _ :: _ :: (dcs l).set (k * 3 + 1) _ = _
    rw [dcs_set1 l k (by simpa using h)]
    rfl
theorem dcs_set2 : ∀ (l : List Deed) (k : Nat) (h : k < l.length) (x : Int), (dcs l).set (k * 3 + 2) (.int .i64 x) = dcs (l.set k ⟨l[k].kind, l[k].text, x⟩)
  | a :: l, 0, _, x => rfl
  | a :: l, k + 1, h, x => by
    have e : (k + 1) * 3 + 2 = k * 3 + 2 + 3 := Ka
    rw [e]
    show _ :: _ :: _ :: (dcs l).set (k * 3 + 2) _ = _
    rw [dcs_set2 l k (by simpa using h)]
    rfl
section
variable {e : TypeId} {lo : Nat} {w w' w0 : World} {v : Value} {l m : List Deed} {b n c k : Nat} {u : Value}
theorem OD.lit (h : OD e lo w v l) (hp : 0 < l.length) : ∃ b c, v = .slice (some ⟨b, 0, none⟩) l.length c := by
  rcases h.1.2 with ⟨rfl, h0⟩ | ⟨g, cap, cur, rfl, _⟩
  · omega
  · exact ⟨_, _, rfl⟩
theorem OD.len (h : OD e lo w (.slice (some ⟨b, 0, none⟩) n c) l) : n = l.length := by
  rcases h.1.2 with ⟨h0, _⟩ | ⟨g, cap, cur, h0, _⟩
  · cases h0
  · injection h0
theorem OD.free (h : OD e lo w (.slice (some ⟨b, 0, none⟩) n c) l) (j : Nat) : w.frozen? ⟨b, j, none⟩ = false := by
  rcases h.1.2 with ⟨h0, _⟩ | ⟨g, cap, cur, h0, _, hg, _⟩
  · cases h0
  · injection h0 with h1 h2 h3
    injection h1 with h1
    injection h1 with h1 _ _
    subst h1
    simp [World.frozen?, hg]
theorem OD.at (h : OD e lo w (.slice (some ⟨b, 0, none⟩) n c) l) (hk : k < l.length) : DeedAt w b (0 + k * 3) l[k] := by
  obtain rfl := h.len
  obtain ⟨h1, h2, h3⟩ := dcs_at l k hk
  rw [Nat.zero_add]
  exact ⟨(h.1.cellAt (k * 3) Ka).trans h1, (h.1.cellAt (k * 3 + 1) Ka).trans h2, (h.1.cellAt (k * 3 + 2) Ka).trans h3, h.2 _ (List.getElem_mem hk)⟩
theorem OD.set0 (h : OD e lo w (.slice (some ⟨b, 0, none⟩) n c) l) (hk : k < l.length) (x : Int) : OD e lo (w.setCell ⟨b, 0 + k * 3, none⟩ (.int .i64 x)) (.slice (some ⟨b, 0, none⟩) n c) (l.set k ⟨x, l[k].text, l[k].node⟩) := by
  obtain rfl := h.len
  have := (h.1.stored (k * 3) (.int .i64 x)).1
  rw [dcs_set0 l k hk] at this
  refine ⟨by rw [List.length_set, Nat.zero_add]; exact this, fun a ha => ?_⟩
  rcases List.mem_or_eq_of_mem_set ha with ha | rfl
  · exact h.2 a ha
  · have := h.2 l[k] (List.getElem_mem hk)
    exact this
theorem OD.set1 (h : OD e lo w (.slice (some ⟨b, 0, none⟩) n c) l) (hk : k < l.length) (x : List UInt8) (hx : x.length ≤ 9223372036854775807) : OD e lo (w.setCell ⟨b, 0 + k * 3 + 1, none⟩ (str x)) (.slice (some ⟨b, 0, none⟩) n c) (l.set k ⟨l[k].kind, x, l[k].node⟩) := by
  obtain rfl := h.len
  have := (h.1.stored (k * 3 + 1) (str x)).1
  rw [dcs_set1 l k hk] at this
  refine ⟨by rw [List.length_set, Nat.zero_add]; exact this, fun a ha => ?_⟩
  rcases List.mem_or_eq_of_mem_set ha with ha | rfl
  · exact h.2 a ha
  · exact hx
theorem OD.set2 (h : OD e lo w (.slice (some ⟨b, 0, none⟩) n c) l) (hk : k < l.length) (x : Int) : OD e lo (w.setCell ⟨b, 0 + k * 3 + 2, none⟩ (.int .i64 x)) (.slice (some ⟨b, 0, none⟩) n c) (l.set k ⟨l[k].kind, l[k].text, x⟩) := by
  obtain rfl := h.len
  have := (h.1.stored (k * 3 + 2) (.int .i64 x)).1
  rw [dcs_set2 l k hk] at this
  refine ⟨by rw [List.length_set, Nat.zero_add]; exact this, fun a ha => ?_⟩
  rcases List.mem_or_eq_of_mem_set ha with ha | rfl
  · exact h.2 a ha
  · have := h.2 l[k] (List.getElem_mem hk)
    exact this
end
section
variable {P : Program} {N : Env → World → Prop} {ρ : Env} {w w0 : World} {all : Array Oper} {rest : List Oper} {d : Nat} {ty t el e : TypeId} {pos : String} {after : Array Edge} {g : Option (Nat × Bool)} {x y : Operand} {l : List Deed} {lo b n c k : Nat} {nn : Nat}
theorem Wo_stD0 {z : Int} (hw : wantedE all ⟨none, .store t x y, ty, pos, after, g⟩ ρ = true) (ht : ∀ w, (sizeOf t).run P w = .ok 1 w) (hx : evalE ρ x = .pointer (some ⟨b, 0 + k * 3 + 0, none⟩)) (hy : evalE ρ y = .int .i64 z)
    (h : OD e lo w (.slice (some ⟨b, 0, none⟩) n c) l) (hk : k < l.length)
    (hk' : ∀ w1, OD e lo w1 (.slice (some ⟨b, 0, none⟩) n c) (l.set k ⟨z, l[k].text, l[k].node⟩) → Only [b] w w1 → (∀ k, k ≠ b → w1.heap[k]? = w.heap[k]?) → w1.heap.size = w.heap.size → Wops P nn all rest N ρ w1) :
    Wops P nn all (⟨none, .store t x y, ty, pos, after, g⟩ :: rest) N ρ w :=
  Uf hw (Qk ht hx hy rfl (h.at hk).1 (h.free _)) (hk' _ (h.set0 hk z) (Only.setCell (List.mem_singleton.2 rfl)) (fun k h3 => Zo _ h3) (size_setCell _ _))
theorem Wo_stD1 {z : List UInt8} (hw : wantedE all ⟨none, .store t x y, ty, pos, after, g⟩ ρ = true) (ht : ∀ w, (sizeOf t).run P w = .ok 1 w) (hx : evalE ρ x = .pointer (some ⟨b, 0 + k * 3 + 1, none⟩)) (hy : evalE ρ y = str z)
    (h : OD e lo w (.slice (some ⟨b, 0, none⟩) n c) l) (hk : k < l.length) (hz : z.length ≤ 9223372036854775807)
    (hk' : ∀ w1, OD e lo w1 (.slice (some ⟨b, 0, none⟩) n c) (l.set k ⟨l[k].kind, z, l[k].node⟩) → Only [b] w w1 → (∀ k, k ≠ b → w1.heap[k]? = w.heap[k]?) → w1.heap.size = w.heap.size → Wops P nn all rest N ρ w1) :
    Wops P nn all (⟨none, .store t x y, ty, pos, after, g⟩ :: rest) N ρ w :=
  Uf hw (Qk ht hx hy rfl (h.at hk).2.1 (h.free _)) (hk' _ (h.set1 hk z hz) (Only.setCell (List.mem_singleton.2 rfl)) (fun k h3 => Zo _ h3) (size_setCell _ _))
theorem Wo_stD2 {z : Int} (hw : wantedE all ⟨none, .store t x y, ty, pos, after, g⟩ ρ = true) (ht : ∀ w, (sizeOf t).run P w = .ok 1 w) (hx : evalE ρ x = .pointer (some ⟨b, 0 + k * 3 + 2, none⟩)) (hy : evalE ρ y = .int .i64 z)
    (h : OD e lo w (.slice (some ⟨b, 0, none⟩) n c) l) (hk : k < l.length)
    (hk' : ∀ w1, OD e lo w1 (.slice (some ⟨b, 0, none⟩) n c) (l.set k ⟨l[k].kind, l[k].text, z⟩) → Only [b] w w1 → (∀ k, k ≠ b → w1.heap[k]? = w.heap[k]?) → w1.heap.size = w.heap.size → Wops P nn all rest N ρ w1) :
    Wops P nn all (⟨none, .store t x y, ty, pos, after, g⟩ :: rest) N ρ w :=
  Uf hw (Qk ht hx hy rfl (h.at hk).2.2.1 (h.free _)) (hk' _ (h.set2 hk z) (Only.setCell (List.mem_singleton.2 rfl)) (fun k h3 => Zo _ h3) (size_setCell _ _))
theorem Wo_stDA {a : Deed} (hw : wantedE all ⟨none, .store t x y, ty, pos, after, g⟩ ρ = true) (ht : ∀ w, (sizeOf t).run P w = .ok 3 w) (hx : evalE ρ x = .pointer (some ⟨b, 0 + k * 3, none⟩)) (hy : evalE ρ y = dv a)
    (h : OD e lo w (.slice (some ⟨b, 0, none⟩) n c) l) (hk : k < l.length) (hz : a.text.length ≤ 9223372036854775807)
    (hk' : ∀ w1, OD e lo w1 (.slice (some ⟨b, 0, none⟩) n c) (l.set k a) → Only [b] w w1 → (∀ k, k ≠ b → w1.heap[k]? = w.heap[k]?) → w1.heap.size = w.heap.size → Wops P nn all rest N ρ w1) :
    Wops P nn all (⟨none, .store t x y, ty, pos, after, g⟩ :: rest) N ρ w := by
  have h0 := h.set0 hk a.kind
  have hk0 : k < (l.set k ⟨a.kind, l[k].text, l[k].node⟩).length := by rw [List.length_set]; exact hk
  have h1 := h0.set1 hk0 a.text hz
  rw [List.set_set, List.getElem_set_self] at h1
  have hk1 : k < (l.set k ⟨a.kind, a.text, l[k].node⟩).length := by rw [List.length_set]; exact hk
  have h2 := h1.set2 hk1 a.node
  rw [List.set_set, List.getElem_set_self] at h2
  have k1 := Vy (P := P) (v := .int .i64 a.kind) rfl (h.at hk).1 (h.free _)
  have k2 := Vy (P := P) (v := str a.text) rfl (h0.at hk0).2.1 (h0.free _)
  have k3 := Vy (P := P) (v := .int .i64 a.node) rfl (h1.at hk1).2.2.1 (h1.free _)
  refine Uf (w' := ((w.setCell ⟨b, 0 + k * 3, none⟩ (.int .i64 a.kind)).setCell ⟨b, 0 + k * 3 + 1, none⟩ (str a.text)).setCell ⟨b, 0 + k * 3 + 2, none⟩ (.int .i64 a.node)) hw ?_ (hk' _ h2 ?_ (fun k h3 => ?_) ?_)
  · have ea : ∀ i, (⟨b, 0 + k * 3, none⟩ : Addr).add i = ⟨b, 0 + k * 3 + i, none⟩ := fun i => Rl b _ i
    simp only [Nat.zero_add] at k1 k2 k3 ea
    simp [OpS, execOp, hx, hy, Instr.storeAt, Instr.sureAddr, storeVar, ht, dv, Value.cells, storeCells, ea, k1, k2, k3]
  · exact ((Only.setCell (List.mem_singleton.2 rfl)).trans (Only.setCell (List.mem_singleton.2 rfl))).trans (Only.setCell (List.mem_singleton.2 rfl))
  · rw [Zo _ h3, Zo _ h3, Zo _ h3]
  · rw [size_setCell, size_setCell, size_setCell]
theorem Wq_getD {M : Env → Prop} {d2 : Nat} {tl ty2 : TypeId} {pos2 : String} {after2 : Array Edge} {g2 : Option (Nat × Bool)} {v : Value} (ht : P.underlying t = some (.slice el)) (hs : ∀ w, (sizeOf el).run P w = .ok 3 w) (hta : ∀ w, (isAgg tl).run P w = .ok true w) (hts : ∀ w, (sizeOf tl).run P w = .ok 3 w)
    (hw : wantedE all ⟨some d, .indexAddr t x y, ty, pos, after, g⟩ ρ = true) (hw2 : ∀ v, wantedE all ⟨some d2, .load tl (.tmp d), ty2, pos2, after2, g2⟩ (upd ρ d v) = true)
    (hx : evalE ρ x = v) (hR : ESD w0 v l) (hE : Ext w0 w) (hy : evalE ρ y = .int .i64 (k : Int)) (hk : k < l.length)
    (hk' : ∀ ad, Wq P nn all w rest M (upd (upd ρ d (.pointer (some ad))) d2 (dv l[k]))) : Wq P nn all w (⟨some d, .indexAddr t x y, ty, pos, after, g⟩ :: ⟨some d2, .load tl (.tmp d), ty2, pos2, after2, g2⟩ :: rest) M ρ := by
  obtain ⟨a, c, rfl, h1, h2⟩ := hR
  rcases h2 with rfl | ⟨b, o, rfl, h⟩
  · cases hk
  have hD := (h k hk).ext hE
  refine Vv hw (fun w' _ => Yu ht hs hx hy hk) ?_
  refine Vv (hw2 _) (fun w' hw' => Re hta hts (by simp [evalE, upd]) (hD.ext hw').1 (hD.ext hw').2.1 (hD.ext hw').2.2.1) ?_
  exact hk' _
theorem made3 (m : Nat) : madeCells (Value.agg #[.int .i64 0, str [], .int .i64 0]).cells (m * 3) = (dcs (List.replicate m ⟨0, [], 0⟩)).toArray := by
  apply Array.ext'
  unfold madeCells
  simp only [Value.cells, Array.toList_map, Array.toList_range]
  induction m with
  | zero => rfl
  | succ m ih =>
    rw [show (m + 1) * 3 = m * 3 + 1 + 1 + 1 by omega, List.range_succ, List.range_succ, List.range_succ, List.replicate_succ', dcs_app]
    simp only [List.map_append, List.map_cons, List.map_nil, List.append_assoc, List.cons_append, List.nil_append]
    rw [ih]
    have e0 : m * 3 % 3 = 0 := Ka
    have e1 : (m * 3 + 1) % 3 = 1 := Ka
    have e2 : (m * 3 + 1 + 1) % 3 = 2 := Ka
    simp [dcs, e0, e1, e2]
theorem Wo_makeD {kk : IntKind} {m : Nat} (hw : wantedE all ⟨some d, .makeSlice t x x, ty, pos, after, g⟩ ρ = true) (hel : ElD P t e) (hx : evalE ρ x = .int kk (m : Int)) (ha : m ≤ 1099511627776)
    (hk : ∀ b w1, w.heap.size ≤ b → b < w1.heap.size → Ext w w1 → OD e w.heap.size w1 (.slice (some ⟨b, 0, none⟩) m m) (List.replicate m ⟨0, [], 0⟩) → Wops P nn all rest N (upd ρ d (.slice (some ⟨b, 0, none⟩) m m)) w1) :
    Wops P nn all (⟨some d, .makeSlice t x x, ty, pos, after, g⟩ :: rest) N ρ w := by
  obtain ⟨i, hi, hz, hs, hby⟩ := hel.info
  have hm : ((i.bytes : Int) * (m : Int)) ≤ 281474976710656 := by
    have : i.bytes * m ≤ 64 * 1099511627776 := Nat.mul_le_mul hby Ka
    have h2 : ((i.bytes * m : Nat) : Int) ≤ 70368744177664 := Ka
    have h3 : ((i.bytes * m : Nat) : Int) = (i.bytes : Int) * (m : Int) := Int.natCast_mul _ _
    rw [← h3]; omega
  have hr := run_make (P := P) w t e i _ hel.und hi hz kk kk (m : Int) (m : Int) Ka (Int.le_refl _) hm Ka
  rw [hs, Int.toNat_natCast, made3] at hr
  refine Qo (v := .slice (some ⟨w.heap.size, 0, none⟩) m m) (w' := w.alloc (.cells (dcs (List.replicate m ⟨0, [], 0⟩)).toArray e)) hw ?_ (hk _ _ (Nat.le_refl _) Ki ((Ext.refl w).alloc _)
    (OD.blk (heap_alloc_new w _) (Nat.le_refl _) Ki (by unfold maxLen; omega) (fun a h => by rw [List.eq_of_mem_replicate h]; simp)))
  simp only [execOp, Sem.run_bind, Sem.run_pure, Result.andThen_ok, hx, hr]
end
theorem OD.span {e : TypeId} {lo lo' hi' : Nat} {w1 w w' : World} {v : Value} {l : List Deed} (h : OD e lo w1 v l) (E : Ext w1 w) (s : Span lo' hi' w w') (hd : w1.heap.size ≤ lo' ∨ hi' ≤ lo) : OD e lo w' v l := by
  refine ⟨?_, h.2⟩
  rcases h.1.2 with ⟨rfl, h0⟩ | ⟨g, cap, cur, rfl, hb2, hg, hnc, hcm, hcs, ht⟩
  · exact ⟨h.1.1, .inl ⟨rfl, h0⟩⟩
  · have hlt := (h.lt (k := g) rfl).2
    exact ⟨h.1.1, .inr ⟨g, cap, cur, rfl, hb2, ((s.block g Ka (Nat.lt_of_lt_of_le hlt E.size)).trans (E.block g hlt)).trans hg, hnc, hcm, hcs, ht⟩⟩
theorem Ext.toSpan {lo hi : Nat} {w w' : World} (h : Ext w w') : Span lo hi w w' := Span.of_only (Ext.only (fp := []) h) (fun k hk => by cases hk)
def RetOD (w : World) (e : TypeId) (l : List Deed) : Value → World → Prop := fun v w' => Ext w w' ∧ OD e w.heap.size w' v l
end Go.Hs
namespace Go.Proofs.YtbgpppaljpngmaaGreatDoor
open Go.Hs
set_option maxRecDepth 10000
set_option maxHeartbeats 4000000
set_option linter.unusedVariables false
set_option linter.unusedSimpArgs false
end Go.Proofs.YtbgpppaljpngmaaGreatDoor
set_option linter.unusedVariables false
namespace Go.Hs
variable {P : Program} {n fuel : Nat} {N : Env → World → Prop} {ρ : Env} {w w0 : World} {all : Array Oper} {S : World → Prop} {listed : Array Bool} {d d2 : Nat} {ty t el tl ty2 : TypeId} {pos pos2 : String} {after after2 : Array Edge} {g g2 : Option (Nat × Bool)} {x y : Operand} {v : Value}
theorem Wh_getD {l : List Deed} {k : Nat} (i j : Nat) (hi : all[i]? = some ⟨some d, .indexAddr t x y, ty, pos, after, g⟩) (hf : Region.free .any all listed i = true) (hr : (Region.ready .any all listed).contains i = true)
    (hw : wantedE all ⟨some d, .indexAddr t x y, ty, pos, after, g⟩ ρ = true)
    (hi2 : all[j]? = some ⟨some d2, .load tl (.tmp d), ty2, pos2, after2, g2⟩) (hf2 : Region.free .any all (listed.setIfInBounds i true) j = true) (hr2 : (Region.ready .any all (listed.setIfInBounds i true)).contains j = true)
    (hw2 : ∀ v, wantedE all ⟨some d2, .load tl (.tmp d), ty2, pos2, after2, g2⟩ (upd ρ d v) = true)
    (ht : P.underlying t = some (.slice el)) (hs : ∀ w, (sizeOf el).run P w = .ok 3 w) (hta : ∀ w, (isAgg tl).run P w = .ok true w) (hts : ∀ w, (sizeOf tl).run P w = .ok 3 w)
    (hx : evalE ρ x = v) (hR : ESD w0 v l) (hE : ∀ w', S w' → Ext w0 w') (hy : evalE ρ y = .int .i64 (k : Int)) (hk : k < l.length) (hS : S w)
    (hk' : ∀ ad, Wh P n all S fuel ((listed.setIfInBounds i true).setIfInBounds j true) N (upd (upd ρ d (.pointer (some ad))) d2 (dv l[k])) w) :
    Wh P n all S (fuel + 2) listed N ρ w := by
  obtain ⟨a, c, rfl, h1, h2⟩ := hR
  rcases h2 with rfl | ⟨b, o, rfl, h⟩
  · cases hk
  have hD := h k hk
  refine Vm i hi hf hr hw (fun _ _ => Yu ht hs hx hy hk) hS ?_
  refine Vm j hi2 hf2 hr2 (hw2 _) (fun w' hw' => Re hta hts ?_ (hD.ext (hE w' hw')).1 (hD.ext (hE w' hw')).2.1 (hD.ext (hE w' hw')).2.2.1) hS (hk' _)
  show upd ρ d _ d = _
  unfold upd; rw [Nat.beq_refl]; rfl
end Go.Hs
set_option linter.unusedVariables false
namespace Go.Hs
end Go.Hs
set_option linter.unusedVariables false
namespace Go.Hs
def RetDkZ (w : World) (e0 e1 e2 : TypeId) (now : List (List Int)) (past : List (List (List Int))) (z : Int) : Value → World → Prop := fun v w' => ∃ u1 u2 m, v = .tuple #[.agg #[u1, u2], .int .i64 z] ∧ Ext w w' ∧ OwnedB w.heap.size m (XSl e1 (XSl e2 XInt)) w' u1 now ∧ Owned m (XSl e0 (XSl e1 (XSl e2 XInt))) w' u2 past ∧ w.heap.size ≤ m ∧ m ≤ w'.heap.size
def RetDkRZ (w : World) (now : List (List Int)) (past : List (List (List Int))) (z : Int) : Value → World → Prop := fun v w' => ∃ u1 u2, v = .tuple #[.agg #[u1, u2], .int .i64 z] ∧ Ext w w' ∧ OwnedB w.heap.size w'.heap.size (XRd (ESl Ints)) w' u1 now ∧ OwnedB w.heap.size w'.heap.size (XRd (ESl (ESl Ints))) w' u2 past ∧ isCell u1 = true ∧ isCell u2 = true
end Go.Hs
namespace Go.Proofs.YtbgpppaljpngmaaGreatDoor
open Go.Hs
set_option maxRecDepth 10000
set_option maxHeartbeats 4000000
set_option linter.unusedVariables false
set_option linter.unusedSimpArgs false
open Classical in
noncomputable def drV (d : Dsk) (l : List Deed) : Dsk × Nat := if DkOk d ∧ l.length ≤ 40 then runV d l else (⟨[], []⟩, 0)
open Classical in
theorem impl_DeskRun_ok (w : World) (hM : EMx gMx w (.bool true) ()) (u1 u2 : Value) (d : Dsk) (h1 : ESl Ints w u1 d.now) (h2 : ESl (ESl Ints) w u2 d.past) (vl : Value) (l : List Deed) (hl : ESD w vl l) (hx : ∀ a ∈ l, a.text.length ≤ 1048576) :
    Does Tryz.prog 43 [.agg #[u1, u2], vl] w (RetDkZ w 23 88 3 (drV d l).1.now (drV d l).1.past ((drV d l).2 : Nat)) := by
  have icu1 : isCell u1 = true := Yw h1
  have icu2 : isCell u2 = true := Yw h2
  have hle := hl.le
  refine fn_of_Wct Tryz.func43 rfl Tryz.results43 Tryz.ntmps43 rfl Kv Kq ?_
  by_cases hd : DkOk d
  · have k0 : ∀ w, ESl Ints w u1 d.now → ESl (ESl Ints) w u2 d.past → Does Tryz.prog 58 [.agg #[u1, u2]] w (Ret w (.bool true)) := fun w h1 h2 => by
      have := isDesk_ok w u1 u2 d h1 h2; rwa [decide_eq_true hd] at this
    by_cases h40 : l.length ≤ 40
    · rw [show drV d l = runV d l from if_pos ⟨hd, h40⟩]
      have bnd : ∀ q, Pic q → q.length ≤ 100 ∧ ∀ r ∈ q, r.length ≤ 100 := fun q hq => ⟨by have := hq.2.1; omega, fun r hr => by rw [(hq.2.2 r hr).1]; have := hq.2.1; omega⟩
      have hppl := hd.2.1
      have k1 : ∀ w, ESl Ints w u1 d.now → ESl (ESl Ints) w u2 d.past → Does Tryz.prog 77 [.agg #[u1, u2]] w (RetDk w 23 88 3 d.now d.past) := fun w h1 h2 => Uu w u1 u2 d.now d.past h1 h2 (bnd _ hd.1.1) Ka (fun q hq => bnd q (hd.2.2 q hq).1)
      focus
        refine Gh<|Zu rfl rfl rfl ?_; rintro b1 w1 hb1 E1 hB1; have hlb1 := hB1.lt; refine Zt rfl Vf ?_; rintro b2 w2 hb2 E2 hB2; have hlb2 := hB2.lt; refine Gw rfl<|Ge<|Gg<|Gh<|Vp Kv Kq (hB1.ext E2) rfl<|Gj rfl (Zx (a := .agg _) Tryz.call58 rfl) (k0 _ ((Mono.mono exq h1)) ((Mono.mono exq h2))) ?_; rintro _ w3 ⟨rfl, E3⟩; have hs3 := E3.size; refine Zy rfl<|Vd rfl (Zg (v := .bool _) rfl) (fun h3 => ?_) (fun h3 => ?_); contradiction; refine Gq vl rfl<|Wo rfl (Vw Je rfl hl)<|Xo rfl<|Zw rfl<|Ge<|Gf rfl (fun h4 => ?_) (fun h4 => ?_); (exfalso; omega); refine Gn<|Gh<|Vp Kv Kq (hB1.ext exq) rfl ?_
        refine Gj rfl (Zx (a := .agg _) Jr rfl) (k1 _ ((Mono.mono exq h1)) ((Mono.mono exq h2))) ?_; rintro _ w4 ⟨u3, q1, m1, rfl, E4, hO1, hQ1, hm1, hn1⟩; have icu3 := OwnedB.isC hO1; have icq1 := OwnedB.isC (Owned.toB hQ1); refine Yo rfl Kq rfl rfl Ke Ke (hB1.ext ((E2.trans E3).trans E4)) Ka (((E1.trans E2).trans E3).trans E4) ?_; rintro w5 E5 hB1 K1 hz1; have hB2 := (hB2.ext exq).of_heap (K1 _ Ka); have hO1 := hO1.wrote K1 Ka; have hQ1 := hQ1.toB.wrote K1 Ka; refine Ge<|Gh<|Gw rfl<|Ge<|Gg<|Gh<|Gq vl rfl<|Wo rfl (Vw Je rfl hl)<|Gk rfl<|Ge<|Gl ?_
      refine Zf [6, 8, 9, 10, 24, 25, 26, 27, 28, 29, 30, 31, 32, 33, 34, 35, 36, 37, 38] (fun ((k, v1, v2, lo, m, hi) : Nat × Value × Value × Nat × Nat × Nat) => [(24, .int .i64 (k : Nat)), (6, .int .i64 ((runV d (l.take k)).2 : Nat))]) (fun (k, v1, v2, lo, m, hi) w' => Ext w w' ∧ k ≤ l.length ∧ Blk w' b1 [v1, v2] ∧ Blk w' b2 [.slice none 0 0, .slice none 0 0] ∧ OwnedB lo m XR w' v1 (runV d (l.take k)).1.now ∧ OwnedB m hi (XSl 23 XR) w' v2 (runV d (l.take k)).1.past ∧ w3.heap.size ≤ lo ∧ lo ≤ m ∧ m ≤ hi ∧ hi ≤ w'.heap.size ∧ w5.heap.size ≤ w'.heap.size ∧ isCell v1 = true ∧ isCell v2 = true) (fun x => l.length - x.1) (0, u3, q1, w3.heap.size, m1, w4.heap.size) Kg ?_ ?_
      · exact ⟨by exact E5, Nat.zero_le _, hB1, hB2, hO1, hQ1, Ka, Ka, Ka, Ka, Ka, icu3, icq1⟩
      clear hB1 hB2 hO1 hQ1 k0 k1
      rintro ⟨k, v1, v2, lo, m, hi⟩ ρj w6 ⟨E6, hk, hB1, hB2, hO1, hQ1, hlo, hlm, hmh, hhi, hsz, ic1, ic2⟩
      have hle2 := runV_le (d := d) (l.take k)
      have hle3 : (runV d (l.take k)).2 ≤ k := Nat.le_trans hle2 (by rw [List.length_take]; omega)
      by_cases hlt : k < l.length
      · have hok := runV_ok hd (l.take k)
        have hsn : runV d (l.take (k + 1)) = if (doV (runV d (l.take k)).1 l[k]).2 then ((doV (runV d (l.take k)).1 l[k]).1, (runV d (l.take k)).2 + 1) else runV d (l.take k) := by rw [Zj _ _ hlt, runV_snoc]
        have hxk := hx _ (List.getElem_mem hlt)
        have kD : ∀ (w : World), EMx gMx w (.bool true) () → ESl Ints w v1 (runV d (l.take k)).1.now → ESl (ESl Ints) w v2 (runV d (l.take k)).1.past → Does Tryz.prog 92 [.agg #[v1, v2], .agg #[.int .i64 l[k].kind, str l[k].text, .int .i64 l[k].node]] w (RetDkB w 23 88 3 (doV (runV d (l.take k)).1 l[k]).1.now (doV (runV d (l.take k)).1 l[k]).1.past (doV (runV d (l.take k)).1 l[k]).2) := fun w hM h1 h2 => deskDo_ok w hM v1 v2 (runV d (l.take k)).1 h1 h2 hok l[k].kind l[k].node l[k].text hxk
        cases hb : (doV (runV d (l.take k)).1 l[k]).2 with
        | true =>
          rw [hb] at hsn kD
          rw [if_pos rfl] at hsn
          focus
            refine Gh<|Gs rfl<|Ge<|Gg<|Gf rfl (fun h5 => ?_) (fun h5 => ?_); refine Gn<|Gg<|Gl<|Gh<|Wo_getD Je Jc Jg Jc rfl (fun _ => rfl) rfl hl E6 rfl Kf ?_; rintro _; refine Wo_allocN rfl Ri ?_; rintro b3 w7 hb3 E7 hB3; have hlb3 := hB3.lt; refine Wst3 Jc hB3 rfl (E6.trans E7) ?_; rintro w8 E8 hB3 K2 hz2; have hB1 := (hB1.ext E7).of_heap (K2 _ Ka); have hB2 := (hB2.ext E7).of_heap (K2 _ Ka); have hO1 := (hO1.ext E7).wrote K2 Ka; have hQ1 := (hQ1.ext E7).wrote K2 Ka; refine Ge<|Gh<|Vp Kv Kq hB1 rfl ?_
            refine Wsl3 Jg Jc hB3 rfl<|Gj rfl (Va (a := .agg _) (b := .agg _) Tryz.call92 rfl rfl) (kD _ ((Mono.mono E8 hM)) ((OwnedB.read hO1)) ((OwnedB.read hQ1))) ?_; rintro _ w9 ⟨u4, q2, m2, rfl, E10, hO2, hQ2, hm2, hn2⟩; have icu4 := OwnedB.isC hO2; have icq2 := OwnedB.isC (Owned.toB hQ2); have hs6 := E10.size; refine Xe rfl<|WsxA rfl<|Ym rfl<|Zt rfl Vf ?_; rintro b4 w10 hb4 E11 hB4; have hs7 := E11.size; refine Xy Kq hB4 rfl ((E8.trans E10).trans E11) ?_; rintro w11 E12 hB4 K3 hz3; have hB1 := (hB1.ext exq).of_heap (K3 _ Ka); have hB2 := (hB2.ext exq).of_heap (K3 _ Ka); have hO2 := (hO2.ext E11).wrote K3 Ka; have hQ2 := (hQ2.toB.ext E11).wrote K3 Ka; refine Gx rfl<|Ge<|Gh<|Vi rfl<|Ge<|Vj rfl ?_; refine Gh<|Vp Kv Kq hB4 rfl ?_
            refine Xy Kq hB1 rfl E12 ?_; rintro w12 E16 hB1 K4 hz4; have hB2 := hB2.of_heap (K4 _ Ka); have hO2 := hO2.wrote K4 Ka; have hQ2 := hQ2.wrote K4 Ka; refine Ge<|Gy<|Gk rfl<|Ze rfl<|Gw rfl<|Ge<|Gy<|Ze rfl<|Gk rfl<|Ge ?_; rotate_left; (exfalso; omega)
          refine ⟨(k + 1, u4, q2, w8.heap.size, m2, w9.heap.size), ⟨rfl, congrArg (Value.int .i64) (by rw [hsn]; simp), trivial⟩, Kh, ?_, Kj⟩
          simp only
          rw [hsn]
          exact ⟨Kd, Ka, hB1, hB2, hO2, hQ2, Ka, Ka, Ka, Ka, Ka, icu4, icq2⟩
        | false =>
          rw [hb] at hsn kD
          rw [if_neg Kc] at hsn
          focus
            refine Gh<|Gs rfl<|Ge<|Gg<|Gf rfl (fun h5 => ?_) (fun h5 => ?_); refine Gn<|Gg<|Gl<|Gh<|Wo_getD Je Jc Jg Jc rfl (fun _ => rfl) rfl hl E6 rfl Kf ?_; rintro _; refine Wo_allocN rfl Ri ?_; rintro b3 w7 hb3 E7 hB3; have hlb3 := hB3.lt; refine Wst3 Jc hB3 rfl (E6.trans E7) ?_; rintro w8 E8 hB3 K2 hz2; have hB1 := (hB1.ext E7).of_heap (K2 _ Ka); have hB2 := (hB2.ext E7).of_heap (K2 _ Ka); have hO1 := (hO1.ext E7).wrote K2 Ka; have hQ1 := (hQ1.ext E7).wrote K2 Ka; refine Ge<|Gh<|Vp Kv Kq hB1 rfl ?_
            refine Wsl3 Jg Jc hB3 rfl<|Gj rfl (Va (a := .agg _) (b := .agg _) Tryz.call92 rfl rfl) (kD _ ((Mono.mono E8 hM)) ((OwnedB.read hO1)) ((OwnedB.read hQ1))) ?_; rintro _ w9 ⟨u4, q2, m2, rfl, E10, hO2, hQ2, hm2, hn2⟩; have icu4 := OwnedB.isC hO2; have icq2 := OwnedB.isC (Owned.toB hQ2); have hs6 := E10.size; refine Xe rfl<|WsxA rfl<|Ym rfl<|Zt rfl Vf ?_; rintro b4 w10 hb4 E11 hB4; have hlb4 := hB4.lt; refine Xy Kq hB4 rfl ((E8.trans E10).trans E11) ?_; rintro w11 E12 hB4 K3 hz3; have hB1 := (hB1.ext exq).of_heap (K3 _ Ka); have hB2 := (hB2.ext exq).of_heap (K3 _ Ka); have hO1 := (hO1.ext exq).wrote K3 Ka; have hQ1 := (hQ1.ext exq).wrote K3 Ka; refine Gx rfl<|Ge<|Gh<|Vi rfl<|Ge ?_
            refine Gu rfl ?_; refine Gn<|Gy<|Ze rfl<|Gk rfl<|Ge ?_; rotate_left; (exfalso; omega)
          refine ⟨(k + 1, v1, v2, lo, m, hi), ⟨rfl, congrArg (Value.int .i64) (by rw [hsn]), trivial⟩, Kh, ?_, Kj⟩
          simp only
          rw [hsn]
          exact ⟨Kd, Ka, hB1, hB2, hO1, hQ1, Ka, Ka, Ka, Ka, Ka, ic1, ic2⟩
      · obtain rfl : k = l.length := by omega
        rw [show runV d l = runV d (l.take l.length) by rw [List.take_length]]
        focus
          refine Gh<|Gs rfl<|Ge<|Gg<|Gf rfl (fun h5 => ?_) (fun h5 => ?_); (exfalso; omega); refine Zd ?_; refine Gp ?_; refine Gh<|Vp Kv Kq hB1 rfl<|Gk rfl<|Xy Kq hB2 rfl E6 ?_; rintro w7 E7 hB2 K2 hz2; have hO1 := hO1.wrote K2 Ka; have hQ1 := hQ1.wrote K2 Ka; refine Gw rfl<|Ge<|Gv ?_
        exact ⟨b2, v1, v2, rfl, hB2, v1, v2, m, rfl, by exact E7, hO1.wide Ka (Nat.le_refl _), hQ1.o, Ka, Ka⟩
    · rw [show drV d l = (⟨[], []⟩, 0) from if_neg fun h => h40 h.2]
      focus
        refine Gh<|Zu rfl rfl rfl ?_; rintro b1 w1 hb1 E1 hB1; have hlb1 := hB1.lt; refine Zt rfl Vf ?_; rintro b2 w2 hb2 E2 hB2; refine Gw rfl<|Ge<|Gg<|Gh<|Vp Kv Kq (hB1.ext E2) rfl<|Gj rfl (Zx (a := .agg _) Tryz.call58 rfl) (k0 _ ((Mono.mono exq h1)) ((Mono.mono exq h2))) ?_; rintro _ w3 ⟨rfl, E3⟩; refine Zy rfl<|Vd rfl (Zg (v := .bool _) rfl) (fun h3 => ?_) (fun h3 => ?_); contradiction; refine Gq vl rfl<|Wo rfl (Vw Je rfl hl)<|Xo rfl<|Zw rfl<|Ge<|Gf rfl (fun h4 => ?_) (fun h4 => ?_); refine Gg<|Gy<|Wo rfl (Yy (ps := []) (cs := [_, _]) Vf rfl rfl)<|Xy Kq (hB2.ext E3) rfl ((E1.trans E2).trans E3) ?_; rintro w4 E4 hB2 K1 hz1
        have E5 := (E2.trans E3).wroteAt exq E4 K1 hz1 Ka; have szE5 := E5.size; refine Gw rfl<|Ge<|Gv ?_; rotate_left; (exfalso; omega)
      exact ⟨b2, _, _, rfl, hB2, _, _, w.heap.size, rfl, by exact E4, OwnedB.nil, Owned.nil, Nat.le_refl _, Ka⟩
  · rw [show drV d l = (⟨[], []⟩, 0) from if_neg fun h => hd h.1]
    have k0 : ∀ w, ESl Ints w u1 d.now → ESl (ESl Ints) w u2 d.past → Does Tryz.prog 58 [.agg #[u1, u2]] w (Ret w (.bool false)) := fun w h1 h2 => by
      have := isDesk_ok w u1 u2 d h1 h2; rwa [decide_eq_false hd] at this
    focus
      refine Gh<|Zu rfl rfl rfl ?_; rintro b1 w1 hb1 E1 hB1; have hlb1 := hB1.lt; refine Zt rfl Vf ?_; rintro b2 w2 hb2 E2 hB2; refine Gw rfl<|Ge<|Gg<|Gh<|Vp Kv Kq (hB1.ext E2) rfl<|Gj rfl (Zx (a := .agg _) Tryz.call58 rfl) (k0 _ ((Mono.mono exq h1)) ((Mono.mono exq h2))) ?_; rintro _ w3 ⟨rfl, E3⟩; refine Zy rfl<|Vd rfl (Zg (v := .bool _) rfl) (fun h3 => ?_) (fun h3 => ?_); refine Gi rfl<|Gi rfl<|Gi rfl<|Vr rfl<|Ge<|Vj rfl ?_; refine Gh<|Wo rfl (Yy (ps := []) (cs := [_, _]) Vf rfl rfl)<|Xy Kq (hB2.ext E3) rfl ((E1.trans E2).trans E3) ?_; rintro w4 E4 hB2 K1 hz1; have E5 := (E2.trans E3).wroteAt exq E4 K1 hz1 Ka; have szE5 := E5.size; refine Gw rfl<|Ge<|Gv ?_; rotate_left; contradiction
    exact ⟨b2, _, _, rfl, hB2, _, _, w.heap.size, rfl, by exact E4, OwnedB.nil, Owned.nil, Nat.le_refl _, Ka⟩
open Classical in
theorem spec_DeskRun_ok (w : World) (u1 u2 : Value) (d : Dsk) (h1 : ESl Ints w u1 d.now) (h2 : ESl (ESl Ints) w u2 d.past) (vl : Value) (l : List Deed) (hl : ESD w vl l) (hx : ∀ a ∈ l, a.text.length ≤ 1048576) :
    Does Tryz.prog 44 [.agg #[u1, u2], vl] w (RetDkRZ w (drV d l).1.now (drV d l).1.past ((drV d l).2 : Nat)) := by
  have icu1 : isCell u1 = true := Yw h1
  have icu2 : isCell u2 = true := Yw h2
  have hle := hl.le
  refine fn_of_Wct Tryz.func44 rfl Tryz.results44 Tryz.ntmps44 rfl Kv Kq ?_
  have nil1 : ∀ (w w' : World), w.heap.size ≤ w'.heap.size → OwnedB w.heap.size w'.heap.size (XRd (ESl Ints)) w' (.slice none 0 0) [] := fun w w' h => (OwnedB.nil (e := 0) (X := XSl 0 XInt)).rd
  have nil2 : ∀ (w w' : World), w.heap.size ≤ w'.heap.size → OwnedB w.heap.size w'.heap.size (XRd (ESl (ESl Ints))) w' (.slice none 0 0) [] := fun w w' h => (OwnedB.nil (e := 0) (X := XSl 0 (XSl 0 XInt))).rd
  by_cases hd : DkOk d
  · have k0 : ∀ w, ESl Ints w u1 d.now → ESl (ESl Ints) w u2 d.past → Does Tryz.prog 16 [.agg #[u1, u2]] w (Ret w (.bool true)) := fun w h1 h2 => by
      have := Ug w u1 u2 d h1 h2; rwa [decide_eq_true hd] at this
    by_cases h40 : l.length ≤ 40
    · rw [show drV d l = runV d l from if_pos ⟨hd, h40⟩]
      have bnd : ∀ q, Pic q → q.length ≤ 100 ∧ ∀ r ∈ q, r.length ≤ 100 := fun q hq => ⟨by have := hq.2.1; omega, fun r hr => by rw [(hq.2.2 r hr).1]; have := hq.2.1; omega⟩
      have hppl := hd.2.1
      have k1 : ∀ w, ESl Ints w u1 d.now → ESl (ESl Ints) w u2 d.past → Does Tryz.prog 60 [.agg #[u1, u2]] w (RetDk w 23 88 3 d.now d.past) := fun w h1 h2 => l11Copy_ok w u1 u2 d.now d.past h1 h2 (bnd _ hd.1.1) Ka (fun q hq => bnd q (hd.2.2 q hq).1)
      focus
        refine Gh<|Zu rfl rfl rfl ?_; rintro b1 w1 hb1 E1 hB1; have hlb1 := hB1.lt; refine Zt rfl Vf ?_; rintro b2 w2 hb2 E2 hB2; have hlb2 := hB2.lt; refine Gw rfl<|Ge<|Gg<|Gh<|Vp Kv Kq (hB1.ext E2) rfl<|Gj rfl (Zx (a := .agg _) Js rfl) (k0 _ ((Mono.mono exq h1)) ((Mono.mono exq h2))) ?_; rintro _ w3 ⟨rfl, E3⟩; have hs3 := E3.size; refine Zy rfl<|Vd rfl (Zg (v := .bool _) rfl) (fun h3 => ?_) (fun h3 => ?_); contradiction; refine Gq vl rfl<|Wo rfl (Vw Je rfl hl)<|Xo rfl<|Zw rfl<|Ge<|Gf rfl (fun h4 => ?_) (fun h4 => ?_); (exfalso; omega); refine Gn<|Gh<|Vp Kv Kq (hB1.ext exq) rfl ?_
        refine Gj rfl (Zx (a := .agg _) Jy rfl) (k1 _ ((Mono.mono exq h1)) ((Mono.mono exq h2))) ?_; rintro _ w4 ⟨u3, q1, m1, rfl, E4, hO1, hQ1, hm1, hn1⟩; have icu3 := OwnedB.isC hO1; have icq1 := OwnedB.isC (Owned.toB hQ1); have hs4 := E4.size; refine Zt rfl Vf ?_; rintro b3 w5 hb3 E5 hB3; have hlb3 := hB3.lt; refine Yo rfl Kq rfl rfl Ke Ke hB3 Ka ((((E1.trans E2).trans E3).trans E4).trans E5) ?_; rintro w6 E6 hB3 K1 hz1; have E8 := ((E3.trans E4).trans E5).wroteAt exq E6 K1 hz1 Ka; have E9 := (E4.trans E5).wroteAt exq E6 K1 hz1 Ka; have E10 := E5.wroteAt exq E6 K1 hz1 Ka; have szE10 := E10.size; have hB2 := (hB2.ext exq).of_heap (K1 _ Ka); have hO1 := (hO1.ext E5).wrote K1 Ka
        have hQ1 := (hQ1.toB.ext E5).wrote K1 Ka; refine Ge<|Gh<|Gw rfl<|Ge<|Gg<|Gg<|Gy<|Gw rfl<|Ge<|Gl ?_
      refine Zf [7, 8, 9, 10, 22, 23, 24, 25, 26, 27, 28, 29, 30, 31, 32, 33, 34, 35, 36, 37, 38, 39, 40] (fun ((k, v1, v2, lo, hi) : Nat × Value × Value × Nat × Nat) => [(8, .int .i64 (k : Nat)), (7, .int .i64 ((runV d (l.take k)).2 : Nat))]) (fun (k, v1, v2, lo, hi) w' => Ext w w' ∧ k ≤ l.length ∧ Blk w' b3 [v1, v2] ∧ Blk w' b2 [.slice none 0 0, .slice none 0 0] ∧ OwnedB lo hi (XRd (ESl Ints)) w' v1 (runV d (l.take k)).1.now ∧ OwnedB lo hi (XRd (ESl (ESl Ints))) w' v2 (runV d (l.take k)).1.past ∧ w3.heap.size ≤ lo ∧ hi ≤ w'.heap.size ∧ w6.heap.size ≤ w'.heap.size ∧ (hi ≤ b3 ∨ b3 < lo) ∧ isCell v1 = true ∧ isCell v2 = true) (fun x => l.length - x.1) (0, u3, q1, w3.heap.size, w4.heap.size) Kg ?_ ?_
      · exact ⟨by exact E6, Nat.zero_le _, hB3, hB2, hO1.rd.wide (Nat.le_refl _) Ka, hQ1.rd.wide Ka (Nat.le_refl _), Ka, Ka, Ka, Ka, icu3, icq1⟩
      clear hB2 hB3 hO1 hQ1 k0 k1
      rintro ⟨k, v1, v2, lo, hi⟩ ρj w7 ⟨E7, hk, hB3, hB2, hO1, hQ1, hlo, hhi, hsz, hd3, ic1, ic2⟩
      have hle2 := runV_le (d := d) (l.take k)
      have hle3 : (runV d (l.take k)).2 ≤ k := Nat.le_trans hle2 (by rw [List.length_take]; omega)
      by_cases hlt : k < l.length
      · have hok := runV_ok hd (l.take k)
        have hsn : runV d (l.take (k + 1)) = if (doV (runV d (l.take k)).1 l[k]).2 then ((doV (runV d (l.take k)).1 l[k]).1, (runV d (l.take k)).2 + 1) else runV d (l.take k) := by rw [Zj _ _ hlt, runV_snoc]
        have hxk := hx _ (List.getElem_mem hlt)
        have kD : ∀ (w : World), ESl Ints w v1 (runV d (l.take k)).1.now → ESl (ESl Ints) w v2 (runV d (l.take k)).1.past → Does Tryz.prog 37 [.agg #[v1, v2], .agg #[.int .i64 l[k].kind, str l[k].text, .int .i64 l[k].node]] w (RetDkRB w (doV (runV d (l.take k)).1 l[k]).1.now (doV (runV d (l.take k)).1 l[k]).1.past (doV (runV d (l.take k)).1 l[k]).2) := fun w h1 h2 => by
          have := (spec_DeskDo_ok w v1 v2 (runV d (l.take k)).1 h1 h2 l[k].kind l[k].node l[k].text hxk).mono fun _ _ h => h.r
          rwa [if_pos hok, if_pos hok, decide_eq_true hok, Bool.true_and] at this
        have heldS : w = w := rfl
        have stop8 : True := trivial
        focus
          have szE7 := E7.size; have szE10 := E10.size; have szE9 := E9.size; have szE8 := E8.size; have szE7 := E7.size; have szE6 := E6.size; have szE5 := E5.size; have szE4 := E4.size; have szE3 := E3.size; have szE2 := E2.size; have szE1 := E1.size; refine Gg<|Gh<|Gk rfl<|Gq vl rfl<|Wo rfl (Vw Je rfl hl)<|Gs rfl<|Ge<|Gf rfl (fun h5 => ?_) (fun h5 => ?_); refine Gn<|Gg<|Gl<|Gg ?_; rotate_left; (exfalso; omega)
        clear stop8
        refine W_mid [28, 29, 30, 31, 32, 33, 34, 35, 36, 9, 10] (fun ((b9, x1, x2, lo', hi') : Nat × Value × Value × Nat × Nat) => [(9, .pointer (some ⟨b9, 0, none⟩)), (10, .bool (doV (runV d (l.take k)).1 l[k]).2)]) (fun (b9, x1, x2, lo', hi') w' => Ext w7 w' ∧ Blk w' b9 [x1, x2] ∧ OwnedB lo' hi' (XRd (ESl Ints)) w' x1 (doV (runV d (l.take k)).1 l[k]).1.now ∧ OwnedB lo' hi' (XRd (ESl (ESl Ints))) w' x2 (doV (runV d (l.take k)).1 l[k]).1.past ∧ isCell x1 = true ∧ isCell x2 = true ∧ w7.heap.size ≤ lo' ∧ hi' ≤ w'.heap.size) ?_ ?_
        · focus
            refine Ra (fun w' => Ext w w') Vt rfl Kb ?_; intro w8 E11 K2 hz2; have hs6 := E11.size; refine WtmV 1 vl rfl rfl exq<|WtmI 2 rfl rfl exq<|Wh_getD 3 4 rfl Kb Kb rfl rfl Kb Kb (fun _ => rfl) Je Jc Jg Jc rfl hl (fun w' hw' => Ext.trans (Ext.refl _) hw') rfl Kf exq ?_; rintro _; refine Wha [0, 9]<|Zc rfl ?_ ?_; refine Vp Kv Kq (hB3.ext E11) rfl<|Ge ?_; refine ⟨exq, ?_⟩; refine Wha [5, 9]<|Zc rfl ?_ ?_; refine Gj rfl (Va (a := .agg _) (b := .agg _) Tryz.call37 rfl rfl) (kD _ ((Mono.mono E11 (OwnedB.read hO1))) ((Mono.mono E11 (OwnedB.read hQ1)))) ?_; rintro _ w9 ⟨u4, q2, rfl, E12, hA1, hC1, icu4, icq2, gwu4⟩; refine Ge ?_; refine ⟨exq, ?_⟩; refine WtmU 6 rfl rfl exq ?_
            refine WtxA 7 rfl rfl exq<|WtxB 8 rfl rfl exq<|Wha [9]<|Zc rfl ?_ ?_; refine Zt rfl Vf ?_; rintro b4 w10 hb4 E13 hB4; refine Ge ?_; refine ⟨exq, ?_⟩; refine Wha [10]<|Zc rfl ?_ ?_; refine Yo rfl Kq rfl rfl Ke Ke hB4 Ka (((E7.trans E11).trans E12).trans E13) ?_; rintro w11 E14 hB4 K3 hz3; have E15 := ((E11.trans E12).trans E13).wroteAt exq E14 K3 hz3 Ka; have E17 := E13.wroteAt exq E14 K3 hz3 Ka; have szE17 := E17.size; have hA1 := (hA1.ext E13).wrote K3 Ka; have hC1 := (hC1.ext E13).wrote K3 Ka; refine Ge ?_; refine ⟨E14, ?_⟩; refine WtaB 11 rfl rfl E14<|Yp Kb ?_; rotate_left; exact Zh; exact Zh; refine Zc rfl ?_ ?_
            refine Zt rfl Vf ?_; rintro b4 w9 hb4 E12 hB4; have hlb4 := hB4.lt; have hs7 := E12.size; refine Ge ?_; refine ⟨exq, ?_⟩; refine Wha [5]<|Zc rfl ?_ ?_; refine Gj rfl (Va (a := .agg _) (b := .agg _) Tryz.call37 rfl rfl) (kD _ ((Mono.mono exq (OwnedB.read hO1))) ((Mono.mono exq (OwnedB.read hQ1)))) ?_; rintro _ w10 ⟨u4, q2, rfl, E13, hA1, hC1, icu4, icq2, gwu4⟩; refine Ge ?_; refine ⟨exq, ?_⟩; refine WtmU 6 rfl rfl exq<|WtxA 7 rfl rfl exq<|WtxB 8 rfl rfl exq<|Wha [10]<|Zc rfl ?_ ?_; refine Yo rfl Kq rfl rfl Ke Ke (hB4.ext E13) Ka (((E7.trans E11).trans E12).trans E13) ?_; rintro w11 E14 hB4 K3 hz3; have E15 := ((E11.trans E12).trans E13).wroteAt exq E14 K3 hz3 Ka
            have hA1 := hA1.wrote K3 Ka; have hC1 := hC1.wrote K3 Ka; refine Ge ?_; refine ⟨E14, ?_⟩; refine WtaB 11 rfl rfl E14<|Yp Kb ?_; rotate_left; exact Zh; exact Zh; exact Zh; refine Zc rfl ?_ ?_; refine Zt rfl Vf ?_; rintro b4 w9 hb4 E12 hB4; have hlb4 := hB4.lt; have hs7 := E12.size; refine Ge ?_; refine ⟨exq, ?_⟩; refine Wha [0]<|Zc rfl ?_ ?_; refine Vp Kv Kq (hB3.ext exq) rfl<|Ge ?_; refine ⟨exq, ?_⟩; refine Wha [5]<|Zc rfl ?_ ?_; refine Gj rfl (Va (a := .agg _) (b := .agg _) Tryz.call37 rfl rfl) (kD _ ((Mono.mono exq (OwnedB.read hO1))) ((Mono.mono exq (OwnedB.read hQ1)))) ?_; rintro _ w10 ⟨u4, q2, rfl, E13, hA1, hC1, icu4, icq2, gwu4⟩; refine Ge ?_; refine ⟨exq, ?_⟩; refine WtmU 6 rfl rfl exq<|WtxA 7 rfl rfl exq ?_
            refine WtxB 8 rfl rfl exq<|Wha [10]<|Zc rfl ?_ ?_; refine Yo rfl Kq rfl rfl Ke Ke (hB4.ext E13) Ka (((E7.trans E11).trans E12).trans E13) ?_; rintro w11 E14 hB4 K3 hz3; have E15 := ((E11.trans E12).trans E13).wroteAt exq E14 K3 hz3 Ka; have hA1 := hA1.wrote K3 Ka; have hC1 := hC1.wrote K3 Ka; refine Ge ?_; refine ⟨E14, ?_⟩; refine WtaB 11 rfl rfl E14<|Yp Kb ?_; rotate_left; exact Zh; exact Zh; exact Zh; exact Zh
          all_goals exact ⟨(b4, u4, q2, _, _), ⟨rfl, rfl, trivial⟩, Kh, Kd, hB4, hA1, hC1, icu4, icq2, Ka, Ka⟩
        rintro ⟨b9, x1, x2, lo', hi'⟩ ρk w8 ⟨E8, hB9, hX1, hX2, icx1, icx2, hlo', hhi'⟩
        have hs8 := E8.size
        cases hb : (doV (runV d (l.take k)).1 l[k]).2 with
        | true =>
          rw [hb] at hsn
          rw [if_pos rfl] at hsn
          focus
            refine Gh<|Vi rfl<|Ge<|Vj rfl ?_; refine Gh<|Vp Kv Kq hB9 rfl<|Xy Kq (hB3.ext E8) rfl (E7.trans E8) ?_; rintro w9 E11 hB3 K2 hz2; have hB2 := (hB2.ext E8).of_heap (K2 _ Ka); have hX1 := hX1.wrote K2 Ka; have hX2 := hX2.wrote K2 Ka; refine Ge<|Gy<|Gk rfl<|Ze rfl<|Gw rfl<|Ge<|Gy<|Gk rfl<|Ze rfl<|Gw rfl<|Ge ?_
          refine ⟨(k + 1, x1, x2, lo', hi'), ⟨rfl, congrArg (Value.int .i64) (by rw [hsn]; simp), trivial⟩, Kh, ?_, Kj⟩
          simp only
          rw [hsn]
          exact ⟨Kd, Ka, hB3, hB2, hX1, hX2, Ka, Ka, Ka, Ka, icx1, icx2⟩
        | false =>
          rw [hb] at hsn
          rw [if_neg Kc] at hsn
          focus
            refine Gh<|Vi rfl<|Ge<|Gu rfl ?_; refine Gn<|Gy<|Gk rfl<|Ze rfl<|Gw rfl<|Ge ?_
          refine ⟨(k + 1, v1, v2, lo, hi), ⟨rfl, congrArg (Value.int .i64) (by rw [hsn]), trivial⟩, Kh, ?_, Kj⟩
          simp only
          rw [hsn]
          exact ⟨by exact (E7.trans E8), Ka, by exact (hB3.ext E8), by exact (hB2.ext E8), by exact (hO1.ext E8), by exact (hQ1.ext E8), Ka, Ka, Ka, Ka, ic1, ic2⟩
      · obtain rfl : k = l.length := by omega
        rw [show runV d l = runV d (l.take l.length) by rw [List.take_length]]
        focus
          refine Gg<|Gh<|Gk rfl<|Gq vl rfl<|Wo rfl (Vw Je rfl hl)<|Gs rfl<|Ge<|Gf rfl (fun h5 => ?_) (fun h5 => ?_); (exfalso; omega); refine Zd ?_; refine Gp ?_; refine Gh<|Vp Kv Kq hB3 rfl<|Gk rfl<|Xy Kq hB2 rfl E7 ?_; rintro w8 E11 hB2 K2 hz2; have hO1 := hO1.wrote K2 Ka; have hQ1 := hQ1.wrote K2 Ka; refine Gw rfl<|Ge<|Gv ?_
        exact ⟨b2, v1, v2, rfl, hB2, v1, v2, rfl, by exact E11, hO1.wide Ka Ka, hQ1.wide Ka Ka, ic1, ic2⟩
    · rw [show drV d l = (⟨[], []⟩, 0) from if_neg fun h => h40 h.2]
      focus
        refine Gh<|Zu rfl rfl rfl ?_; rintro b1 w1 hb1 E1 hB1; have hlb1 := hB1.lt; refine Zt rfl Vf ?_; rintro b2 w2 hb2 E2 hB2; refine Gw rfl<|Ge<|Gg<|Gh<|Vp Kv Kq (hB1.ext E2) rfl<|Gj rfl (Zx (a := .agg _) Js rfl) (k0 _ ((Mono.mono exq h1)) ((Mono.mono exq h2))) ?_; rintro _ w3 ⟨rfl, E3⟩; refine Zy rfl<|Vd rfl (Zg (v := .bool _) rfl) (fun h3 => ?_) (fun h3 => ?_); contradiction; refine Gq vl rfl<|Wo rfl (Vw Je rfl hl)<|Xo rfl<|Zw rfl<|Ge<|Gf rfl (fun h4 => ?_) (fun h4 => ?_); refine Gg<|Gy<|Wo rfl (Yy (ps := []) (cs := [_, _]) Vf rfl rfl)<|Xy Kq (hB2.ext E3) rfl ((E1.trans E2).trans E3) ?_; rintro w4 E4 hB2 K1 hz1
        have E5 := (E2.trans E3).wroteAt exq E4 K1 hz1 Ka; have szE5 := E5.size; refine Gw rfl<|Ge<|Gv ?_; rotate_left; (exfalso; omega)
      exact ⟨b2, _, _, rfl, hB2, _, _, rfl, by exact E4, nil1 _ _ Ka, nil2 _ _ Ka, rfl, rfl⟩
  · rw [show drV d l = (⟨[], []⟩, 0) from if_neg fun h => hd h.1]
    have k0 : ∀ w, ESl Ints w u1 d.now → ESl (ESl Ints) w u2 d.past → Does Tryz.prog 16 [.agg #[u1, u2]] w (Ret w (.bool false)) := fun w h1 h2 => by
      have := Ug w u1 u2 d h1 h2; rwa [decide_eq_false hd] at this
    focus
      refine Gh<|Zu rfl rfl rfl ?_; rintro b1 w1 hb1 E1 hB1; have hlb1 := hB1.lt; refine Zt rfl Vf ?_; rintro b2 w2 hb2 E2 hB2; refine Gw rfl<|Ge<|Gg<|Gh<|Vp Kv Kq (hB1.ext E2) rfl<|Gj rfl (Zx (a := .agg _) Js rfl) (k0 _ ((Mono.mono exq h1)) ((Mono.mono exq h2))) ?_; rintro _ w3 ⟨rfl, E3⟩; refine Zy rfl<|Vd rfl (Zg (v := .bool _) rfl) (fun h3 => ?_) (fun h3 => ?_); refine Gi rfl<|Gi rfl<|Gi rfl<|Vr rfl<|Ge<|Vj rfl ?_; refine Gh<|Wo rfl (Yy (ps := []) (cs := [_, _]) Vf rfl rfl)<|Xy Kq (hB2.ext E3) rfl ((E1.trans E2).trans E3) ?_; rintro w4 E4 hB2 K1 hz1; have E5 := (E2.trans E3).wroteAt exq E4 K1 hz1 Ka; have szE5 := E5.size; refine Gw rfl<|Ge<|Gv ?_; rotate_left; contradiction
    exact ⟨b2, _, _, rfl, hB2, _, _, rfl, by exact E4, nil1 _ _ Ka, nil2 _ _ Ka, rfl, rfl⟩
end Go.Proofs.YtbgpppaljpngmaaGreatDoor
namespace Go.Proofs.YtbgpppaljpngmaaGreatDoor
open Go.Hs
set_option maxRecDepth 10000
set_option maxHeartbeats 4000000
set_option linter.unusedVariables false
set_option linter.unusedSimpArgs false
end Go.Proofs.YtbgpppaljpngmaaGreatDoor
set_option linter.unusedVariables false
set_option linter.unusedSimpArgs false
namespace Go.Hs
end Go.Hs
namespace Go.Proofs.YtbgpppaljpngmaaGreatDoor
open Go.Hs
set_option maxRecDepth 10000
set_option maxHeartbeats 4000000
set_option linter.unusedVariables false
set_option linter.unusedSimpArgs false
end Go.Proofs.YtbgpppaljpngmaaGreatDoor
namespace Go.Proofs.YtbgpppaljpngmaaGreatDoor
open Go.Hs
set_option maxRecDepth 10000
set_option maxHeartbeats 4000000
set_option linter.unusedVariables false
set_option linter.unusedSimpArgs false
end Go.Proofs.YtbgpppaljpngmaaGreatDoor
namespace Go.Proofs.YtbgpppaljpngmaaGreatDoor
open Go.Hs
set_option maxRecDepth 10000
set_option maxHeartbeats 4000000
set_option linter.unusedVariables false
set_option linter.unusedSimpArgs false
theorem elD59 : ElD Tryz.prog 59 48 := ElD.of Je Kb Jc Tryz.zeroValue48
end Go.Proofs.YtbgpppaljpngmaaGreatDoor
namespace Go.Proofs.YtbgpppaljpngmaaGreatDoor
open Go.Hs
set_option maxRecDepth 10000
set_option maxHeartbeats 4000000
set_option linter.unusedVariables false
set_option linter.unusedSimpArgs false
theorem szDeedS_ok (w : World) (v : Value) (l : List Deed) (h : ESD w v l) (hx : ∀ a ∈ l, a.text.length ≤ 9223372036854775807) (left : Int) (hl : 0 ≤ left ∧ left ≤ 1048576) :
    Does Tryz.prog 45 [v, .int .i64 left] w (RetX w (Value.int .i64) (fun z _ => z = -1 ∨ (0 ≤ z ∧ z ≤ 1048576 ∧ l.length ≤ 1048576 ∧ ∀ a ∈ l, a.text.length ≤ 1048576))) := by
  have hle := h.le
  refine Zb Tryz.func45 rfl Tryz.results45 Tryz.ntmps45 rfl ?_
  focus
    refine Gh<|Gw rfl<|Ge<|Gh<|Gk rfl<|Gq v rfl<|Wo rfl (Vw Jt rfl h)<|Xz rfl<|Gw rfl<|Ge<|Gg<|Gh<|Gk rfl<|Gs rfl<|Ge<|Gf rfl (fun h1 => ?_) (fun h1 => ?_); refine Gg<|Gy<|Gw rfl<|Ge<|Gv ?_; refine Gz (v := .int _ _) rfl ?_; refine ⟨(Ext.refl _), _, rfl, ?_⟩; (try dsimp only); rotate_left; refine Gn<|Gg<|Gh<|Gw rfl<|Ge<|Gl ?_; rotate_left
  · exact .inl rfl
  refine Zf [1, 4, 5, 12, 13, 14, 15, 16, 17, 18, 19, 20, 21, 22, 23, 24, 25] (fun ((k, z) : Nat × Int) => [(5, .int .i64 (k : Nat)), (1, .int .i64 z)]) (fun (k, z) w' => Ext w w' ∧ k ≤ l.length ∧ 0 ≤ z ∧ z ≤ 1048576 ∧ ∀ a ∈ l.take k, a.text.length ≤ 1048576) (fun x => l.length - x.1) (0, left - l.length) Kg ?_ ?_
  · exact ⟨by first | assumption | exact Ext.refl _, Nat.zero_le _, Ka, Ka, Ki⟩
  rintro ⟨k, z⟩ ρj w2 ⟨E2, hk, hz0, hz1, hall⟩
  by_cases hkl : k < l.length
  · have hxk := hx l[k] (List.getElem_mem hkl)
    have kd : ∀ (w : World), Does Tryz.prog 40 [dv l[k], .int .i64 z] w (RetX w (Value.int .i64) (fun y _ => y = -1 ∨ (0 ≤ y ∧ y = z - l[k].text.length ∧ l[k].text.length ≤ 1048576))) := fun w => szDeed_ok w _ _ _ hxk z ⟨hz0, hz1⟩
    focus
      refine Gg<|Gh<|Gk rfl<|Gq v rfl<|Wo rfl (Vw Jt rfl h)<|Gs rfl<|Ge<|Gf rfl (fun h2 => ?_) (fun h2 => ?_); refine Gn<|Gg<|Gl<|Gh<|Gq v rfl<|Gk rfl<|Wo_getD Jt Tryz.sizeOf55 Tryz.isAgg55 Tryz.sizeOf55 rfl (fun _ => rfl) rfl h E2 rfl Kf ?_; rintro _; refine Gk rfl<|Gj rfl (Va (a := .agg _) (b := .int _ _) Tryz.call40 rfl rfl) (kd _) ?_; rintro _ w1 ⟨E1, y1, rfl, hy1⟩; refine Gw rfl<|Ge<|Gg<|Gy<|Gk rfl<|Gs rfl<|Ge<|Gf rfl (fun h3 => ?_) (fun h3 => ?_); refine Gh<|Gw rfl<|Ge<|Gv ?_; refine Gz (v := .int _ _) rfl ?_; refine ⟨exq, _, rfl, ?_⟩; (try dsimp only); rotate_left; refine Gn<|Gy ?_
      refine Gk rfl<|Ze rfl<|Gw rfl<|Ge ?_; rotate_left; (exfalso; omega)
    · exact .inl rfl
    · refine ⟨((k + 1, y1)), Kg, Kh, ?_, ?_⟩
      · refine ⟨by first | assumption | exact E2.trans Kd, Ka, Ka, Ka, fun a ha => ?_⟩
        rw [List.take_succ_eq_append_getElem hkl] at ha
        rcases List.mem_append.1 ha with ha | ha
        · exact hall a ha
        · obtain rfl := List.mem_singleton.1 ha; omega
      · simp only; omega
  · focus
      have szE2 := E2.size; refine Gg<|Gh<|Gk rfl<|Gq v rfl<|Wo rfl (Vw Jt rfl h)<|Gs rfl<|Ge<|Gf rfl (fun h2 => ?_) (fun h2 => ?_); (exfalso; omega); refine Zd ?_; refine Gp ?_; refine Gh<|Gk rfl<|Gw rfl<|Ge<|Gv ?_; refine Gz (v := .int _ _) rfl ?_; refine ⟨E2, _, rfl, ?_⟩; (try dsimp only)
    refine .inr ⟨hz0, hz1, Ka, ?_⟩
    rwa [List.take_of_length_le Ka] at hall
theorem toDeedS_ok (w : World) (v : Value) (l : List Deed) (h : ESD w v l) (hl : l.length ≤ 1048576) (hx : ∀ a ∈ l, a.text.length ≤ 9223372036854775807) :
    Does Tryz.prog 46 [v] w (RetOD w 48 l) := by
  refine Zb Tryz.func46 rfl Tryz.results46 Tryz.ntmps46 rfl ?_
  focus
    refine Gh<|Zr rfl<|Ge<|Gh<|Gq v rfl<|Wo rfl (Vw Jt rfl h)<|Wo_makeD rfl elD59 rfl Ka ?_; rintro b1 w1 hb1 b1lt E1 hO1; refine Zr rfl<|Ge<|Gg<|Gh<|Gw rfl<|Ge<|Gl ?_
  refine Zf [4, 8, 9, 10, 11, 12, 13, 14, 15, 16, 17, 18, 19, 20, 21] (fun (k : Nat) => [(4, .int .i64 (k : Nat))]) (fun k w' => Ext w w' ∧ k ≤ l.length ∧ OD 48 w.heap.size w' (.slice (some ⟨b1, 0, none⟩) l.length l.length) (l.take k ++ List.replicate (l.length - k) ⟨0, [], 0⟩)) (fun k => l.length - k) 0 Kg ?_ ?_
  · exact ⟨by first | assumption | exact Ext.refl _, Nat.zero_le _, by simpa using hO1⟩
  clear hO1
  rintro k ρj w2 ⟨E2, hk, hO1⟩
  by_cases hkl : k < l.length
  · have hxk := hx l[k] (List.getElem_mem hkl)
    have hlen : (l.take k ++ List.replicate (l.length - k) (⟨0, [], 0⟩ : Deed)).length = l.length := by simp; omega
    have kd : ∀ (w : World), Does Tryz.prog 41 [dv l[k]] w (Ret w (dv l[k])) := fun w => toDeed_ok w _ _ _
    focus
      refine Gg<|Gh<|Gk rfl<|Gq v rfl<|Wo rfl (Vw Jt rfl h)<|Gs rfl<|Ge<|Gf rfl (fun h1 => ?_) (fun h1 => ?_); refine Gn<|Gg<|Gl<|Gy<|Yc rfl<|Gk rfl<|Gq v rfl<|Gk rfl<|Wo_getD Jt Tryz.sizeOf55 Tryz.isAgg55 Tryz.sizeOf55 rfl (fun _ => rfl) rfl h E2 rfl Kf ?_; rintro _; refine Gj rfl (Zx (a := .agg _) Tryz.call41 rfl) (kd _) ?_; rintro _ w3 ⟨rfl, E3⟩; refine Wo rfl (Yu Je Jc rfl rfl Ka) ?_; refine Wo_stDA (a := ⟨_, _, _⟩) rfl Jc rfl rfl (hO1.ext E3) Kf Kf ?_; rintro w4 hO1 On1 K1 hz1; have E4 := On1.ext1 (E2.trans E3) Ka; refine Ge<|Gy<|Gk rfl<|Ze rfl<|Gw rfl<|Ge ?_
      rotate_left; (exfalso; omega)
    refine ⟨(k + 1), Kg, Kh, ?_, ?_⟩
    · refine ⟨Kd, Ka, ?_⟩
      have e : (l.take k ++ List.replicate (l.length - k) (⟨0, [], 0⟩ : Deed)).set k l[k] = l.take (k + 1) ++ List.replicate (l.length - (k + 1)) ⟨0, [], 0⟩ := by
        rw [List.set_append_right _ _ (by simp; omega)]
        have : k - (l.take k).length = 0 := by simp; omega
        rw [this, List.take_succ_eq_append_getElem hkl, show l.length - k = (l.length - (k + 1)) + 1 by omega, List.replicate_succ, List.set_cons_zero, List.append_assoc]
        rfl
      rw [← e]; assumption
    · omega
  · obtain rfl : k = l.length := by omega
    focus
      refine Gg<|Gh<|Gk rfl<|Gq v rfl<|Wo rfl (Vw Jt rfl h)<|Gs rfl<|Ge<|Gf rfl (fun h1 => ?_) (fun h1 => ?_); (exfalso; omega); refine Zd ?_; refine Gp ?_; refine Gh<|Yc rfl<|Zr rfl<|Ge<|Gv ?_; refine Gz (v := .slice _ _ _) rfl ?_
    refine ⟨Kd, ?_⟩
    simpa using hO1
theorem eqDeedS_ok (w : World) (v u : Value) (l m : List Deed) (h : ESD w v l) (h' : ESD w u m) :
    Does Tryz.prog 47 [v, u] w (Ret w (.bool (decide (l = m)))) := by
  have hle := h.le
  have hle' := h'.le
  refine Zb Tryz.func47 rfl Tryz.results47 Tryz.ntmps47 rfl ?_
  focus
    refine Gh<|Gx rfl<|Ge<|Gg<|Gh<|Gq v rfl<|Wo rfl (Vw Je rfl h)<|Gq u rfl<|Wo rfl (Vw Je rfl h')<|Yn rfl<|Ge<|Zk rfl (fun h1 => ?_) (fun h1 => ?_); refine Gh<|Gx rfl<|Ge<|Gv ?_; refine Gz (v := .bool _) rfl ?_; refine ⟨congrArg Value.bool ?_, (Ext.refl _)⟩; rotate_left; refine Gn<|Gg<|Gh<|Gw rfl<|Ge<|Gl ?_; rotate_left
  · exact (decide_eq_false (fun e => by have := congrArg List.length e; omega)).symm
  refine Zf [4, 5, 11, 12, 13, 14, 15, 16, 17, 18, 19, 20, 21, 22, 23, 24, 25, 26] (fun (k : Nat) => [(5, .int .i64 (k : Nat))]) (fun k w' => Ext w w' ∧ k ≤ l.length ∧ l.take k = m.take k) (fun k => l.length - k) 0 Kg ?_ ?_
  · exact ⟨by first | assumption | exact Ext.refl _, Nat.zero_le _, Ki⟩
  rintro k ρj w2 ⟨E2, hk, heq⟩
  by_cases hkl : k < l.length
  · have hkm : k < m.length := by omega
    have kd : ∀ (w : World), Does Tryz.prog 98 [dv l[k], dv m[k]] w (Ret w (.bool (decide (l[k] = m[k])))) := fun w => eqDeed_ok w _ _ _ _ _ _
    by_cases he : l[k] = m[k]
    · rw [decide_eq_true he] at kd
      focus
        refine Gg<|Gh<|Gk rfl<|Gq v rfl<|Wo rfl (Vw Je rfl h)<|Gs rfl<|Ge<|Gf rfl (fun h2 => ?_) (fun h2 => ?_); refine Gn<|Gg<|Gl<|Gg<|Vq Vt Kb rfl ?_; refine Yx v rfl<|Ul rfl<|Wq_getD Je Jc Jg Jc rfl (fun _ => rfl) rfl h E2 rfl Kf ?_; rintro _; refine Yx u rfl<|Ul rfl<|Wq_getD Je Jc Jg Jc rfl (fun _ => rfl) rfl h' E2 rfl Kf ?_; rintro _; refine Xb rfl (fun _ _ => Va (a := .agg _) (b := .agg _) Tryz.call98 rfl rfl) (fun w' hw' => (kd _)) ?_; refine Wqnot rfl<|Vo (fun w1 E1 => ?_); refine Vh rfl (fun h3 => ?_) (fun h3 => ?_); contradiction; refine Gn<|Gy<|Gk rfl<|Ze rfl ?_
        refine Gw rfl<|Ge ?_; rotate_left; (exfalso; omega)
      refine ⟨(k + 1), Kg, Kh, ?_, ?_⟩
      · refine ⟨by first | assumption | exact E2.trans Kd, Ka, ?_⟩
        rw [List.take_succ_eq_append_getElem hkl, List.take_succ_eq_append_getElem hkm, heq, he]
      · omega
    · rw [decide_eq_false he] at kd
      focus
        refine Gg<|Gh<|Gk rfl<|Gq v rfl<|Wo rfl (Vw Je rfl h)<|Gs rfl<|Ge<|Gf rfl (fun h2 => ?_) (fun h2 => ?_); refine Gn<|Gg<|Gl<|Gg<|Vq Vt Kb rfl ?_; refine Yx v rfl<|Ul rfl<|Wq_getD Je Jc Jg Jc rfl (fun _ => rfl) rfl h E2 rfl Kf ?_; rintro _; refine Yx u rfl<|Ul rfl<|Wq_getD Je Jc Jg Jc rfl (fun _ => rfl) rfl h' E2 rfl Kf ?_; rintro _; refine Xb rfl (fun _ _ => Va (a := .agg _) (b := .agg _) Tryz.call98 rfl rfl) (fun w' hw' => (kd _)) ?_; refine Wqnot rfl<|Vo (fun w1 E1 => ?_)
        refine Vh rfl (fun h3 => ?_) (fun h3 => ?_); refine Gh<|Gx rfl<|Ge<|Gv ?_; refine Gz (v := .bool _) rfl ?_; refine ⟨congrArg Value.bool ?_, exq⟩; rotate_left; contradiction; (exfalso; omega)
      exact (decide_eq_false (fun e => he (by subst e; rfl))).symm
  · focus
      have szE2 := E2.size; refine Gg<|Gh<|Gk rfl<|Gq v rfl<|Wo rfl (Vw Je rfl h)<|Gs rfl<|Ge<|Gf rfl (fun h2 => ?_) (fun h2 => ?_); (exfalso; omega); refine Zd ?_; refine Gp ?_; refine Gh<|Gx rfl<|Ge<|Gv ?_; refine Gz (v := .bool _) rfl ?_; refine ⟨congrArg Value.bool ?_, E2⟩
    refine (decide_eq_true ?_).symm
    have e1 : l.take k = l := List.take_of_length_le Ka
    have e2 : m.take k = m := List.take_of_length_le Ka
    rw [e1, e2] at heq
    exact heq
end Go.Proofs.YtbgpppaljpngmaaGreatDoor
namespace Go.Proofs.YtbgpppaljpngmaaGreatDoor
open Go.Hs
set_option maxRecDepth 10000
set_option maxHeartbeats 4000000
set_option linter.unusedVariables false
set_option linter.unusedSimpArgs false
end Go.Proofs.YtbgpppaljpngmaaGreatDoor
