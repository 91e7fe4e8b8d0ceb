/- Lemmas for FnReadJournal. -/
import Derived.Test.YtbgpppaljpngmaaGreatDoorMFnReadJournal5
import Derived.Test.YtbgpppaljpngmaaGreatDoorProg
namespace Go.Proofs.YtbgpppaljpngmaaGreatDoor
open Go.Hs
set_option maxRecDepth 10000
set_option maxHeartbeats 4000000
set_option linter.unusedVariables false
set_option linter.unusedSimpArgs false
open Classical in
theorem l11Made_ok (w : World) (v : Value) (p : List (List Int)) (h : ESl Ints w v p) (hp : Pic p) (k n : Int) (t : List UInt8) (ht : t.length ≤ 1048576) :
    Does Tryz.prog 93 [v, .agg #[.int .i64 k, str t, .int .i64 n]] w (RetOB w XR (og (madeV p ⟨k, t, n⟩)) (madeV p ⟨k, t, n⟩).isSome) := by
  have hle := h.le
  have hp1 := hp.1
  have hp5 := hp.2.1
  have hN : Nod p (0 : Nat) := ⟨hp, Kc, Ka⟩
  obtain ⟨Q, hQ⟩ : ∃ Q, Q = (rdP t).getD [] := ⟨_, rfl⟩
  obtain ⟨B, hB⟩ : ∃ B, B = (rdP t).isSome := ⟨_, rfl⟩
  obtain ⟨M, hM⟩ : ∃ M, M = madeV p ⟨k, t, n⟩ := ⟨_, rfl⟩
  rw [← hM]
  have k0 : ∀ w, Does Tryz.prog 122 [str t] w (RetOB w XR Q B) := fun w => hQ ▸ hB ▸ Sb w t ht
  refine Ul Tryz.func93 rfl Tryz.results93 Tryz.ntmps93 rfl ?_
  by_cases e0 : k = 0
  · subst e0
    by_cases e : t = [] ∧ n = 0
    · obtain ⟨rfl, rfl⟩ := e
      have hm : M = pairV p 0 p 0 := hM.trans (by simp [madeV])
      rw [hm]
      have k1 : ∀ (w : World) (v u : Value), ESl Ints w v p → ESl Ints w u p → Does Tryz.prog 141 [v, .int .i64 0, u, .int .i64 0] w (RetOB w XR (og (pairV p 0 p 0)) (pairV p 0 p 0).isSome) := fun w v u h1 h2 => PairOf_ok w v u p p h1 h2 0 0 hN hN
      focus
        refine Gs<|Vp rfl rfl rfl ?_; rintro b1 w1 hb1 E1 hB1; have hlb1 := hB1.lt; refine Vr rfl<|Zc rfl<|Gm<|Gs<|Zg Kp Ku rfl<|Xe Kx hB1 rfl<|Gu rfl (Vh (a := .string _) Jo rfl) (k0 _) ?_; rintro _ w2 ⟨u1, rfl, E2, hO1⟩; have hs2 := E2.size; refine Xf rfl<|Xo u1 rfl<|Yz rfl<|Vn u1 rfl<|Zc rfl<|Gm<|Gt<|Gy<|Gs<|Zg Kp Kl rfl<|Vi Km (hB1.ext E2) rfl<|Zs rfl<|Zp rfl (fun h1 => ?_) (fun h1 => ?_); refine Zg Kp Ku rfl<|Xe Kx (hB1.ext E2) rfl<|Wo rfl (Vo rfl rfl)<|Vw rfl<|Zp rfl (fun h2 => ?_) (fun h2 => ?_); refine Zg Kp Kl rfl ?_
        refine Vi Km (hB1.ext E2) rfl<|Zs rfl<|Vw rfl<|Zc rfl<|Gm<|Gq rfl (fun h3 => ?_) (fun h3 => ?_); refine Gs<|Zh v rfl<|Zh v rfl<|Gu rfl (Tl (a := v) (b := .int _ _) (c := v) (d := .int _ _) Tryz.call141 rfl rfl rfl rfl) (k1 _ _ _ ((Mono.mono exq h)) ((Mono.mono exq h))) ?_; rintro _ w3 ⟨u2, rfl, E3, hO2⟩; refine Xo u2 rfl<|Yz rfl<|Vn u2 rfl<|Zc rfl<|Gm<|Zd ?_; refine Zk (v := .tuple #[u2, .bool _]) rfl ?_; exact ⟨_, rfl, exq, hO2.toB.o.mono Ka⟩; contradiction; contradiction; contradiction
    · have hm : M = none := hM.trans (by simp only [madeV]; rw [if_neg (fun h => e ⟨h.2.1, h.2.2⟩), if_neg (fun h => absurd h.1 Kc), if_neg (fun h => absurd h.1 Kc), if_neg (fun h => absurd h.1 Kc)])
      rw [hm, show og none = [] from rfl, show (none : Option (List (List Int))).isSome = false from rfl]
      by_cases et : t = []
      · have en : ¬ n = 0 := fun h => e ⟨et, h⟩
        subst et
        focus
          refine Gs<|Vp rfl rfl rfl ?_; rintro b1 w1 hb1 E1 hB1; have hlb1 := hB1.lt; refine Vr rfl<|Zc rfl<|Gm<|Gs<|Zg Kp Ku rfl<|Xe Kx hB1 rfl<|Gu rfl (Vh (a := .string _) Jo rfl) (k0 _) ?_; rintro _ w2 ⟨u1, rfl, E2, hO1⟩; have hs2 := E2.size; refine Xf rfl<|Xo u1 rfl<|Yz rfl<|Vn u1 rfl<|Zc rfl<|Gm<|Gt<|Gy<|Gs<|Zg Kp Kl rfl<|Vi Km (hB1.ext E2) rfl<|Zs rfl<|Zp rfl (fun h1 => ?_) (fun h1 => ?_); refine Zg Kp Ku rfl<|Xe Kx (hB1.ext E2) rfl<|Wo rfl (Vo rfl rfl)<|Vw rfl<|Zp rfl (fun h2 => ?_) (fun h2 => ?_); refine Zg Kp Kl rfl ?_
          refine Vi Km (hB1.ext E2) rfl<|Zs rfl<|Vw rfl<|Zc rfl<|Gm<|Gq rfl (fun h3 => ?_) (fun h3 => ?_); contradiction; refine Gs<|Zg Kp Kl rfl<|Vi Km (hB1.ext E2) rfl<|Zs rfl<|Zp rfl (fun h4 => ?_) (fun h4 => ?_); contradiction; refine Gn rfl<|Vc rfl<|Vq rfl<|Gn rfl<|Gn rfl<|Gn rfl<|Vc rfl<|Zc rfl<|Gm<|Za rfl ?_; refine Gs<|Zg Kp Kl rfl<|Vi Km (hB1.ext E2) rfl<|Zs rfl<|Zp rfl (fun h5 => ?_) (fun h5 => ?_); contradiction; refine Gn rfl<|Vc rfl<|Vq rfl<|Gn rfl<|Gn rfl<|Gn rfl<|Vc rfl<|Zc rfl<|Gm<|Za rfl ?_
          refine Gt<|Yr Yn Kb rfl ?_; refine Xp Kp Kl rfl<|Ya (v := .int _ _) rfl (fun w' hw' => Zv Km rfl (((hB1.ext E2).ext hw').cell rfl)) ?_; refine Us rfl<|Ys rfl (fun h6 => ?_) (fun h6 => ?_); contradiction; refine Gw rfl<|Gw rfl<|Gw rfl<|Un rfl<|Ur rfl<|Gw rfl<|Gw rfl<|Gw rfl<|Gw rfl<|Gw rfl<|Gw rfl<|Un rfl<|Ur rfl<|Gw rfl<|Gw rfl<|Gw rfl<|Gw rfl<|Gw rfl<|Gw rfl<|Gw rfl<|Gw rfl<|Un rfl<|Sq rfl<|Yp (fun w3 E3 => ?_); have hs3 := E3.size; refine Za rfl ?_; refine Gx<|Gs<|Yb (XSl 3 XInt) rfl Ui Kv ?_; rintro b2 w4 hb2 b2lt E4 hO2; refine Vr rfl<|Zc rfl<|Gm ?_
          refine Zd ?_; refine Zk (v := .tuple #[.slice _ _ _, .bool _]) rfl ?_; exact ⟨_, rfl, exq, hO2.toB.o.mono Ka⟩; contradiction; contradiction
      · focus
          refine Gs<|Vp rfl rfl rfl ?_; rintro b1 w1 hb1 E1 hB1; have hlb1 := hB1.lt; refine Vr rfl<|Zc rfl<|Gm<|Gs<|Zg Kp Ku rfl<|Xe Kx hB1 rfl<|Gu rfl (Vh (a := .string _) Jo rfl) (k0 _) ?_; rintro _ w2 ⟨u1, rfl, E2, hO1⟩; have hs2 := E2.size; refine Xf rfl<|Xo u1 rfl<|Yz rfl<|Vn u1 rfl<|Zc rfl<|Gm<|Gt<|Gy<|Gs<|Zg Kp Kl rfl<|Vi Km (hB1.ext E2) rfl<|Zs rfl<|Zp rfl (fun h1 => ?_) (fun h1 => ?_); refine Zg Kp Ku rfl<|Xe Kx (hB1.ext E2) rfl<|Wo rfl (Vo rfl rfl)<|Vw rfl<|Zp rfl (fun h2 => ?_) (fun h2 => ?_); contradiction; refine Gn rfl<|Gn rfl<|Gn rfl ?_
          refine Vc rfl<|Zc rfl<|Gm<|Za rfl ?_; refine Gs<|Zg Kp Kl rfl<|Vi Km (hB1.ext E2) rfl<|Zs rfl<|Zp rfl (fun h3 => ?_) (fun h3 => ?_); contradiction; refine Gn rfl<|Vc rfl<|Vq rfl<|Gn rfl<|Gn rfl<|Gn rfl<|Vc rfl<|Zc rfl<|Gm<|Za rfl ?_; refine Gs<|Zg Kp Kl rfl<|Vi Km (hB1.ext E2) rfl<|Zs rfl<|Zp rfl (fun h4 => ?_) (fun h4 => ?_); contradiction; refine Gn rfl<|Vc rfl<|Vq rfl<|Gn rfl<|Gn rfl<|Gn rfl<|Vc rfl<|Zc rfl<|Gm<|Za rfl ?_; refine Gt<|Yr Yn Kb rfl ?_; refine Xp Kp Kl rfl ?_
          refine Ya (v := .int _ _) rfl (fun w' hw' => Zv Km rfl (((hB1.ext E2).ext hw').cell rfl)) ?_; refine Us rfl<|Ys rfl (fun h5 => ?_) (fun h5 => ?_); contradiction; refine Gw rfl<|Gw rfl<|Gw rfl<|Un rfl<|Ur rfl<|Gw rfl<|Gw rfl<|Gw rfl<|Gw rfl<|Gw rfl<|Gw rfl<|Un rfl<|Ur rfl<|Gw rfl<|Gw rfl<|Gw rfl<|Gw rfl<|Gw rfl<|Gw rfl<|Gw rfl<|Gw rfl<|Un rfl<|Sq rfl<|Yp (fun w3 E3 => ?_); have hs3 := E3.size; refine Za rfl ?_; refine Gx<|Gs<|Yb (XSl 3 XInt) rfl Ui Kv ?_; rintro b2 w4 hb2 b2lt E4 hO2; refine Vr rfl<|Zc rfl<|Gm ?_
          refine Zd ?_; refine Zk (v := .tuple #[.slice _ _ _, .bool _]) rfl ?_; exact ⟨_, rfl, exq, hO2.toB.o.mono Ka⟩; contradiction
  by_cases e1 : k = 1
  · subst e1
    by_cases en : n = 0
    · subst en
      have hm : M = (rdP t).bind fun q => (pairV q 0 q 0).bind fun s => togV p 0 s 0 := hM.trans (by simp only [madeV]; rw [if_neg (fun h => absurd h.1 Kc), if_pos Ki])
      cases hr : rdP t with
      | none =>
        rw [hr] at hm hB hQ
        rw [hm, show og (none.bind fun q => (pairV q 0 q 0).bind fun s => togV p 0 s 0) = [] from rfl, show (none.bind fun q => (pairV q 0 q 0).bind fun s => togV p 0 s 0).isSome = false from rfl]
        rw [hB, show (none : Option (List (List Int))).isSome = false from rfl] at k0
        focus
          refine Gs<|Vp rfl rfl rfl ?_; rintro b1 w1 hb1 E1 hB1; have hlb1 := hB1.lt; refine Vr rfl<|Zc rfl<|Gm<|Gs<|Zg Kp Ku rfl<|Xe Kx hB1 rfl<|Gu rfl (Vh (a := .string _) Jo rfl) (k0 _) ?_; rintro _ w2 ⟨u1, rfl, E2, hO1⟩; have hs2 := E2.size; refine Xf rfl<|Xo u1 rfl<|Yz rfl<|Vn u1 rfl<|Zc rfl<|Gm<|Gt<|Gy<|Gs<|Zg Kp Kl rfl<|Vi Km (hB1.ext E2) rfl<|Zs rfl<|Zp rfl (fun h1 => ?_) (fun h1 => ?_); contradiction; refine Gn rfl<|Gn rfl<|Gn rfl<|Vc rfl<|Vq rfl<|Gn rfl<|Gn rfl<|Gn rfl<|Vc rfl<|Zc rfl<|Gm<|Za rfl ?_; refine Gs ?_
          refine Zg Kp Kl rfl<|Vi Km (hB1.ext E2) rfl<|Zs rfl<|Zp rfl (fun h2 => ?_) (fun h2 => ?_); refine Vq rfl<|Vw rfl<|Vq rfl<|Gn rfl<|Gn rfl<|Gn rfl<|Vc rfl<|Zc rfl<|Gm<|Za rfl ?_; refine Gs<|Zg Kp Kl rfl<|Vi Km (hB1.ext E2) rfl<|Zs rfl<|Zp rfl (fun h3 => ?_) (fun h3 => ?_); contradiction; refine Gn rfl<|Vc rfl<|Vq rfl<|Gn rfl<|Gn rfl<|Gn rfl<|Vc rfl<|Zc rfl<|Gm<|Za rfl ?_; refine Gt<|Yr Yn Kb rfl ?_; refine Xp Kp Kl rfl<|Ya (v := .int _ _) rfl (fun w' hw' => Zv Km rfl (((hB1.ext E2).ext hw').cell rfl)) ?_
          refine Us rfl<|Ys rfl (fun h4 => ?_) (fun h4 => ?_); contradiction; refine Gw rfl<|Gw rfl<|Gw rfl<|Un rfl<|Ur rfl<|Gw rfl<|Gw rfl<|Gw rfl<|Gw rfl<|Gw rfl<|Gw rfl<|Un rfl<|Ur rfl<|Gw rfl<|Gw rfl<|Gw rfl<|Gw rfl<|Gw rfl<|Gw rfl<|Gw rfl<|Gw rfl<|Un rfl<|Sq rfl<|Yp (fun w3 E3 => ?_); have hs3 := E3.size; refine Za rfl ?_; refine Gx<|Gs<|Yb (XSl 3 XInt) rfl Ui Kv ?_; rintro b2 w4 hb2 b2lt E4 hO2; refine Vr rfl<|Zc rfl<|Gm<|Zd ?_; refine Zk (v := .tuple #[.slice _ _ _, .bool _]) rfl ?_; exact ⟨_, rfl, exq, hO2.toB.o.mono Ka⟩; contradiction
      | some q =>
        rw [hr] at hm hB hQ
        rw [hB, hQ, show (some q).isSome = true from rfl, show (some q).getD [] = q from rfl] at k0
        have hq := (Sm hr).1
        have hNq : Nod q (0 : Nat) := ⟨hq, Kc, by have := hq.1; omega⟩
        have k1 : ∀ (w : World) (v u : Value), ESl Ints w v q → ESl Ints w u q → Does Tryz.prog 141 [v, .int .i64 0, u, .int .i64 0] w (RetOB w XR (og (pairV q 0 q 0)) (pairV q 0 q 0).isSome) := fun w v u h1 h2 => PairOf_ok w v u q q h1 h2 0 0 hNq hNq
        rw [hm, show ((some q).bind fun q => (pairV q 0 q 0).bind fun s => togV p 0 s 0) = (pairV q 0 q 0).bind fun s => togV p 0 s 0 from rfl]
        cases hs : pairV q 0 q 0 with
        | none =>
          rw [hs] at k1
          rw [show (none.bind fun s => togV p 0 s 0) = none from rfl]
          rw [show og none = [] from rfl, show (none : Option (List (List Int))).isSome = false from rfl] at k1 ⊢
          focus
            refine Gs<|Vp rfl rfl rfl ?_; rintro b1 w1 hb1 E1 hB1; have hlb1 := hB1.lt; refine Vr rfl<|Zc rfl<|Gm<|Gs<|Zg Kp Ku rfl<|Xe Kx hB1 rfl<|Gu rfl (Vh (a := .string _) Jo rfl) (k0 _) ?_; rintro _ w2 ⟨u1, rfl, E2, hO1⟩; have hs2 := E2.size; refine Xf rfl<|Xo u1 rfl<|Yz rfl<|Vn u1 rfl<|Zc rfl<|Gm<|Gt<|Gy<|Gs<|Zg Kp Kl rfl<|Vi Km (hB1.ext E2) rfl<|Zs rfl<|Zp rfl (fun h1 => ?_) (fun h1 => ?_); contradiction; refine Gn rfl<|Gn rfl<|Gn rfl<|Vc rfl<|Vq rfl<|Gn rfl<|Gn rfl<|Gn rfl<|Vc rfl<|Zc rfl<|Gm<|Za rfl ?_; refine Gs ?_
            refine Zg Kp Kl rfl<|Vi Km (hB1.ext E2) rfl<|Zs rfl<|Zp rfl (fun h2 => ?_) (fun h2 => ?_); refine Vq rfl<|Vw rfl<|Vq rfl<|Zg Kp Kl rfl<|Vi Km (hB1.ext E2) rfl<|Zs rfl<|Vw rfl<|Zc rfl<|Gm<|Gq rfl (fun h3 => ?_) (fun h3 => ?_); refine Gt<|Zl<|Zh u1 rfl<|Zh u1 rfl<|Gu rfl (Tl (a := u1) (b := .int _ _) (c := u1) (d := .int _ _) Tryz.call141 rfl rfl rfl rfl) (k1 _ _ _ ((Owned.read hO1)) ((Owned.read hO1))) ?_; rintro _ w3 ⟨u2, rfl, E3, hO2⟩; have hs3 := E3.size; refine Xf rfl<|Xo u2 rfl<|Yz rfl<|Vn u2 rfl<|Zc rfl<|Gm<|Gt<|Gs<|Vq rfl<|Vt rfl<|Gm ?_
            refine Vv rfl (fun h4 => ?_) (fun h4 => ?_); refine Gs<|Yb (XSl 3 XInt) rfl Ui Kv ?_; rintro b2 w4 hb2 b2lt E4 hO3; refine Vr rfl<|Zc rfl<|Gm<|Zd ?_; refine Zk (v := .tuple #[.slice _ _ _, .bool _]) rfl ?_; exact ⟨_, rfl, exq, hO3.toB.o.mono Ka⟩; contradiction; contradiction; contradiction
        | some s =>
          rw [hs] at k1
          rw [show ((some s).bind fun s => togV p 0 s 0) = togV p 0 s 0 from rfl]
          rw [show og (some s) = s from rfl, show (some s).isSome = true from rfl] at k1
          have hsp := (Tj hq hq hs).1
          have hNs : Nod s (0 : Nat) := ⟨hsp, Kc, by have := hsp.1; omega⟩
          have k2 : ∀ (w : World) (v u : Value), ESl Ints w v p → ESl Ints w u s → Does Tryz.prog 142 [v, .int .i64 0, u, .int .i64 0] w (RetOB w XR (og (togV p 0 s 0)) (togV p 0 s 0).isSome) := fun w v u h1 h2 => TogetherOf_ok w v u p s h1 h2 0 0 hN hNs
          focus
            refine Gs<|Vp rfl rfl rfl ?_; rintro b1 w1 hb1 E1 hB1; have hlb1 := hB1.lt; refine Vr rfl<|Zc rfl<|Gm<|Gs<|Zg Kp Ku rfl<|Xe Kx hB1 rfl<|Gu rfl (Vh (a := .string _) Jo rfl) (k0 _) ?_; rintro _ w2 ⟨u1, rfl, E2, hO1⟩; have hs2 := E2.size; refine Xf rfl<|Xo u1 rfl<|Yz rfl<|Vn u1 rfl<|Zc rfl<|Gm<|Gt<|Gy<|Gs<|Zg Kp Kl rfl<|Vi Km (hB1.ext E2) rfl<|Zs rfl<|Zp rfl (fun h1 => ?_) (fun h1 => ?_); contradiction; refine Gn rfl<|Gn rfl<|Gn rfl<|Vc rfl<|Vq rfl<|Gn rfl<|Gn rfl<|Gn rfl<|Vc rfl<|Zc rfl<|Gm<|Za rfl ?_; refine Gs ?_
            refine Zg Kp Kl rfl<|Vi Km (hB1.ext E2) rfl<|Zs rfl<|Zp rfl (fun h2 => ?_) (fun h2 => ?_); refine Vq rfl<|Vw rfl<|Vq rfl<|Zg Kp Kl rfl<|Vi Km (hB1.ext E2) rfl<|Zs rfl<|Vw rfl<|Zc rfl<|Gm<|Gq rfl (fun h3 => ?_) (fun h3 => ?_); refine Gt<|Zl<|Zh u1 rfl<|Zh u1 rfl<|Gu rfl (Tl (a := u1) (b := .int _ _) (c := u1) (d := .int _ _) Tryz.call141 rfl rfl rfl rfl) (k1 _ _ _ ((Owned.read hO1)) ((Owned.read hO1))) ?_; rintro _ w3 ⟨u2, rfl, E3, hO2⟩; have hs3 := E3.size; refine Xf rfl<|Xo u2 rfl<|Yz rfl<|Vn u2 rfl<|Zc rfl<|Gm<|Gt<|Gs<|Vq rfl<|Vt rfl<|Gm ?_
            refine Vv rfl (fun h4 => ?_) (fun h4 => ?_); contradiction; refine Gx<|Gs<|Zh v rfl<|Zh u2 rfl<|Gu rfl (Tl (a := v) (b := .int _ _) (c := u2) (d := .int _ _) Tryz.call142 rfl rfl rfl rfl) (k2 _ _ _ ((Mono.mono exq h)) ((Owned.read hO2))) ?_; rintro _ w4 ⟨u3, rfl, E4, hO3⟩; refine Xo u3 rfl<|Yz rfl<|Vn u3 rfl<|Zc rfl<|Gm<|Zd ?_; refine Zk (v := .tuple #[u3, .bool _]) rfl ?_; exact ⟨_, rfl, exq, hO3.toB.o.mono Ka⟩; contradiction; contradiction
    · have hm : M = none := hM.trans (by simp only [madeV]; rw [if_neg (fun h => absurd h.1 Kc), if_neg (fun h => en h.2), if_neg (fun h => absurd h.1 Kc), if_neg (fun h => absurd h.1 Kc)])
      rw [hm, show og none = [] from rfl, show (none : Option (List (List Int))).isSome = false from rfl]
      cases B
      · focus
          refine Gs<|Vp rfl rfl rfl ?_; rintro b1 w1 hb1 E1 hB1; have hlb1 := hB1.lt; refine Vr rfl<|Zc rfl<|Gm<|Gs<|Zg Kp Ku rfl<|Xe Kx hB1 rfl<|Gu rfl (Vh (a := .string _) Jo rfl) (k0 _) ?_; rintro _ w2 ⟨u1, rfl, E2, hO1⟩; have hs2 := E2.size; refine Xf rfl<|Xo u1 rfl<|Yz rfl<|Vn u1 rfl<|Zc rfl<|Gm<|Gt<|Gy<|Gs<|Zg Kp Kl rfl<|Vi Km (hB1.ext E2) rfl<|Zs rfl<|Zp rfl (fun h1 => ?_) (fun h1 => ?_); contradiction; refine Gn rfl<|Gn rfl<|Gn rfl<|Vc rfl<|Vq rfl<|Gn rfl<|Gn rfl<|Gn rfl<|Vc rfl<|Zc rfl<|Gm<|Za rfl ?_; refine Gs ?_
          refine Zg Kp Kl rfl<|Vi Km (hB1.ext E2) rfl<|Zs rfl<|Zp rfl (fun h2 => ?_) (fun h2 => ?_); refine Vq rfl<|Vw rfl<|Vq rfl<|Gn rfl<|Gn rfl<|Gn rfl<|Vc rfl<|Zc rfl<|Gm<|Za rfl ?_; refine Gs<|Zg Kp Kl rfl<|Vi Km (hB1.ext E2) rfl<|Zs rfl<|Zp rfl (fun h3 => ?_) (fun h3 => ?_); contradiction; refine Gn rfl<|Vc rfl<|Vq rfl<|Gn rfl<|Gn rfl<|Gn rfl<|Vc rfl<|Zc rfl<|Gm<|Za rfl ?_; refine Gt<|Yr Yn Kb rfl ?_; refine Xp Kp Kl rfl<|Ya (v := .int _ _) rfl (fun w' hw' => Zv Km rfl (((hB1.ext E2).ext hw').cell rfl)) ?_
          refine Us rfl<|Ys rfl (fun h4 => ?_) (fun h4 => ?_); contradiction; refine Gw rfl<|Gw rfl<|Gw rfl<|Un rfl<|Ur rfl<|Gw rfl<|Gw rfl<|Gw rfl<|Gw rfl<|Gw rfl<|Gw rfl<|Un rfl<|Ur rfl<|Gw rfl<|Gw rfl<|Gw rfl<|Gw rfl<|Gw rfl<|Gw rfl<|Gw rfl<|Gw rfl<|Un rfl<|Sq rfl<|Yp (fun w3 E3 => ?_); have hs3 := E3.size; refine Za rfl ?_; refine Gx<|Gs<|Yb (XSl 3 XInt) rfl Ui Kv ?_; rintro b2 w4 hb2 b2lt E4 hO2; refine Vr rfl<|Zc rfl<|Gm<|Zd ?_; refine Zk (v := .tuple #[.slice _ _ _, .bool _]) rfl ?_; exact ⟨_, rfl, exq, hO2.toB.o.mono Ka⟩; contradiction
      · focus
          refine Gs<|Vp rfl rfl rfl ?_; rintro b1 w1 hb1 E1 hB1; have hlb1 := hB1.lt; refine Vr rfl<|Zc rfl<|Gm<|Gs<|Zg Kp Ku rfl<|Xe Kx hB1 rfl<|Gu rfl (Vh (a := .string _) Jo rfl) (k0 _) ?_; rintro _ w2 ⟨u1, rfl, E2, hO1⟩; have hs2 := E2.size; refine Xf rfl<|Xo u1 rfl<|Yz rfl<|Vn u1 rfl<|Zc rfl<|Gm<|Gt<|Gy<|Gs<|Zg Kp Kl rfl<|Vi Km (hB1.ext E2) rfl<|Zs rfl<|Zp rfl (fun h1 => ?_) (fun h1 => ?_); contradiction; refine Gn rfl<|Gn rfl<|Gn rfl<|Vc rfl<|Vq rfl<|Gn rfl<|Gn rfl<|Gn rfl<|Vc rfl<|Zc rfl<|Gm<|Za rfl ?_; refine Gs ?_
          refine Zg Kp Kl rfl<|Vi Km (hB1.ext E2) rfl<|Zs rfl<|Zp rfl (fun h2 => ?_) (fun h2 => ?_); refine Vq rfl<|Vw rfl<|Vq rfl<|Zg Kp Kl rfl<|Vi Km (hB1.ext E2) rfl<|Zs rfl<|Vw rfl<|Zc rfl<|Gm<|Gq rfl (fun h3 => ?_) (fun h3 => ?_); contradiction; refine Gs<|Zg Kp Kl rfl<|Vi Km (hB1.ext E2) rfl<|Zs rfl<|Zp rfl (fun h4 => ?_) (fun h4 => ?_); contradiction; refine Gn rfl<|Vc rfl<|Vq rfl<|Gn rfl<|Gn rfl<|Gn rfl<|Vc rfl<|Zc rfl<|Gm<|Za rfl ?_; refine Gt<|Yr Yn Kb rfl ?_; refine Xp Kp Kl rfl ?_
          refine Ya (v := .int _ _) rfl (fun w' hw' => Zv Km rfl (((hB1.ext E2).ext hw').cell rfl)) ?_; refine Us rfl<|Ys rfl (fun h5 => ?_) (fun h5 => ?_); contradiction; refine Gw rfl<|Gw rfl<|Gw rfl<|Un rfl<|Ur rfl<|Gw rfl<|Gw rfl<|Gw rfl<|Gw rfl<|Gw rfl<|Gw rfl<|Un rfl<|Ur rfl<|Gw rfl<|Gw rfl<|Gw rfl<|Gw rfl<|Gw rfl<|Gw rfl<|Gw rfl<|Gw rfl<|Un rfl<|Sq rfl<|Yp (fun w3 E3 => ?_); have hs3 := E3.size; refine Za rfl ?_; refine Gx<|Gs<|Yb (XSl 3 XInt) rfl Ui Kv ?_; rintro b2 w4 hb2 b2lt E4 hO2; refine Vr rfl<|Zc rfl<|Gm ?_
          refine Zd ?_; refine Zk (v := .tuple #[.slice _ _ _, .bool _]) rfl ?_; exact ⟨_, rfl, exq, hO2.toB.o.mono Ka⟩; contradiction
  by_cases e2 : k = 2
  · subst e2
    by_cases en : n = 0
    · subst en
      have hm : M = (rdP t).bind fun q => wosV p 0 q 0 := hM.trans (by simp only [madeV]; rw [if_neg (fun h => absurd h.1 Kc), if_neg (fun h => absurd h.1 Kc), if_pos Ki])
      cases hr : rdP t with
      | none =>
        rw [hr] at hm hB hQ
        rw [hm, show og (none.bind fun q => wosV p 0 q 0) = [] from rfl, show (none.bind fun q => wosV p 0 q 0).isSome = false from rfl]
        rw [hB, show (none : Option (List (List Int))).isSome = false from rfl] at k0
        focus
          refine Gs<|Vp rfl rfl rfl ?_; rintro b1 w1 hb1 E1 hB1; have hlb1 := hB1.lt; refine Vr rfl<|Zc rfl<|Gm<|Gs<|Zg Kp Ku rfl<|Xe Kx hB1 rfl<|Gu rfl (Vh (a := .string _) Jo rfl) (k0 _) ?_; rintro _ w2 ⟨u1, rfl, E2, hO1⟩; have hs2 := E2.size; refine Xf rfl<|Xo u1 rfl<|Yz rfl<|Vn u1 rfl<|Zc rfl<|Gm<|Gt<|Gy<|Gs<|Zg Kp Kl rfl<|Vi Km (hB1.ext E2) rfl<|Zs rfl<|Zp rfl (fun h1 => ?_) (fun h1 => ?_); contradiction; refine Gn rfl<|Gn rfl<|Gn rfl<|Vc rfl<|Vq rfl<|Gn rfl<|Gn rfl<|Gn rfl<|Vc rfl<|Zc rfl<|Gm<|Za rfl ?_; refine Gs ?_
          refine Zg Kp Kl rfl<|Vi Km (hB1.ext E2) rfl<|Zs rfl<|Zp rfl (fun h2 => ?_) (fun h2 => ?_); contradiction; refine Gn rfl<|Vc rfl<|Vq rfl<|Gn rfl<|Gn rfl<|Gn rfl<|Vc rfl<|Zc rfl<|Gm<|Za rfl ?_; refine Gs<|Zg Kp Kl rfl<|Vi Km (hB1.ext E2) rfl<|Zs rfl<|Zp rfl (fun h3 => ?_) (fun h3 => ?_); refine Vq rfl<|Vw rfl<|Vq rfl<|Gn rfl<|Gn rfl<|Gn rfl<|Vc rfl<|Zc rfl<|Gm<|Za rfl ?_; refine Gt<|Yr Yn Kb rfl ?_; refine Xp Kp Kl rfl<|Ya (v := .int _ _) rfl (fun w' hw' => Zv Km rfl (((hB1.ext E2).ext hw').cell rfl)) ?_; refine Us rfl ?_
          refine Ys rfl (fun h4 => ?_) (fun h4 => ?_); contradiction; refine Gw rfl<|Gw rfl<|Gw rfl<|Un rfl<|Ur rfl<|Gw rfl<|Gw rfl<|Gw rfl<|Gw rfl<|Gw rfl<|Gw rfl<|Un rfl<|Ur rfl<|Gw rfl<|Gw rfl<|Gw rfl<|Gw rfl<|Gw rfl<|Gw rfl<|Gw rfl<|Gw rfl<|Un rfl<|Sq rfl<|Yp (fun w3 E3 => ?_); have hs3 := E3.size; refine Za rfl ?_; refine Gx<|Gs<|Yb (XSl 3 XInt) rfl Ui Kv ?_; rintro b2 w4 hb2 b2lt E4 hO2; refine Vr rfl<|Zc rfl<|Gm<|Zd ?_; refine Zk (v := .tuple #[.slice _ _ _, .bool _]) rfl ?_; exact ⟨_, rfl, exq, hO2.toB.o.mono Ka⟩; contradiction
      | some q =>
        rw [hr] at hm hB hQ
        rw [hB, hQ, show (some q).isSome = true from rfl, show (some q).getD [] = q from rfl] at k0
        have hq := (Sm hr).1
        have hNq : Nod q (0 : Nat) := ⟨hq, Kc, by have := hq.1; omega⟩
        have k1 : ∀ (w : World) (v u : Value), ESl Ints w v p → ESl Ints w u q → Does Tryz.prog 143 [v, .int .i64 0, u, .int .i64 0] w (RetOB w XR (og (wosV p 0 q 0)) (wosV p 0 q 0).isSome) := fun w v u h1 h2 => WithoutSet_ok w v u p q h1 h2 0 0 hN hNq
        rw [hm, show ((some q).bind fun q => wosV p 0 q 0) = wosV p 0 q 0 from rfl]
        focus
          refine Gs<|Vp rfl rfl rfl ?_; rintro b1 w1 hb1 E1 hB1; have hlb1 := hB1.lt; refine Vr rfl<|Zc rfl<|Gm<|Gs<|Zg Kp Ku rfl<|Xe Kx hB1 rfl<|Gu rfl (Vh (a := .string _) Jo rfl) (k0 _) ?_; rintro _ w2 ⟨u1, rfl, E2, hO1⟩; have hs2 := E2.size; refine Xf rfl<|Xo u1 rfl<|Yz rfl<|Vn u1 rfl<|Zc rfl<|Gm<|Gt<|Gy<|Gs<|Zg Kp Kl rfl<|Vi Km (hB1.ext E2) rfl<|Zs rfl<|Zp rfl (fun h1 => ?_) (fun h1 => ?_); contradiction; refine Gn rfl<|Gn rfl<|Gn rfl<|Vc rfl<|Vq rfl<|Gn rfl<|Gn rfl<|Gn rfl<|Vc rfl<|Zc rfl<|Gm<|Za rfl ?_; refine Gs ?_
          refine Zg Kp Kl rfl<|Vi Km (hB1.ext E2) rfl<|Zs rfl<|Zp rfl (fun h2 => ?_) (fun h2 => ?_); contradiction; refine Gn rfl<|Vc rfl<|Vq rfl<|Gn rfl<|Gn rfl<|Gn rfl<|Vc rfl<|Zc rfl<|Gm<|Za rfl ?_; refine Gs<|Zg Kp Kl rfl<|Vi Km (hB1.ext E2) rfl<|Zs rfl<|Zp rfl (fun h3 => ?_) (fun h3 => ?_); refine Vq rfl<|Vw rfl<|Vq rfl<|Zg Kp Kl rfl<|Vi Km (hB1.ext E2) rfl<|Zs rfl<|Vw rfl<|Zc rfl<|Gm<|Gq rfl (fun h4 => ?_) (fun h4 => ?_); refine Gt<|Zl<|Zh v rfl<|Zh u1 rfl ?_
          refine Gu rfl (Tl (a := v) (b := .int _ _) (c := u1) (d := .int _ _) Tryz.call143 rfl rfl rfl rfl) (k1 _ _ _ ((Mono.mono exq h)) ((Owned.read hO1))) ?_; rintro _ w3 ⟨u2, rfl, E3, hO2⟩; refine Xo u2 rfl<|Yz rfl<|Vn u2 rfl<|Zc rfl<|Gm<|Zd ?_; refine Zk (v := .tuple #[u2, .bool _]) rfl ?_; exact ⟨_, rfl, exq, hO2.toB.o.mono Ka⟩; contradiction; contradiction
    · have hm : M = none := hM.trans (by simp only [madeV]; rw [if_neg (fun h => absurd h.1 Kc), if_neg (fun h => absurd h.1 Kc), if_neg (fun h => en h.2), if_neg (fun h => absurd h.1 Kc)])
      rw [hm, show og none = [] from rfl, show (none : Option (List (List Int))).isSome = false from rfl]
      cases B
      · focus
          refine Gs<|Vp rfl rfl rfl ?_; rintro b1 w1 hb1 E1 hB1; have hlb1 := hB1.lt; refine Vr rfl<|Zc rfl<|Gm<|Gs<|Zg Kp Ku rfl<|Xe Kx hB1 rfl<|Gu rfl (Vh (a := .string _) Jo rfl) (k0 _) ?_; rintro _ w2 ⟨u1, rfl, E2, hO1⟩; have hs2 := E2.size; refine Xf rfl<|Xo u1 rfl<|Yz rfl<|Vn u1 rfl<|Zc rfl<|Gm<|Gt<|Gy<|Gs<|Zg Kp Kl rfl<|Vi Km (hB1.ext E2) rfl<|Zs rfl<|Zp rfl (fun h1 => ?_) (fun h1 => ?_); contradiction; refine Gn rfl<|Gn rfl<|Gn rfl<|Vc rfl<|Vq rfl<|Gn rfl<|Gn rfl<|Gn rfl<|Vc rfl<|Zc rfl<|Gm<|Za rfl ?_; refine Gs ?_
          refine Zg Kp Kl rfl<|Vi Km (hB1.ext E2) rfl<|Zs rfl<|Zp rfl (fun h2 => ?_) (fun h2 => ?_); contradiction; refine Gn rfl<|Vc rfl<|Vq rfl<|Gn rfl<|Gn rfl<|Gn rfl<|Vc rfl<|Zc rfl<|Gm<|Za rfl ?_; refine Gs<|Zg Kp Kl rfl<|Vi Km (hB1.ext E2) rfl<|Zs rfl<|Zp rfl (fun h3 => ?_) (fun h3 => ?_); refine Vq rfl<|Vw rfl<|Vq rfl<|Gn rfl<|Gn rfl<|Gn rfl<|Vc rfl<|Zc rfl<|Gm<|Za rfl ?_; refine Gt<|Yr Yn Kb rfl ?_; refine Xp Kp Kl rfl<|Ya (v := .int _ _) rfl (fun w' hw' => Zv Km rfl (((hB1.ext E2).ext hw').cell rfl)) ?_; refine Us rfl ?_
          refine Ys rfl (fun h4 => ?_) (fun h4 => ?_); contradiction; refine Gw rfl<|Gw rfl<|Gw rfl<|Un rfl<|Ur rfl<|Gw rfl<|Gw rfl<|Gw rfl<|Gw rfl<|Gw rfl<|Gw rfl<|Un rfl<|Ur rfl<|Gw rfl<|Gw rfl<|Gw rfl<|Gw rfl<|Gw rfl<|Gw rfl<|Gw rfl<|Gw rfl<|Un rfl<|Sq rfl<|Yp (fun w3 E3 => ?_); have hs3 := E3.size; refine Za rfl ?_; refine Gx<|Gs<|Yb (XSl 3 XInt) rfl Ui Kv ?_; rintro b2 w4 hb2 b2lt E4 hO2; refine Vr rfl<|Zc rfl<|Gm<|Zd ?_; refine Zk (v := .tuple #[.slice _ _ _, .bool _]) rfl ?_; exact ⟨_, rfl, exq, hO2.toB.o.mono Ka⟩; contradiction
      · focus
          refine Gs<|Vp rfl rfl rfl ?_; rintro b1 w1 hb1 E1 hB1; have hlb1 := hB1.lt; refine Vr rfl<|Zc rfl<|Gm<|Gs<|Zg Kp Ku rfl<|Xe Kx hB1 rfl<|Gu rfl (Vh (a := .string _) Jo rfl) (k0 _) ?_; rintro _ w2 ⟨u1, rfl, E2, hO1⟩; have hs2 := E2.size; refine Xf rfl<|Xo u1 rfl<|Yz rfl<|Vn u1 rfl<|Zc rfl<|Gm<|Gt<|Gy<|Gs<|Zg Kp Kl rfl<|Vi Km (hB1.ext E2) rfl<|Zs rfl<|Zp rfl (fun h1 => ?_) (fun h1 => ?_); contradiction; refine Gn rfl<|Gn rfl<|Gn rfl<|Vc rfl<|Vq rfl<|Gn rfl<|Gn rfl<|Gn rfl<|Vc rfl<|Zc rfl<|Gm<|Za rfl ?_; refine Gs ?_
          refine Zg Kp Kl rfl<|Vi Km (hB1.ext E2) rfl<|Zs rfl<|Zp rfl (fun h2 => ?_) (fun h2 => ?_); contradiction; refine Gn rfl<|Vc rfl<|Vq rfl<|Gn rfl<|Gn rfl<|Gn rfl<|Vc rfl<|Zc rfl<|Gm<|Za rfl ?_; refine Gs<|Zg Kp Kl rfl<|Vi Km (hB1.ext E2) rfl<|Zs rfl<|Zp rfl (fun h3 => ?_) (fun h3 => ?_); refine Vq rfl<|Vw rfl<|Vq rfl<|Zg Kp Kl rfl<|Vi Km (hB1.ext E2) rfl<|Zs rfl<|Vw rfl<|Zc rfl<|Gm<|Gq rfl (fun h4 => ?_) (fun h4 => ?_); contradiction; refine Gt<|Yr Yn Kb rfl ?_; refine Xp Kp Kl rfl ?_
          refine Ya (v := .int _ _) rfl (fun w' hw' => Zv Km rfl (((hB1.ext E2).ext hw').cell rfl)) ?_; refine Us rfl<|Ys rfl (fun h5 => ?_) (fun h5 => ?_); contradiction; refine Gw rfl<|Gw rfl<|Gw rfl<|Un rfl<|Ur rfl<|Gw rfl<|Gw rfl<|Gw rfl<|Gw rfl<|Gw rfl<|Gw rfl<|Un rfl<|Ur rfl<|Gw rfl<|Gw rfl<|Gw rfl<|Gw rfl<|Gw rfl<|Gw rfl<|Gw rfl<|Gw rfl<|Un rfl<|Sq rfl<|Yp (fun w3 E3 => ?_); have hs3 := E3.size; refine Za rfl ?_; refine Gx<|Gs<|Yb (XSl 3 XInt) rfl Ui Kv ?_; rintro b2 w4 hb2 b2lt E4 hO2; refine Vr rfl<|Zc rfl<|Gm ?_
          refine Zd ?_; refine Zk (v := .tuple #[.slice _ _ _, .bool _]) rfl ?_; exact ⟨_, rfl, exq, hO2.toB.o.mono Ka⟩; contradiction
  by_cases e3 : k = 3
  · subst e3
    by_cases et : t = []
    · subst et
      by_cases en : 0 ≤ n ∧ n ≤ (p.length : Int) - 1
      · have k2 : ∀ w, Does Tryz.prog 116 [.int .i64 n, .int .i64 0, .int .i64 ((p.length : Int) - 1)] w (Ret w (.bool true)) := fun w => by
          have := Qe n 0 ((p.length : Int) - 1) w; rwa [decide_eq_true en] at this
        have hrow : p[0].length = p.length := hp.row hp1
        obtain ⟨i, rfl⟩ : ∃ i : Nat, n = i := ⟨n.toNat, Ka⟩
        have hbit : bit p 0 i = p[0][i] := by unfold bit; rw [Vg hp1, Vg (show i < p[0].length by omega)]
        by_cases eb : p[0][i] = 1
        · have hm : M = some (lst p i) := hM.trans (by simp only [madeV]; rw [if_neg (fun h => absurd h.1 Kc), if_neg (fun h => absurd h.1 Kc), if_neg (fun h => absurd h.1 Kc), if_pos ⟨trivial, trivial, Ka, Ka, by rw [Int.toNat_natCast, hbit, eb]⟩, Int.toNat_natCast])
          have hNi : Nod p (i : Int) := ⟨hp, Ka, Ka⟩
          have k3 : ∀ (w : World) (v : Value), ESl Ints w v p → Does Tryz.prog 126 [v, .int .i64 (i : Int)] w (RetO w XR (lst p i)) := fun w v h => by
            have := Qg w v p h (i : Int); rw [if_pos hNi] at this; exact this
          rw [hm, show og (some (lst p i)) = lst p i from rfl, show (some (lst p i)).isSome = true from rfl]
          focus
            refine Gs<|Vp rfl rfl rfl ?_; rintro b1 w1 hb1 E1 hB1; have hlb1 := hB1.lt; refine Vr rfl<|Zc rfl<|Gm<|Gs<|Zg Kp Ku rfl<|Xe Kx hB1 rfl<|Gu rfl (Vh (a := .string _) Jo rfl) (k0 _) ?_; rintro _ w2 ⟨u1, rfl, E2, hO1⟩; have hs2 := E2.size; refine Xf rfl<|Xo u1 rfl<|Yz rfl<|Vn u1 rfl<|Zc rfl<|Gm<|Gt<|Gy<|Gs<|Zg Kp Kl rfl<|Vi Km (hB1.ext E2) rfl<|Zs rfl<|Zp rfl (fun h1 => ?_) (fun h1 => ?_); contradiction; refine Gn rfl<|Gn rfl<|Gn rfl<|Vc rfl<|Vq rfl<|Gn rfl<|Gn rfl<|Gn rfl<|Vc rfl<|Zc rfl<|Gm<|Za rfl ?_; refine Gs ?_
            refine Zg Kp Kl rfl<|Vi Km (hB1.ext E2) rfl<|Zs rfl<|Zp rfl (fun h2 => ?_) (fun h2 => ?_); contradiction; refine Gn rfl<|Vc rfl<|Vq rfl<|Gn rfl<|Gn rfl<|Gn rfl<|Vc rfl<|Zc rfl<|Gm<|Za rfl ?_; refine Gs<|Zg Kp Kl rfl<|Vi Km (hB1.ext E2) rfl<|Zs rfl<|Zp rfl (fun h3 => ?_) (fun h3 => ?_); contradiction; refine Gn rfl<|Vc rfl<|Vq rfl<|Gn rfl<|Gn rfl<|Gn rfl<|Vc rfl<|Zc rfl<|Gm<|Za rfl ?_; refine Gt<|Yr Yn Kb rfl ?_; refine Xp Kp Kl rfl<|Ya (v := .int _ _) rfl (fun w' hw' => Zv Km rfl (((hB1.ext E2).ext hw').cell rfl)) ?_; refine Us rfl ?_
            refine Ys rfl (fun h4 => ?_) (fun h4 => ?_); refine Xp Kp Ku rfl<|Ya (v := .string _) rfl (fun w' hw' => Zv Kx rfl (((hB1.ext E2).ext hw').cell rfl)) ?_; refine Ya rfl (fun _ _ => Vo rfl rfl) ?_; refine Ux rfl<|Ys rfl (fun h5 => ?_) (fun h5 => ?_); refine Xp Kp Kl rfl<|Ya (v := .int _ _) rfl (fun w' hw' => Zv Km rfl (((hB1.ext E2).ext hw').cell rfl)) ?_; refine Um v rfl<|Ya rfl (fun _ _ => Uh Kq rfl h) ?_; refine Ya rfl (fun _ _ => opv_sub rfl rfl Ka) ?_; refine Yy rfl (fun _ _ => Sy (a := .int _ _) (b := .int _ _) (c := .int _ _) Jr rfl rfl rfl) (fun w' hw' => (k2 _)) ?_; refine Ux rfl<|Ur rfl<|Um v rfl ?_
            refine Xk (k := 0) Kq Kv Ja rfl (fun _ => rfl) rfl h exq rfl Kf ?_; rintro _ u2 hu1; refine Xp Kp Kl rfl<|Ya (v := .int _ _) rfl (fun w' hw' => Zv Km rfl (((hB1.ext E2).ext hw').cell rfl)) ?_; refine Xk Kn Kl Km rfl (fun _ => rfl) rfl hu1 exq rfl Kf ?_; rintro _ _ rfl; refine Us rfl<|Ux rfl<|Sq rfl<|Yp (fun w3 E3 => ?_); have hs3 := E3.size; refine Gq rfl (fun h6 => ?_) (fun h6 => ?_); refine Gs<|Zh v rfl<|Zg Kp Kl rfl<|Vi Km (hB1.ext exq) rfl<|Gu rfl (Vb (a := v) (b := .int _ _) Jx rfl rfl) (k3 _ _ ((Mono.mono exq h))) ?_
            rintro u3 w4 ⟨E4, hO2⟩; refine Vn u3 rfl<|Zc rfl<|Gm<|Zd ?_; refine Zk (v := .tuple #[u3, .bool _]) rfl ?_; exact ⟨_, rfl, exq, hO2.toB.o.mono Ka⟩; contradiction; contradiction; contradiction
        · have hm : M = none := hM.trans (by simp only [madeV]; rw [if_neg (fun h => absurd h.1 Kc), if_neg (fun h => absurd h.1 Kc), if_neg (fun h => absurd h.1 Kc), if_neg (fun h => eb (by have := h.2.2.2.2; rwa [Int.toNat_natCast, hbit] at this))])
          rw [hm, show og none = [] from rfl, show (none : Option (List (List Int))).isSome = false from rfl]
          focus
            refine Gs<|Vp rfl rfl rfl ?_; rintro b1 w1 hb1 E1 hB1; have hlb1 := hB1.lt; refine Vr rfl<|Zc rfl<|Gm<|Gs<|Zg Kp Ku rfl<|Xe Kx hB1 rfl<|Gu rfl (Vh (a := .string _) Jo rfl) (k0 _) ?_; rintro _ w2 ⟨u1, rfl, E2, hO1⟩; have hs2 := E2.size; refine Xf rfl<|Xo u1 rfl<|Yz rfl<|Vn u1 rfl<|Zc rfl<|Gm<|Gt<|Gy<|Gs<|Zg Kp Kl rfl<|Vi Km (hB1.ext E2) rfl<|Zs rfl<|Zp rfl (fun h1 => ?_) (fun h1 => ?_); contradiction; refine Gn rfl<|Gn rfl<|Gn rfl<|Vc rfl<|Vq rfl<|Gn rfl<|Gn rfl<|Gn rfl<|Vc rfl<|Zc rfl<|Gm<|Za rfl ?_; refine Gs ?_
            refine Zg Kp Kl rfl<|Vi Km (hB1.ext E2) rfl<|Zs rfl<|Zp rfl (fun h2 => ?_) (fun h2 => ?_); contradiction; refine Gn rfl<|Vc rfl<|Vq rfl<|Gn rfl<|Gn rfl<|Gn rfl<|Vc rfl<|Zc rfl<|Gm<|Za rfl ?_; refine Gs<|Zg Kp Kl rfl<|Vi Km (hB1.ext E2) rfl<|Zs rfl<|Zp rfl (fun h3 => ?_) (fun h3 => ?_); contradiction; refine Gn rfl<|Vc rfl<|Vq rfl<|Gn rfl<|Gn rfl<|Gn rfl<|Vc rfl<|Zc rfl<|Gm<|Za rfl ?_; refine Gt<|Yr Yn Kb rfl ?_; refine Xp Kp Kl rfl<|Ya (v := .int _ _) rfl (fun w' hw' => Zv Km rfl (((hB1.ext E2).ext hw').cell rfl)) ?_; refine Us rfl ?_
            refine Ys rfl (fun h4 => ?_) (fun h4 => ?_); refine Xp Kp Ku rfl<|Ya (v := .string _) rfl (fun w' hw' => Zv Kx rfl (((hB1.ext E2).ext hw').cell rfl)) ?_; refine Ya rfl (fun _ _ => Vo rfl rfl) ?_; refine Ux rfl<|Ys rfl (fun h5 => ?_) (fun h5 => ?_); refine Xp Kp Kl rfl<|Ya (v := .int _ _) rfl (fun w' hw' => Zv Km rfl (((hB1.ext E2).ext hw').cell rfl)) ?_; refine Um v rfl<|Ya rfl (fun _ _ => Uh Kq rfl h) ?_; refine Ya rfl (fun _ _ => opv_sub rfl rfl Ka) ?_; refine Yy rfl (fun _ _ => Sy (a := .int _ _) (b := .int _ _) (c := .int _ _) Jr rfl rfl rfl) (fun w' hw' => (k2 _)) ?_; refine Ux rfl<|Ur rfl<|Um v rfl ?_
            refine Xk (k := 0) Kq Kv Ja rfl (fun _ => rfl) rfl h exq rfl Kf ?_; rintro _ u2 hu1; refine Xp Kp Kl rfl<|Ya (v := .int _ _) rfl (fun w' hw' => Zv Km rfl (((hB1.ext E2).ext hw').cell rfl)) ?_; refine Xk Kn Kl Km rfl (fun _ => rfl) rfl hu1 exq rfl Kf ?_; rintro _ _ rfl; refine Us rfl<|Ux rfl<|Sq rfl<|Yp (fun w3 E3 => ?_); have hs3 := E3.size; refine Gq rfl (fun h6 => ?_) (fun h6 => ?_); contradiction; refine Gx<|Gs<|Yb (XSl 3 XInt) rfl Ui Kv ?_; rintro b2 w4 hb2 b2lt E4 hO2; refine Vr rfl<|Zc rfl<|Gm<|Zd ?_; refine Zk (v := .tuple #[.slice _ _ _, .bool _]) rfl ?_
            exact ⟨_, rfl, exq, hO2.toB.o.mono Ka⟩; contradiction; contradiction
      · have k2 : ∀ w, Does Tryz.prog 116 [.int .i64 n, .int .i64 0, .int .i64 ((p.length : Int) - 1)] w (Ret w (.bool false)) := fun w => by
          have := Qe n 0 ((p.length : Int) - 1) w; rwa [decide_eq_false en] at this
        have hm : M = none := hM.trans (by simp only [madeV]; rw [if_neg (fun h => absurd h.1 Kc), if_neg (fun h => absurd h.1 Kc), if_neg (fun h => absurd h.1 Kc), if_neg (fun h => en ⟨h.2.2.1, by have := h.2.2.2.1; omega⟩)])
        rw [hm, show og none = [] from rfl, show (none : Option (List (List Int))).isSome = false from rfl]
        focus
          refine Gs<|Vp rfl rfl rfl ?_; rintro b1 w1 hb1 E1 hB1; have hlb1 := hB1.lt; refine Vr rfl<|Zc rfl<|Gm<|Gs<|Zg Kp Ku rfl<|Xe Kx hB1 rfl<|Gu rfl (Vh (a := .string _) Jo rfl) (k0 _) ?_; rintro _ w2 ⟨u1, rfl, E2, hO1⟩; have hs2 := E2.size; refine Xf rfl<|Xo u1 rfl<|Yz rfl<|Vn u1 rfl<|Zc rfl<|Gm<|Gt<|Gy<|Gs<|Zg Kp Kl rfl<|Vi Km (hB1.ext E2) rfl<|Zs rfl<|Zp rfl (fun h1 => ?_) (fun h1 => ?_); contradiction; refine Gn rfl<|Gn rfl<|Gn rfl<|Vc rfl<|Vq rfl<|Gn rfl<|Gn rfl<|Gn rfl<|Vc rfl<|Zc rfl<|Gm<|Za rfl ?_; refine Gs ?_
          refine Zg Kp Kl rfl<|Vi Km (hB1.ext E2) rfl<|Zs rfl<|Zp rfl (fun h2 => ?_) (fun h2 => ?_); contradiction; refine Gn rfl<|Vc rfl<|Vq rfl<|Gn rfl<|Gn rfl<|Gn rfl<|Vc rfl<|Zc rfl<|Gm<|Za rfl ?_; refine Gs<|Zg Kp Kl rfl<|Vi Km (hB1.ext E2) rfl<|Zs rfl<|Zp rfl (fun h3 => ?_) (fun h3 => ?_); contradiction; refine Gn rfl<|Vc rfl<|Vq rfl<|Gn rfl<|Gn rfl<|Gn rfl<|Vc rfl<|Zc rfl<|Gm<|Za rfl ?_; refine Gt<|Yr Yn Kb rfl ?_; refine Xp Kp Kl rfl<|Ya (v := .int _ _) rfl (fun w' hw' => Zv Km rfl (((hB1.ext E2).ext hw').cell rfl)) ?_; refine Us rfl ?_
          refine Ys rfl (fun h4 => ?_) (fun h4 => ?_); refine Xp Kp Ku rfl<|Ya (v := .string _) rfl (fun w' hw' => Zv Kx rfl (((hB1.ext E2).ext hw').cell rfl)) ?_; refine Ya rfl (fun _ _ => Vo rfl rfl) ?_; refine Ux rfl<|Ys rfl (fun h5 => ?_) (fun h5 => ?_); refine Xp Kp Kl rfl<|Ya (v := .int _ _) rfl (fun w' hw' => Zv Km rfl (((hB1.ext E2).ext hw').cell rfl)) ?_; refine Um v rfl<|Ya rfl (fun _ _ => Uh Kq rfl h) ?_; refine Ya rfl (fun _ _ => opv_sub rfl rfl Ka) ?_; refine Yy rfl (fun _ _ => Sy (a := .int _ _) (b := .int _ _) (c := .int _ _) Jr rfl rfl rfl) (fun w' hw' => (k2 _)) ?_; refine Ux rfl<|Ur rfl<|Gw rfl<|Gw rfl<|Gw rfl<|Gw rfl ?_
          refine Gw rfl<|Gw rfl<|Gw rfl<|Gw rfl<|Un rfl<|Sq rfl<|Yp (fun w3 E3 => ?_); have hs3 := E3.size; refine Za rfl ?_; refine Gx<|Gs<|Yb (XSl 3 XInt) rfl Ui Kv ?_; rintro b2 w4 hb2 b2lt E4 hO2; refine Vr rfl<|Zc rfl<|Gm<|Zd ?_; refine Zk (v := .tuple #[.slice _ _ _, .bool _]) rfl ?_; exact ⟨_, rfl, exq, hO2.toB.o.mono Ka⟩; contradiction; contradiction
    · have hm : M = none := hM.trans (by simp only [madeV]; rw [if_neg (fun h => absurd h.1 Kc), if_neg (fun h => absurd h.1 Kc), if_neg (fun h => absurd h.1 Kc), if_neg (fun h => et h.2.1)])
      rw [hm, show og none = [] from rfl, show (none : Option (List (List Int))).isSome = false from rfl]
      focus
        refine Gs<|Vp rfl rfl rfl ?_; rintro b1 w1 hb1 E1 hB1; have hlb1 := hB1.lt; refine Vr rfl<|Zc rfl<|Gm<|Gs<|Zg Kp Ku rfl<|Xe Kx hB1 rfl<|Gu rfl (Vh (a := .string _) Jo rfl) (k0 _) ?_; rintro _ w2 ⟨u1, rfl, E2, hO1⟩; have hs2 := E2.size; refine Xf rfl<|Xo u1 rfl<|Yz rfl<|Vn u1 rfl<|Zc rfl<|Gm<|Gt<|Gy<|Gs<|Zg Kp Kl rfl<|Vi Km (hB1.ext E2) rfl<|Zs rfl<|Zp rfl (fun h1 => ?_) (fun h1 => ?_); contradiction; refine Gn rfl<|Gn rfl<|Gn rfl<|Vc rfl<|Vq rfl<|Gn rfl<|Gn rfl<|Gn rfl<|Vc rfl<|Zc rfl<|Gm<|Za rfl ?_; refine Gs ?_
        refine Zg Kp Kl rfl<|Vi Km (hB1.ext E2) rfl<|Zs rfl<|Zp rfl (fun h2 => ?_) (fun h2 => ?_); contradiction; refine Gn rfl<|Vc rfl<|Vq rfl<|Gn rfl<|Gn rfl<|Gn rfl<|Vc rfl<|Zc rfl<|Gm<|Za rfl ?_; refine Gs<|Zg Kp Kl rfl<|Vi Km (hB1.ext E2) rfl<|Zs rfl<|Zp rfl (fun h3 => ?_) (fun h3 => ?_); contradiction; refine Gn rfl<|Vc rfl<|Vq rfl<|Gn rfl<|Gn rfl<|Gn rfl<|Vc rfl<|Zc rfl<|Gm<|Za rfl ?_; refine Gt<|Yr Yn Kb rfl ?_; refine Xp Kp Kl rfl<|Ya (v := .int _ _) rfl (fun w' hw' => Zv Km rfl (((hB1.ext E2).ext hw').cell rfl)) ?_; refine Us rfl ?_
        refine Ys rfl (fun h4 => ?_) (fun h4 => ?_); refine Xp Kp Ku rfl<|Ya (v := .string _) rfl (fun w' hw' => Zv Kx rfl (((hB1.ext E2).ext hw').cell rfl)) ?_; refine Ya rfl (fun _ _ => Vo rfl rfl) ?_; refine Ux rfl<|Ys rfl (fun h5 => ?_) (fun h5 => ?_); contradiction; refine Gw rfl<|Gw rfl<|Gw rfl<|Gw rfl<|Gw rfl<|Gw rfl<|Un rfl<|Ur rfl<|Gw rfl<|Gw rfl<|Gw rfl<|Gw rfl<|Gw rfl<|Gw rfl<|Gw rfl<|Gw rfl<|Un rfl<|Sq rfl<|Yp (fun w3 E3 => ?_); have hs3 := E3.size; refine Za rfl ?_; refine Gx<|Gs<|Yb (XSl 3 XInt) rfl Ui Kv ?_; rintro b2 w4 hb2 b2lt E4 hO2; refine Vr rfl<|Zc rfl<|Gm ?_
        refine Zd ?_; refine Zk (v := .tuple #[.slice _ _ _, .bool _]) rfl ?_; exact ⟨_, rfl, exq, hO2.toB.o.mono Ka⟩; contradiction
  have hm : M = none := hM.trans (by simp only [madeV]; rw [if_neg (fun h => e0 h.1), if_neg (fun h => e1 h.1), if_neg (fun h => e2 h.1), if_neg (fun h => e3 h.1)])
  rw [hm, show og none = [] from rfl, show (none : Option (List (List Int))).isSome = false from rfl]
  focus
    refine Gs<|Vp rfl rfl rfl ?_; rintro b1 w1 hb1 E1 hB1; have hlb1 := hB1.lt; refine Vr rfl<|Zc rfl<|Gm<|Gs<|Zg Kp Ku rfl<|Xe Kx hB1 rfl<|Gu rfl (Vh (a := .string _) Jo rfl) (k0 _) ?_; rintro _ w2 ⟨u1, rfl, E2, hO1⟩; have hs2 := E2.size; refine Xf rfl<|Xo u1 rfl<|Yz rfl<|Vn u1 rfl<|Zc rfl<|Gm<|Gt<|Gy<|Gs<|Zg Kp Kl rfl<|Vi Km (hB1.ext E2) rfl<|Zs rfl<|Zp rfl (fun h1 => ?_) (fun h1 => ?_); contradiction; refine Gn rfl<|Gn rfl<|Gn rfl<|Vc rfl<|Vq rfl<|Gn rfl<|Gn rfl<|Gn rfl<|Vc rfl<|Zc rfl<|Gm<|Za rfl ?_; refine Gs ?_
    refine Zg Kp Kl rfl<|Vi Km (hB1.ext E2) rfl<|Zs rfl<|Zp rfl (fun h2 => ?_) (fun h2 => ?_); contradiction; refine Gn rfl<|Vc rfl<|Vq rfl<|Gn rfl<|Gn rfl<|Gn rfl<|Vc rfl<|Zc rfl<|Gm<|Za rfl ?_; refine Gs<|Zg Kp Kl rfl<|Vi Km (hB1.ext E2) rfl<|Zs rfl<|Zp rfl (fun h3 => ?_) (fun h3 => ?_); contradiction; refine Gn rfl<|Vc rfl<|Vq rfl<|Gn rfl<|Gn rfl<|Gn rfl<|Vc rfl<|Zc rfl<|Gm<|Za rfl ?_; refine Gt<|Yr Yn Kb rfl ?_; refine Xp Kp Kl rfl<|Ya (v := .int _ _) rfl (fun w' hw' => Zv Km rfl (((hB1.ext E2).ext hw').cell rfl)) ?_; refine Us rfl ?_
    refine Ys rfl (fun h4 => ?_) (fun h4 => ?_); contradiction; refine Gw rfl<|Gw rfl<|Gw rfl<|Un rfl<|Ur rfl<|Gw rfl<|Gw rfl<|Gw rfl<|Gw rfl<|Gw rfl<|Gw rfl<|Un rfl<|Ur rfl<|Gw rfl<|Gw rfl<|Gw rfl<|Gw rfl<|Gw rfl<|Gw rfl<|Gw rfl<|Gw rfl<|Un rfl<|Sq rfl<|Yp (fun w3 E3 => ?_); have hs3 := E3.size; refine Za rfl ?_; refine Gx<|Gs<|Yb (XSl 3 XInt) rfl Ui Kv ?_; rintro b2 w4 hb2 b2lt E4 hO2; refine Vr rfl<|Zc rfl<|Gm<|Zd ?_; refine Zk (v := .tuple #[.slice _ _ _, .bool _]) rfl ?_; exact ⟨_, rfl, exq, hO2.toB.o.mono Ka⟩
end Go.Proofs.YtbgpppaljpngmaaGreatDoor
namespace Go.Proofs.YtbgpppaljpngmaaGreatDoor
open Go.Hs
set_option maxRecDepth 10000
set_option maxHeartbeats 4000000
set_option linter.unusedVariables false
set_option linter.unusedSimpArgs false
open Classical in
theorem spec_DeskDo_ok (w : World) (u1 u2 : Value) (d : Dsk) (h1 : ESl Ints w u1 d.now) (h2 : ESl (ESl Ints) w u2 d.past) (k n : Int) (t : List UInt8) (ht : t.length ≤ 1048576) :
    Does Tryz.prog 37 [.agg #[u1, u2], .agg #[.int .i64 k, str t, .int .i64 n]] w (RetDkAB w (if DkOk d then (doV d ⟨k, t, n⟩).1.now else []) (if DkOk d then (doV d ⟨k, t, n⟩).1.past else []) (decide (DkOk d) && (doV d ⟨k, t, n⟩).2)) := by
  obtain ⟨p, pp⟩ := d
  have hle := h2.le
  have i1 : isCell u1 = true := Xu h1
  have i2 : isCell u2 = true := Xu h2
  simp only at h1 h2 hle
  refine Qx Tryz.func37 rfl Tryz.results37 Tryz.ntmps37 rfl Ks Ko ?_
  by_cases hd : DkOk ⟨p, pp⟩
  · have k0 : ∀ w, ESl Ints w u1 p → ESl (ESl Ints) w u2 pp → Does Tryz.prog 16 [.agg #[u1, u2]] w (Ret w (.bool true)) := fun w h1 h2 => by
      have := Qi w u1 u2 ⟨p, pp⟩ h1 h2; rwa [decide_eq_true hd] at this
    have hpp : Pic p := hd.1.1
    have hppl : pp.length ≤ 8 := hd.2.1
    have hb1 : p.length ≤ 100 ∧ ∀ r ∈ p, r.length ≤ 100 := ⟨by have := hpp.2.1; omega, fun r hr => by rw [(hpp.2.2 r hr).1]; have := hpp.2.1; omega⟩
    have hb2 : ∀ q ∈ pp, q.length ≤ 100 ∧ ∀ r ∈ q, r.length ≤ 100 := fun q hq => by
      have hq := (hd.2.2 q hq).1
      exact ⟨by have := hq.2.1; omega, fun r hr => by rw [(hq.2.2 r hr).1]; have := hq.2.1; omega⟩
    have k1 : ∀ w, ESl Ints w u1 p → ESl (ESl Ints) w u2 pp → Does Tryz.prog 60 [.agg #[u1, u2]] w (RetDk w 23 88 3 p pp) := fun w h1 h2 => l11Copy_ok w u1 u2 p pp h1 h2 hb1 Ka hb2
    rw [if_pos hd, if_pos hd, decide_eq_true hd, Bool.true_and]
    by_cases hb : isBack ⟨p, pp⟩ ⟨k, t, n⟩
    · obtain ⟨e, hne⟩ := hb
      cases e
      have hpl : 0 < pp.length := List.length_pos_iff.2 hne
      have hdo : doV ⟨p, pp⟩ ⟨4, [], 0⟩ = (⟨pp.getLastD [], pp.dropLast⟩, true) := by unfold doV; rw [if_pos ⟨rfl, hne⟩]
      rw [hdo]
      simp only
      have stop6 : True := trivial
      focus
        refine Gs<|Vp rfl rfl rfl ?_; rintro b1 w1 hb3 E1 hB1; have hlb1 := hB1.lt; have hs1 := E1.size; refine Vp rfl rfl rfl ?_; rintro b2 w2 hb4 E2 hB2; have hlb2 := hB2.lt; refine Zq rfl Vk ?_; rintro b3 w3 hb5 E3 hB3; have hlb3 := hB3.lt; refine Zc rfl<|Gm<|Gt<|Gt<|Zl<|Ye Ks Ko (hB1.ext exq) rfl<|Gu rfl (Vh (a := .agg _) Jp rfl) (k0 _ ((Mono.mono exq h1)) ((Mono.mono exq h2))) ?_; rintro _ w4 ⟨rfl, E4⟩; have hs4 := E4.size; refine Vt rfl<|Gm<|Vv rfl (fun h3 => ?_) (fun h3 => ?_); contradiction; refine Gx<|Gs<|Ye Ks Ko (hB1.ext exq) rfl<|Gu rfl (Vh (a := .agg _) Gc rfl) (k1 _ ((Mono.mono exq h1)) ((Mono.mono exq h2))) ?_; rintro _ w5 ⟨u3, q1, m1, rfl, E5, hO1, hQ1, hm1, hn1⟩
        have icu3 := OwnedB.isC hO1; have icq1 := OwnedB.isC (Owned.toB hQ1); have cpq1 := OwnedB.capOk (Owned.toB hQ1); have hs5 := E5.size; refine Zq rfl Vk ?_; rintro b4 w6 hb6 E6 hB4; refine Xd rfl Ko rfl rfl Ke Ke hB4 Ka (((((E1.trans E2).trans E3).trans E4).trans E5).trans E6) ?_; rintro w7 E7 hB4 K1 hz1; have E8 := ((((E2.trans E3).trans E4).trans E5).trans E6).wroteAt exq E7 K1 hz1 Ka; have szE8 := E8.size; have E9 := (((E3.trans E4).trans E5).trans E6).wroteAt exq E7 K1 hz1 Ka; have E10 := ((E4.trans E5).trans E6).wroteAt exq E7 K1 hz1 Ka; have E11 := (E5.trans E6).wroteAt exq E7 K1 hz1 Ka; have E12 := E6.wroteAt exq E7 K1 hz1 Ka; have hB1 := (hB1.ext exq).of_heap (K1 _ Ka)
        have hB2 := (hB2.ext exq).of_heap (K1 _ Ka); have hB3 := (hB3.ext exq).of_heap (K1 _ Ka); have hO1 := (hO1.ext E6).wrote K1 Ka; have hQ1 := (hQ1.toB.ext E6).wrote K1 Ka; refine Gm<|Gt<|Gs<|Xq Jb Kr hB2 rfl<|Wo rfl (Zn (ps := [(0, .int _ _)]) (cs := [_, _, _]) Zz rfl rfl)<|Wo rfl (Qs rfl rfl)<|Zp rfl (fun h4 => ?_) (fun h4 => ?_); refine Zg Kt Ky rfl<|Vs u2 Jf hB1 rfl<|Zm Jd rfl h2<|Yt rfl<|Vw rfl<|Gm<|Gq rfl (fun h5 => ?_) (fun h5 => ?_); refine Gs<|Zg Kt Ky rfl<|Vs q1 Jf hB4 rfl<|Zm Jd rfl (OwnedB.read hQ1)<|Qk rfl<|Zr rfl<|Gm<|Gt ?_; rotate_left; (exfalso; omega); contradiction
      clear stop6
      obtain ⟨qb, qc, ur, rfl, hqc, hcl, hel, hqb, hqb2, icr⟩ := hQ1.elem (i := pp.length - 1) Ka
      have hcl : w7.cell? ⟨qb, 0 + ((pp.length : Int) - 1).toNat, none⟩ = some ur := by rw [Nat.zero_add, show ((pp.length : Int) - 1).toNat = pp.length - 1 by omega]; exact hcl
      focus
        have szE7 := E7.size; refine Zl<|Zg Kt Ky rfl<|Uj Jf hB4 rfl<|Gz rfl<|Wo rfl (Xa Jd Kw rfl rfl Ka) ?_; refine Wo rfl (Zv Kz rfl Kd) ?_; refine Zg Kt Kw rfl<|Vz (v := ur) rfl Kw rfl rfl (OwnedB.isC hel) hB4 Ki Ka E7 ?_; rintro w8 E13 hB4 K2 hz2; have E14 := E8.wroteAt E7 E13 K2 hz2 Ka; have E15 := E9.wroteAt E7 E13 K2 hz2 Ka; simp only [List.set] at hB4; have hB3 := hB3.of_heap (K2 _ Ka); have hQ1 := hQ1.wrote K2 Ka; have hel := hel.wrote K2 Ka; refine Gm<|Gt<|Zl<|Zg Kt Ky rfl<|Uj Jf hB4 rfl<|Gz rfl ?_
        refine Wo rfl (Uo Jd Kw rfl rfl Ka) ?_; refine Zg Kt Ky rfl<|Vz (v := .slice _ _ _) rfl Ky rfl rfl rfl hB4 Ki Ka E13 ?_; rintro w9 E19 hB4 K3 hz3; simp only [List.set] at hB4; have hB3 := hB3.of_heap (K3 _ Ka); have hQ1 := hQ1.wrote K3 Ka; have hel := hel.wrote K3 Ka; refine Gm<|Gs<|Ye Ks Ko hB4 rfl<|Yu Ko hB3 rfl E19 ?_; rintro w10 E25 hB3 K4 hz4; have hQ1 := hQ1.wrote K4 Ka; have hel := hel.wrote K4 Ka; refine Zc rfl<|Gm<|Zd ?_
      have hlast : pp.getLastD [] = pp[pp.length - 1] := by rw [List.getLastD_eq_getLast?, List.getLast?_eq_getElem?, List.getElem?_eq_getElem Ka]; rfl
      rw [hlast, List.dropLast_eq_take]
      refine ⟨b3, ur, _, rfl, hB3, ur, _, rfl, E25, hel.above.mono Ka, ?_, icr, rfl, Ka⟩
      rw [show ((pp.length : Int) - 1).toNat = pp.length - 1 by omega]
      exact (hQ1.above.mono Ka).takeS Ka
    · have hdo : doV ⟨p, pp⟩ ⟨k, t, n⟩ = match nextV p ⟨k, t, n⟩ with
        | some c => (⟨c, last8 (pp ++ [p])⟩, true)
        | none => (⟨p, pp⟩, false) := by unfold doV; rw [if_neg hb]; rfl
      rw [hdo]
      have hback : (⟨k, t, n⟩ : Deed) = ⟨4, [], 0⟩ → pp.length = 0 := fun e => Classical.byContradiction fun h => hb ⟨e, fun h' => h (by rw [show pp = [] from h']; rfl)⟩
      have k2 : ∀ w, ESl Ints w u1 p → Does Tryz.prog 93 [u1, .agg #[.int .i64 k, str t, .int .i64 n]] w (RetOB w XR (og (madeV p ⟨k, t, n⟩)) (madeV p ⟨k, t, n⟩).isSome) := fun w h => l11Made_ok w u1 p h hpp k n t ht
      have litown : True := trivial
      by_cases ha : (⟨k, t, n⟩ : Deed) = ⟨4, [], 0⟩
      · have hpl0 := hback ha
        cases ha
        have hmv : madeV p ⟨4, [], 0⟩ = none := by simp [madeV]
        have hnx : nextV p ⟨4, [], 0⟩ = none := by unfold nextV; rw [hmv]
        rw [hmv, show og none = [] from rfl, show (none : Option (List (List Int))).isSome = false from rfl] at k2
        rw [hnx]
        simp only
        focus
          refine Gs<|Vp rfl rfl rfl ?_; rintro b1 w1 hb3 E1 hB1; have hlb1 := hB1.lt; refine Vp rfl rfl rfl ?_; rintro b2 w2 hb4 E2 hB2; have hlb2 := hB2.lt; refine Zq rfl Vk ?_; rintro b3 w3 hb5 E3 hB3; have hlb3 := hB3.lt; refine Zc rfl<|Gm<|Gt<|Gt<|Zl<|Ye Ks Ko (hB1.ext exq) rfl<|Gu rfl (Vh (a := .agg _) Jp rfl) (k0 _ ((Mono.mono exq h1)) ((Mono.mono exq h2))) ?_; rintro _ w4 ⟨rfl, E4⟩; have hs4 := E4.size; refine Vt rfl<|Gm<|Vv rfl (fun h3 => ?_) (fun h3 => ?_); contradiction; refine Gx<|Gs<|Ye Ks Ko (hB1.ext exq) rfl<|Gu rfl (Vh (a := .agg _) Gc rfl) (k1 _ ((Mono.mono exq h1)) ((Mono.mono exq h2))) ?_; rintro _ w5 ⟨u3, q1, m1, rfl, E5, hO1, hQ1, hm1, hn1⟩
          have icu3 := OwnedB.isC hO1; have icq1 := OwnedB.isC (Owned.toB hQ1); have hs5 := E5.size; refine Zq rfl Vk ?_; rintro b4 w6 hb6 E6 hB4; refine Xd rfl Ko rfl rfl Ke Ke hB4 Ka (((((E1.trans E2).trans E3).trans E4).trans E5).trans E6) ?_; rintro w7 E7 hB4 K1 hz1; have E8 := ((((E2.trans E3).trans E4).trans E5).trans E6).wroteAt exq E7 K1 hz1 Ka; have hB1 := (hB1.ext exq).of_heap (K1 _ Ka); have hB2 := (hB2.ext exq).of_heap (K1 _ Ka); have hB3 := (hB3.ext exq).of_heap (K1 _ Ka); have hO1 := (hO1.ext E6).wrote K1 Ka; have hQ1 := (hQ1.toB.ext E6).wrote K1 Ka; refine Gm<|Gt<|Gs<|Xq Jb Kr hB2 rfl ?_
          refine Wo rfl (Zn (ps := [(0, .int _ _)]) (cs := [_, _, _]) Zz rfl rfl)<|Wo rfl (Qs rfl rfl)<|Zp rfl (fun h4 => ?_) (fun h4 => ?_); refine Zg Kt Ky rfl<|Vs u2 Jf hB1 rfl<|Zm Jd rfl h2<|Yt rfl<|Vw rfl<|Gm<|Gq rfl (fun h5 => ?_) (fun h5 => ?_); (exfalso; omega); refine Gx<|Gt<|Zl<|Zg Kt Kw rfl<|Vs u1 Kz hB1 rfl<|Xq Jb Kr hB2 rfl<|Gu rfl (Vb (a := u1) (b := .agg _) Gj rfl rfl) (k2 _ ((Mono.mono E7 h1))) ?_; rintro _ w8 ⟨u4, rfl, E13, hO2⟩; refine Xf rfl<|Xo u4 rfl<|Yz rfl<|Vn u4 rfl<|Zc rfl<|Gm<|Gt<|Gt<|Yr Yn Kb rfl ?_
          refine Ur rfl<|Rx rfl<|Uf rfl (fun _ _ => Zt (v := .bool _) rfl) (fun h6 => ?_) (fun h6 => ?_); refine Gw rfl<|Gw rfl<|Gw rfl<|Gw rfl<|Gw rfl<|Gw rfl<|Gw rfl<|Gw rfl<|Gw rfl<|Gw rfl<|Gw rfl<|Gw rfl<|Gw rfl<|Gw rfl<|Ux rfl<|Yp (fun w9 E14 => ?_); refine Vj rfl ?_; refine Gs<|Ye Ks Ko (hB4.ext exq) rfl<|Yu Ko (hB3.ext (E13.trans E14)) rfl ((E7.trans E13).trans E14) ?_; rintro w10 E15 hB3 K2 hz2; have E16 := ((E8.trans E13).trans E14).wroteAt exq E15 K2 hz2 Ka; have szE16 := E16.size; have hO1 := (hO1.ext exq).wrote K2 Ka; have hQ1 := (hQ1.ext exq).wrote K2 Ka; refine Zc rfl<|Gm<|Zd ?_; rotate_left; contradiction; contradiction
        exact ⟨b3, u3, q1, rfl, hB3, u3, q1, rfl, by exact E15, hO1.above.mono Ka, hQ1.above.mono Ka, icu3, icq1, Ka⟩
      · cases hmv : madeV p ⟨k, t, n⟩ with
        | none =>
          have hnx : nextV p ⟨k, t, n⟩ = none := by unfold nextV; rw [hmv]
          rw [hmv, show og none = [] from rfl, show (none : Option (List (List Int))).isSome = false from rfl] at k2
          rw [hnx]
          simp only
          focus
            refine Gs<|Vp rfl rfl rfl ?_; rintro b1 w1 hb3 E1 hB1; have hlb1 := hB1.lt; refine Vp rfl rfl rfl ?_; rintro b2 w2 hb4 E2 hB2; have hlb2 := hB2.lt; refine Zq rfl Vk ?_; rintro b3 w3 hb5 E3 hB3; have hlb3 := hB3.lt; refine Zc rfl<|Gm<|Gt<|Gt<|Zl<|Ye Ks Ko (hB1.ext exq) rfl<|Gu rfl (Vh (a := .agg _) Jp rfl) (k0 _ ((Mono.mono exq h1)) ((Mono.mono exq h2))) ?_; rintro _ w4 ⟨rfl, E4⟩; have hs4 := E4.size; refine Vt rfl<|Gm<|Vv rfl (fun h3 => ?_) (fun h3 => ?_); contradiction; refine Gx<|Gs<|Ye Ks Ko (hB1.ext exq) rfl<|Gu rfl (Vh (a := .agg _) Gc rfl) (k1 _ ((Mono.mono exq h1)) ((Mono.mono exq h2))) ?_; rintro _ w5 ⟨u3, q1, m1, rfl, E5, hO1, hQ1, hm1, hn1⟩
            have icu3 := OwnedB.isC hO1; have icq1 := OwnedB.isC (Owned.toB hQ1); have hs5 := E5.size; refine Zq rfl Vk ?_; rintro b4 w6 hb6 E6 hB4; refine Xd rfl Ko rfl rfl Ke Ke hB4 Ka (((((E1.trans E2).trans E3).trans E4).trans E5).trans E6) ?_; rintro w7 E7 hB4 K1 hz1; have E8 := ((((E2.trans E3).trans E4).trans E5).trans E6).wroteAt exq E7 K1 hz1 Ka; have hB1 := (hB1.ext exq).of_heap (K1 _ Ka); have hB2 := (hB2.ext exq).of_heap (K1 _ Ka); have hB3 := (hB3.ext exq).of_heap (K1 _ Ka); have hO1 := (hO1.ext E6).wrote K1 Ka; have hQ1 := (hQ1.toB.ext E6).wrote K1 Ka; refine Gm<|Gt<|Gs<|Xq Jb Kr hB2 rfl ?_
            refine Wo rfl (Zn (ps := [(0, .int _ _)]) (cs := [_, _, _]) Zz rfl rfl)<|Wo rfl (Qs rfl rfl)<|Zp rfl (fun h4 => ?_) (fun h4 => ?_); contradiction; refine Gn rfl<|Gn rfl<|Gn rfl<|Gn rfl<|Vc rfl<|Gm<|Za rfl ?_; refine Gx<|Gt<|Zl<|Zg Kt Kw rfl<|Vs u1 Kz hB1 rfl<|Xq Jb Kr hB2 rfl<|Gu rfl (Vb (a := u1) (b := .agg _) Gj rfl rfl) (k2 _ ((Mono.mono E7 h1))) ?_; rintro _ w8 ⟨u4, rfl, E13, hO2⟩; refine Xf rfl<|Xo u4 rfl<|Yz rfl<|Vn u4 rfl<|Zc rfl<|Gm<|Gt<|Gt<|Yr Yn Kb rfl ?_; refine Ur rfl<|Rx rfl<|Uf rfl (fun _ _ => Zt (v := .bool _) rfl) (fun h5 => ?_) (fun h5 => ?_); refine Gw rfl ?_
            refine Gw rfl<|Gw rfl<|Gw rfl<|Gw rfl<|Gw rfl<|Gw rfl<|Gw rfl<|Gw rfl<|Gw rfl<|Gw rfl<|Gw rfl<|Gw rfl<|Gw rfl<|Ux rfl<|Yp (fun w9 E14 => ?_); refine Vj rfl ?_; refine Gs<|Ye Ks Ko (hB4.ext exq) rfl<|Yu Ko (hB3.ext (E13.trans E14)) rfl ((E7.trans E13).trans E14) ?_; rintro w10 E15 hB3 K2 hz2; have E16 := ((E8.trans E13).trans E14).wroteAt exq E15 K2 hz2 Ka; have szE16 := E16.size; have hO1 := (hO1.ext exq).wrote K2 Ka; have hQ1 := (hQ1.ext exq).wrote K2 Ka; refine Zc rfl<|Gm<|Zd ?_; rotate_left; contradiction
          exact ⟨b3, u3, q1, rfl, hB3, u3, q1, rfl, by exact E15, hO1.above.mono Ka, hQ1.above.mono Ka, icu3, icq1, Ka⟩
        | some c =>
          rw [hmv, show og (some c) = c from rfl, show (some c).isSome = true from rfl] at k2
          have hc : LeastP c := Sr hpp hmv
          have hcp := hc.1
          have k3 : ∀ (w : World) (v : Value), ESl Ints w v c → Does Tryz.prog 62 [v] w (Ret w (str (txt c))) := fun w v h => by
            have := Yv w v _ h
            rwa [if_pos hcp] at this
          by_cases hcq : c = p
          · subst hcq
            have hnx : nextV c ⟨k, t, n⟩ = none := by unfold nextV; rw [hmv]; simp
            rw [hnx]
            simp only
            focus
              refine Gs<|Vp rfl rfl rfl ?_; rintro b1 w1 hb3 E1 hB1; have hlb1 := hB1.lt; refine Vp rfl rfl rfl ?_; rintro b2 w2 hb4 E2 hB2; have hlb2 := hB2.lt; refine Zq rfl Vk ?_; rintro b3 w3 hb5 E3 hB3; have hlb3 := hB3.lt; refine Zc rfl<|Gm<|Gt<|Gt<|Zl<|Ye Ks Ko (hB1.ext exq) rfl<|Gu rfl (Vh (a := .agg _) Jp rfl) (k0 _ ((Mono.mono exq h1)) ((Mono.mono exq h2))) ?_; rintro _ w4 ⟨rfl, E4⟩; have hs4 := E4.size; refine Vt rfl<|Gm<|Vv rfl (fun h3 => ?_) (fun h3 => ?_); contradiction; refine Gx<|Gs<|Ye Ks Ko (hB1.ext exq) rfl<|Gu rfl (Vh (a := .agg _) Gc rfl) (k1 _ ((Mono.mono exq h1)) ((Mono.mono exq h2))) ?_; rintro _ w5 ⟨u3, q1, m1, rfl, E5, hO1, hQ1, hm1, hn1⟩
              have icu3 := OwnedB.isC hO1; have icq1 := OwnedB.isC (Owned.toB hQ1); have hs5 := E5.size; refine Zq rfl Vk ?_; rintro b4 w6 hb6 E6 hB4; refine Xd rfl Ko rfl rfl Ke Ke hB4 Ka (((((E1.trans E2).trans E3).trans E4).trans E5).trans E6) ?_; rintro w7 E7 hB4 K1 hz1; have E8 := ((((E2.trans E3).trans E4).trans E5).trans E6).wroteAt exq E7 K1 hz1 Ka; have hB1 := (hB1.ext exq).of_heap (K1 _ Ka); have hB2 := (hB2.ext exq).of_heap (K1 _ Ka); have hB3 := (hB3.ext exq).of_heap (K1 _ Ka); have hO1 := (hO1.ext E6).wrote K1 Ka; have hQ1 := (hQ1.toB.ext E6).wrote K1 Ka; refine Gm<|Gt<|Gs<|Xq Jb Kr hB2 rfl ?_
              refine Wo rfl (Zn (ps := [(0, .int _ _)]) (cs := [_, _, _]) Zz rfl rfl)<|Wo rfl (Qs rfl rfl)<|Zp rfl (fun h4 => ?_) (fun h4 => ?_); contradiction; refine Gn rfl<|Gn rfl<|Gn rfl<|Gn rfl<|Vc rfl<|Gm<|Za rfl ?_; refine Gx<|Gt<|Zl<|Zg Kt Kw rfl<|Vs u1 Kz hB1 rfl<|Xq Jb Kr hB2 rfl<|Gu rfl (Vb (a := u1) (b := .agg _) Gj rfl rfl) (k2 _ ((Mono.mono E7 h1))) ?_; rintro _ w8 ⟨u4, rfl, E13, hO2⟩; refine Xf rfl<|Xo u4 rfl<|Yz rfl<|Vn u4 rfl<|Zc rfl<|Gm<|Gt<|Gt<|Yr Yn Kb rfl ?_; refine Ur rfl<|Rx rfl<|Uf rfl (fun _ _ => Zt (v := .bool _) rfl) (fun h5 => ?_) (fun h5 => ?_); contradiction
              refine Um u4 rfl<|Ya rfl (fun _ _ => Uh Kq rfl (Owned.read hO2)) ?_; refine Xp Kt Kw rfl<|Ya (v := u1) rfl (fun w' hw' => Zv Kz rfl (((hB1.ext E13).ext hw').cell rfl)) ?_; refine Ya rfl (fun _ _ => Uh Kq rfl h1) ?_; refine Us rfl<|Ys rfl (fun h6 => ?_) (fun h6 => ?_); refine Um u4 rfl<|Yy rfl (fun _ _ => Vh (a := u4) Jm rfl) (fun w' hw' => (k3 _ _ ((Mono.mono hw' (Owned.read hO2))))) ?_; refine Xp Kt Kw rfl<|Ya (v := u1) rfl (fun w' hw' => Zv Kz rfl (((hB1.ext E13).ext hw').cell rfl)) ?_; refine Yy rfl (fun _ _ => Vh (a := u1) Jm rfl) (fun w' hw' => (k3 _ _ ((Mono.mono exq h1)))) ?_; refine Ya rfl (fun _ _ => Vo rfl rfl) ?_
              refine Ux rfl<|Un rfl<|Yp (fun w9 E14 => ?_); refine Gq rfl (fun h7 => ?_) (fun h7 => ?_); refine Gs<|Ye Ks Ko (hB4.ext exq) rfl<|Yu Ko (hB3.ext (E13.trans E14)) rfl ((E7.trans E13).trans E14) ?_; rintro w10 E15 hB3 K2 hz2; have E16 := ((E8.trans E13).trans E14).wroteAt exq E15 K2 hz2 Ka; have szE16 := E16.size; have hO1 := (hO1.ext exq).wrote K2 Ka; have hQ1 := (hQ1.ext exq).wrote K2 Ka; refine Zc rfl<|Gm<|Zd ?_; rotate_left; contradiction; contradiction
            exact ⟨b3, u3, q1, rfl, hB3, u3, q1, rfl, by exact E15, hO1.above.mono Ka, hQ1.above.mono Ka, icu3, icq1, Ka⟩
          · have hnx : nextV p ⟨k, t, n⟩ = some c := by unfold nextV; rw [hmv]; simp [hcq]
            rw [hnx]
            simp only
            have k4 : ∀ (w : World) (v : Value), ESl Ints w v p → Does Tryz.prog 62 [v] w (Ret w (str (txt p))) := fun w v h => by
              have := Yv w v _ h
              rwa [if_pos hpp] at this
            have htx : txt c ≠ txt p := fun e => hcq (txt_inj hcp.gr hpp.gr e)
            have stop12 : True := trivial
            focus
              refine Gs<|Vp rfl rfl rfl ?_; rintro b1 w1 hb3 E1 hB1; have hlb1 := hB1.lt; have hs1 := E1.size; refine Vp rfl rfl rfl ?_; rintro b2 w2 hb4 E2 hB2; have hlb2 := hB2.lt; refine Zq rfl Vk ?_; rintro b3 w3 hb5 E3 hB3; have hlb3 := hB3.lt; refine Zc rfl<|Gm<|Gt<|Gt<|Zl<|Ye Ks Ko (hB1.ext exq) rfl<|Gu rfl (Vh (a := .agg _) Jp rfl) (k0 _ ((Mono.mono exq h1)) ((Mono.mono exq h2))) ?_; rintro _ w4 ⟨rfl, E4⟩; have hs4 := E4.size; refine Vt rfl<|Gm<|Vv rfl (fun h3 => ?_) (fun h3 => ?_); contradiction; refine Gx<|Gs<|Ye Ks Ko (hB1.ext exq) rfl<|Gu rfl (Vh (a := .agg _) Gc rfl) (k1 _ ((Mono.mono exq h1)) ((Mono.mono exq h2))) ?_; rintro _ w5 ⟨u3, q1, m1, rfl, E5, hO1, hQ1, hm1, hn1⟩
              have icu3 := OwnedB.isC hO1; have icq1 := OwnedB.isC (Owned.toB hQ1); have hs5 := E5.size; refine Zq rfl Vk ?_; rintro b4 w6 hb6 E6 hB4; have hlb4 := hB4.lt; have hs6 := E6.size; refine Xd rfl Ko rfl rfl Ke Ke hB4 Ka (((((E1.trans E2).trans E3).trans E4).trans E5).trans E6) ?_; rintro w7 E7 hB4 K1 hz1; have E8 := ((((E2.trans E3).trans E4).trans E5).trans E6).wroteAt exq E7 K1 hz1 Ka; have E9 := (((E3.trans E4).trans E5).trans E6).wroteAt exq E7 K1 hz1 Ka; have E10 := ((E4.trans E5).trans E6).wroteAt exq E7 K1 hz1 Ka; have E11 := (E5.trans E6).wroteAt exq E7 K1 hz1 Ka; have hB1 := (hB1.ext exq).of_heap (K1 _ Ka); have hB2 := (hB2.ext exq).of_heap (K1 _ Ka); have hB3 := (hB3.ext exq).of_heap (K1 _ Ka); have hO1 := (hO1.ext E6).wrote K1 Ka
              have hQ1 := (hQ1.toB.ext E6).wrote K1 Ka; refine Gm<|Gt<|Gs<|Xq Jb Kr hB2 rfl<|Wo rfl (Zn (ps := [(0, .int _ _)]) (cs := [_, _, _]) Zz rfl rfl)<|Wo rfl (Qs rfl rfl)<|Zp rfl (fun h4 => ?_) (fun h4 => ?_); contradiction; refine Gn rfl<|Gn rfl<|Gn rfl<|Gn rfl<|Vc rfl<|Gm<|Za rfl ?_; refine Gx<|Gt<|Zl<|Zg Kt Kw rfl<|Vs u1 Kz hB1 rfl<|Xq Jb Kr hB2 rfl<|Gu rfl (Vb (a := u1) (b := .agg _) Gj rfl rfl) (k2 _ ((Mono.mono E7 h1))) ?_; rintro _ w8 ⟨u4, rfl, E13, hO2⟩; have ichO2 := OwnedB.isC (Owned.toB hO2); have hs7 := E13.size; refine Xf rfl<|Xo u4 rfl<|Yz rfl ?_
              refine Vn u4 rfl<|Zc rfl<|Gm<|Gt<|Gt<|Yr Yn Kb rfl ?_; refine Ur rfl<|Rx rfl<|Uf rfl (fun _ _ => Zt (v := .bool _) rfl) (fun h5 => ?_) (fun h5 => ?_); contradiction; refine Um u4 rfl<|Ya rfl (fun _ _ => Uh Kq rfl (Owned.read hO2)) ?_; refine Xp Kt Kw rfl<|Ya (v := u1) rfl (fun w' hw' => Zv Kz rfl (((hB1.ext E13).ext hw').cell rfl)) ?_; refine Ya rfl (fun _ _ => Uh Kq rfl h1) ?_; refine Us rfl<|Ys rfl (fun h6 => ?_) (fun h6 => ?_); refine Um u4 rfl<|Yy rfl (fun _ _ => Vh (a := u4) Jm rfl) (fun w' hw' => (k3 _ _ ((Mono.mono hw' (Owned.read hO2))))) ?_; refine Xp Kt Kw rfl ?_
              refine Ya (v := u1) rfl (fun w' hw' => Zv Kz rfl (((hB1.ext E13).ext hw').cell rfl)) ?_; refine Yy rfl (fun _ _ => Vh (a := u1) Jm rfl) (fun w' hw' => (k4 _ _ ((Mono.mono exq h1)))) ?_; refine Ya rfl (fun _ _ => Vo rfl rfl) ?_; refine Ux rfl<|Un rfl<|Yp (fun w9 E14 => ?_); have hs8 := E14.size; refine Gq rfl (fun h7 => ?_) (fun h7 => ?_); contradiction; refine Gx<|Gt ?_; rotate_left; refine Gw rfl<|Gw rfl<|Gw rfl<|Gw rfl<|Gw rfl<|Gw rfl<|Un rfl<|Un rfl<|Yp (fun w9 E14 => ?_); have hs8 := E14.size; refine Za rfl ?_; refine Gx<|Gt ?_; rotate_left
            · clear stop12
              have stop13 : True := trivial
              have hQ0 := hQ1
              focus
                refine Zl<|Zg Kt Ky rfl<|Vs q1 Jf (hB4.ext exq) rfl<|Zg Kt Kw rfl<|Vs u3 Kz (hB4.ext exq) rfl<|Ym rfl Jd Kw Ju rfl (OwnedB.isC (hO1.ext exq)) rfl ?_; rintro b5 w10 hb7 E15 hB5 hHb5; have hs9 := E15.size; refine Wo_app1r rfl el24 rfl rfl hB5 (hQ0.ext ((E13.trans E14).trans E15)) (hO1.ext ((E13.trans E14).trans E15)) Kf Ka Ka (((E7.trans E13).trans E14).trans E15) Ka ?_; have hT1 := (hQ0.ext ((E13.trans E14).trans E15)); rintro v1 w11 hQ0 E16 M1; have E17 := M1.ext hT1 (((E8.trans E13).trans E14).trans E15) Ka; have szE17 := E17.size
                have E18 := M1.ext hT1 (((E9.trans E13).trans E14).trans E15) Ka; have E19 := M1.ext hT1 (((E10.trans E13).trans E14).trans E15) Ka; have E20 := M1.ext hT1 (((E11.trans E13).trans E14).trans E15) Ka; have hB4 := (hB4.ext exq).moves M1 hT1 Ka; have hB1 := (hB1.ext exq).moves M1 hT1 Ka; have hB2 := (hB2.ext exq).moves M1 hT1 Ka; have hB3 := (hB3.ext exq).moves M1 hT1 Ka; have hO1 := (hO1.ext exq).moves M1 hT1 Ka; have hO2 := (hO2.toB.ext exq).moves M1 hT1 Ka; have hB5 := hB5.moves M1 hT1 Ka; have hs10 := E16.size; have icv1 := OwnedB.isC (Owned.toB hQ0); refine Zg Kt Ky rfl<|Vz (v := v1) rfl Ky rfl rfl (OwnedB.isC hQ0.toB) hB4 Ki Ka E16 ?_
                rintro w12 E21 hB4 K2 hz2; have E22 := E17.wroteAt E16 E21 K2 hz2 Ka; have E23 := E18.wroteAt E16 E21 K2 hz2 Ka; have E24 := E19.wroteAt E16 E21 K2 hz2 Ka; have E25 := E20.wroteAt E16 E21 K2 hz2 Ka; simp only [List.set] at hB4; have hB1 := hB1.of_heap (K2 _ Ka); have hB2 := hB2.of_heap (K2 _ Ka); have hB3 := hB3.of_heap (K2 _ Ka); have hO1 := hO1.wrote K2 Ka; have hO2 := hO2.wrote K2 Ka; have hB5 := hB5.of_heap (K2 _ Ka); refine Gm<|Gt<|Gt ?_
              clear stop13
              have hM : Moves w10 q1 w11 v1 := M1
              have hne := hM.ne hQ1 (b := b4) Ka Ka
              clear hQ1
              obtain ⟨nb, nc, rfl, hnc⟩ := hQ0.lit Ki
              have hnl : (pp ++ [p]).length = pp.length + 1 := Ki
              rw [hnl] at hB4 hQ0 hne hnc
              focus
                have szE7 := E7.size; refine Zl<|Zg Kt Ky rfl<|Uj Jf hB4 rfl<|Zm Jd rfl (Owned.read hQ0)<|Yt rfl<|Gm<|Gq rfl (fun h8 => ?_) (fun h8 => ?_); refine Zl<|Zg Kt Ky rfl<|Uj Jf hB4 rfl<|Wo rfl (Ue Jd Kw rfl rfl Ka) ?_; refine Zg Kt Ky rfl<|Vz (v := .slice _ _ _) rfl Ky rfl rfl rfl hB4 Ki Ka E21 ?_; rintro w13 E26 hB4 K3 hz3; have E27 := E22.wroteAt E21 E26 K3 hz3 Ka; have E28 := E23.wroteAt E21 E26 K3 hz3 Ka; simp only [List.set] at hB4; have hB3 := hB3.of_heap (K3 _ Ka); have hO2 := hO2.wrote K3 Ka; refine Gm<|Gs<|Zh u4 rfl ?_
                refine Zg Kt Kw rfl<|Vz (v := u4) rfl Kw rfl rfl (OwnedB.isC hO2) hB4 Ki Ka E26 ?_; rintro w14 E31 hB4 K4 hz4; simp only [List.set] at hB4; have hB3 := hB3.of_heap (K4 _ Ka); have hO2 := hO2.wrote K4 Ka; refine Gm<|Gs<|Ye Ks Ko hB4 rfl<|Yu Ko hB3 rfl E31 ?_; rintro w15 E36 hB3 K5 hz5; have hO2 := hO2.wrote K5 Ka; refine Zc rfl<|Gm<|Zd ?_; rotate_left; refine Gx<|Gs<|Zh u4 rfl<|Zg Kt Kw rfl<|Vz (v := u4) rfl Kw rfl rfl (OwnedB.isC hO2) hB4 Ki Ka E21 ?_; rintro w13 E26 hB4 K3 hz3; simp only [List.set] at hB4; have hB3 := hB3.of_heap (K3 _ Ka); have hO2 := hO2.wrote K3 Ka; refine Gm<|Gs ?_
                refine Ye Ks Ko hB4 rfl<|Yu Ko hB3 rfl E26 ?_; rintro w14 E31 hB3 K4 hz4; have hO2 := hO2.wrote K4 Ka; refine Zc rfl<|Gm<|Zd ?_; rotate_left
              · have hQ3 := (hQ0.wroteLt (w' := w15) (fun k h1 h2 => (K5 k Ka).trans ((K4 k h2).trans ((K3 k h2).trans (K2 k h2)))) Ka hne).above.mono (show w.heap.size ≤ w4.heap.size by omega)
                refine ⟨b3, u4, _, rfl, hB3, u4, _, rfl, by exact E36, hO2.above.mono Ka, ?_, Kd, rfl, Ka⟩
                rw [show last8 (pp ++ [p]) = (pp ++ [p]).drop 1 from if_pos Ka]
                exact hQ3.dropS Ka
              · have hQ3 := (hQ0.wroteLt (w' := w14) (fun k h1 h2 => (K4 k Ka).trans ((K3 k h2).trans (K2 k h2))) Ka hne).above.mono (show w.heap.size ≤ w4.heap.size by omega)
                refine ⟨b3, u4, _, rfl, hB3, u4, _, rfl, by exact E31, hO2.above.mono Ka, ?_, Kd, rfl, Ka⟩
                rw [show last8 (pp ++ [p]) = pp ++ [p] from if_neg Ka]
                exact hQ3
            · clear stop12
              have stop13 : True := trivial
              have hQ0 := hQ1
              focus
                refine Zl<|Zg Kt Ky rfl<|Vs q1 Jf (hB4.ext exq) rfl<|Zg Kt Kw rfl<|Vs u3 Kz (hB4.ext exq) rfl<|Ym rfl Jd Kw Ju rfl (OwnedB.isC (hO1.ext exq)) rfl ?_; rintro b5 w10 hb7 E15 hB5 hHb5; have hs9 := E15.size; refine Wo_app1r rfl el24 rfl rfl hB5 (hQ0.ext ((E13.trans E14).trans E15)) (hO1.ext ((E13.trans E14).trans E15)) Kf Ka Ka (((E7.trans E13).trans E14).trans E15) Ka ?_; have hT1 := (hQ0.ext ((E13.trans E14).trans E15)); rintro v1 w11 hQ0 E16 M1; have E17 := M1.ext hT1 (((E8.trans E13).trans E14).trans E15) Ka; have szE17 := E17.size
                have E18 := M1.ext hT1 (((E9.trans E13).trans E14).trans E15) Ka; have E19 := M1.ext hT1 (((E10.trans E13).trans E14).trans E15) Ka; have E20 := M1.ext hT1 (((E11.trans E13).trans E14).trans E15) Ka; have hB4 := (hB4.ext exq).moves M1 hT1 Ka; have hB1 := (hB1.ext exq).moves M1 hT1 Ka; have hB2 := (hB2.ext exq).moves M1 hT1 Ka; have hB3 := (hB3.ext exq).moves M1 hT1 Ka; have hO1 := (hO1.ext exq).moves M1 hT1 Ka; have hO2 := (hO2.toB.ext exq).moves M1 hT1 Ka; have hB5 := hB5.moves M1 hT1 Ka; have hs10 := E16.size; have icv1 := OwnedB.isC (Owned.toB hQ0); refine Zg Kt Ky rfl<|Vz (v := v1) rfl Ky rfl rfl (OwnedB.isC hQ0.toB) hB4 Ki Ka E16 ?_
                rintro w12 E21 hB4 K2 hz2; have E22 := E17.wroteAt E16 E21 K2 hz2 Ka; have E23 := E18.wroteAt E16 E21 K2 hz2 Ka; have E24 := E19.wroteAt E16 E21 K2 hz2 Ka; have E25 := E20.wroteAt E16 E21 K2 hz2 Ka; simp only [List.set] at hB4; have hB1 := hB1.of_heap (K2 _ Ka); have hB2 := hB2.of_heap (K2 _ Ka); have hB3 := hB3.of_heap (K2 _ Ka); have hO1 := hO1.wrote K2 Ka; have hO2 := hO2.wrote K2 Ka; have hB5 := hB5.of_heap (K2 _ Ka); refine Gm<|Gt<|Gt ?_
              clear stop13
              have hM : Moves w10 q1 w11 v1 := M1
              have hne := hM.ne hQ1 (b := b4) Ka Ka
              clear hQ1
              obtain ⟨nb, nc, rfl, hnc⟩ := hQ0.lit Ki
              have hnl : (pp ++ [p]).length = pp.length + 1 := Ki
              rw [hnl] at hB4 hQ0 hne hnc
              focus
                have szE7 := E7.size; refine Zl<|Zg Kt Ky rfl<|Uj Jf hB4 rfl<|Zm Jd rfl (Owned.read hQ0)<|Yt rfl<|Gm<|Gq rfl (fun h7 => ?_) (fun h7 => ?_); refine Zl<|Zg Kt Ky rfl<|Uj Jf hB4 rfl<|Wo rfl (Ue Jd Kw rfl rfl Ka) ?_; refine Zg Kt Ky rfl<|Vz (v := .slice _ _ _) rfl Ky rfl rfl rfl hB4 Ki Ka E21 ?_; rintro w13 E26 hB4 K3 hz3; have E27 := E22.wroteAt E21 E26 K3 hz3 Ka; have E28 := E23.wroteAt E21 E26 K3 hz3 Ka; simp only [List.set] at hB4; have hB3 := hB3.of_heap (K3 _ Ka); have hO2 := hO2.wrote K3 Ka; refine Gm<|Gs<|Zh u4 rfl ?_
                refine Zg Kt Kw rfl<|Vz (v := u4) rfl Kw rfl rfl (OwnedB.isC hO2) hB4 Ki Ka E26 ?_; rintro w14 E31 hB4 K4 hz4; simp only [List.set] at hB4; have hB3 := hB3.of_heap (K4 _ Ka); have hO2 := hO2.wrote K4 Ka; refine Gm<|Gs<|Ye Ks Ko hB4 rfl<|Yu Ko hB3 rfl E31 ?_; rintro w15 E36 hB3 K5 hz5; have hO2 := hO2.wrote K5 Ka; refine Zc rfl<|Gm<|Zd ?_; rotate_left; refine Gx<|Gs<|Zh u4 rfl<|Zg Kt Kw rfl<|Vz (v := u4) rfl Kw rfl rfl (OwnedB.isC hO2) hB4 Ki Ka E21 ?_; rintro w13 E26 hB4 K3 hz3; simp only [List.set] at hB4; have hB3 := hB3.of_heap (K3 _ Ka); have hO2 := hO2.wrote K3 Ka; refine Gm<|Gs ?_
                refine Ye Ks Ko hB4 rfl<|Yu Ko hB3 rfl E26 ?_; rintro w14 E31 hB3 K4 hz4; have hO2 := hO2.wrote K4 Ka; refine Zc rfl<|Gm<|Zd ?_; rotate_left
              · have hQ3 := (hQ0.wroteLt (w' := w15) (fun k h1 h2 => (K5 k Ka).trans ((K4 k h2).trans ((K3 k h2).trans (K2 k h2)))) Ka hne).above.mono (show w.heap.size ≤ w4.heap.size by omega)
                refine ⟨b3, u4, _, rfl, hB3, u4, _, rfl, by exact E36, hO2.above.mono Ka, ?_, Kd, rfl, Ka⟩
                rw [show last8 (pp ++ [p]) = (pp ++ [p]).drop 1 from if_pos Ka]
                exact hQ3.dropS Ka
              · have hQ3 := (hQ0.wroteLt (w' := w14) (fun k h1 h2 => (K4 k Ka).trans ((K3 k h2).trans (K2 k h2))) Ka hne).above.mono (show w.heap.size ≤ w4.heap.size by omega)
                refine ⟨b3, u4, _, rfl, hB3, u4, _, rfl, by exact E31, hO2.above.mono Ka, ?_, Kd, rfl, Ka⟩
                rw [show last8 (pp ++ [p]) = pp ++ [p] from if_neg Ka]
                exact hQ3
  · have k0 : ∀ w, ESl Ints w u1 p → ESl (ESl Ints) w u2 pp → Does Tryz.prog 16 [.agg #[u1, u2]] w (Ret w (.bool false)) := fun w h1 h2 => by
      have := Qi w u1 u2 ⟨p, pp⟩ h1 h2; rwa [decide_eq_false hd] at this
    rw [if_neg hd, if_neg hd, decide_eq_false hd, Bool.false_and]
    focus
      refine Gs<|Vp rfl rfl rfl ?_; rintro b1 w1 hb1 E1 hB1; have hlb1 := hB1.lt; refine Vp rfl rfl rfl ?_; rintro b2 w2 hb2 E2 hB2; have hlb2 := hB2.lt; refine Zq rfl Vk ?_; rintro b3 w3 hb3 E3 hB3; refine Zc rfl<|Gm<|Gt<|Gt<|Zl<|Ye Ks Ko (hB1.ext exq) rfl<|Gu rfl (Vh (a := .agg _) Jp rfl) (k0 _ ((Mono.mono exq h1)) ((Mono.mono exq h2))) ?_; rintro _ w4 ⟨rfl, E4⟩; refine Vt rfl<|Gm<|Vv rfl (fun h3 => ?_) (fun h3 => ?_); refine Gs<|Wo rfl (Zn (ps := []) (cs := [_, _]) Vk rfl rfl)<|Xd rfl Ko rfl rfl Ke Ke (hB3.ext E4) Ka (((E1.trans E2).trans E3).trans E4) ?_; rintro w5 E5 hB3 K1 hz1; have E6 := ((E2.trans E3).trans E4).wroteAt exq E5 K1 hz1 Ka; have szE6 := E6.size
      refine Zc rfl<|Gm<|Zd ?_; rotate_left; contradiction
    exact ⟨b3, _, _, rfl, hB3, _, _, rfl, by exact E5, (Owned.nil (e := 0) (X := XSl 0 XInt)).above, (Owned.nil (e := 0) (X := XSl 0 (XSl 0 XInt))).above, rfl, rfl, Ka⟩
end Go.Proofs.YtbgpppaljpngmaaGreatDoor
namespace Go.Proofs.YtbgpppaljpngmaaGreatDoor
open Go.Hs
set_option maxRecDepth 10000
set_option maxHeartbeats 4000000
set_option linter.unusedVariables false
set_option linter.unusedSimpArgs false
theorem sameDesk_ok (w : World) (u1 u2 v1 v2 : Value) (p p' : List (List Int)) (q q' : List (List (List Int))) (h1 : ESl Ints w u1 p) (h2 : ESl (ESl Ints) w u2 q) (h3 : ESl Ints w v1 p') (h4 : ESl (ESl Ints) w v2 q') :
    Does Tryz.prog 15 [.agg #[u1, u2], .agg #[v1, v2]] w (Ret w (.bool (decide (p = p' ∧ q = q')))) := by
  have icu1 : isCell u1 = true := Xu h1
  have icu2 : isCell u2 = true := Xu h2
  have icv1 : isCell v1 = true := Xu h3
  have icv2 : isCell v2 = true := Xu h4
  have hle := h2.le
  have hle' := h4.le
  refine Zy Tryz.func15 rfl Tryz.results15 Tryz.ntmps15 rfl ?_
  focus
    refine Gs<|Vp rfl rfl rfl ?_; rintro b1 w1 hb1 E1 hB1; refine Vp rfl rfl rfl ?_; rintro b2 w2 hb2 E2 hB2; refine Zc rfl<|Gm<|Gt<|Gs<|Zg Kt Ky rfl<|Vs u2 Jf (hB1.ext E2) rfl<|Zm Jd rfl h2<|Zg Kt Ky rfl<|Vs v2 Jf hB2 rfl<|Zm Jd rfl h4<|Uc rfl<|Gm<|Zx rfl (fun h5 => ?_) (fun h5 => ?_); refine Gs<|Zc rfl<|Gm<|Zd ?_; refine Zk (v := .bool _) rfl ?_; refine ⟨congrArg Value.bool ?_, exq⟩; rotate_left; refine Gx<|Gt<|Gs<|Zr rfl<|Gm<|Gy ?_; rotate_left
  · exact (decide_eq_false (fun e => by obtain ⟨_, e⟩ := e; subst e; omega)).symm
  refine Vf [4, 5, 13, 14, 15, 16, 17, 18, 19, 20, 21, 22, 23, 24, 25, 26, 27, 28, 29, 30, 31] (fun (k : Nat) => [(5, .int .i64 (k : Nat))]) (fun k w' => Ext w2 w' ∧ k ≤ q.length ∧ q.take k = q'.take k) (fun x => q.length - x) 0 Kg ?_ ?_
  · exact ⟨Ext.refl _, Nat.zero_le _, Ki⟩
  rintro k ρj w3 ⟨E3, hk, he⟩
  focus
    refine Gt<|Gs<|Gz rfl<|Zg Kt Ky rfl<|Vs u2 Jf (hB1.ext exq) rfl<|Zm Jd rfl h2<|Zo rfl<|Gm<|Gq rfl (fun h6 => ?_) (fun h6 => ?_); refine Gx<|Gt<|Gy<|Gt<|Yr Yn Kb rfl ?_; refine Xp Kt Ky rfl<|Ya (v := u2) rfl (fun w' hw' => Zv Jf rfl (((hB1.ext exq).ext hw').cell rfl)) ?_; refine Qc rfl<|Xk Jd Kw Kz rfl (fun _ => rfl) rfl h2 exq rfl Kf ?_; rintro _ u3 hu1; refine Xp Kt Ky rfl<|Ya (v := v2) rfl (fun w' hw' => Zv Jf rfl (((hB2.ext E3).ext hw').cell rfl)) ?_
    refine Qc rfl<|Xk Jd Kw Kz rfl (fun _ => rfl) rfl h4 exq rfl Kf ?_; rintro _ u4 hu2; refine Yy rfl (fun _ _ => Vb (a := u3) (b := u4) Tryz.call72 rfl rfl) (fun w' hw' => (sameRows_ok _ _ _ _ _ ((Mono.mono exq hu1)) ((Mono.mono exq hu2)))) ?_; refine Rx rfl<|Yp (fun w4 E4 => ?_); refine Zx rfl (fun h7 => ?_) (fun h7 => ?_); refine Gs<|Zc rfl<|Gm<|Zd ?_; refine Zk (v := .bool _) rfl ?_; refine ⟨congrArg Value.bool ?_, exq⟩; rotate_left; refine Gx<|Zl<|Gz rfl<|Va rfl<|Zr rfl<|Gm ?_; rotate_left; refine Ve ?_; refine Zi ?_; refine Gs<|Zg Kt Kw rfl<|Vs u1 Kz (hB1.ext exq) rfl<|Zg Kt Kw rfl<|Vs v1 Kz (hB2.ext E3) rfl ?_
    refine Gu rfl (Vb (a := u1) (b := v1) Tryz.call72 rfl rfl) (sameRows_ok _ _ _ _ _ ((Mono.mono exq h1)) ((Mono.mono exq h3))) ?_; rintro _ w4 ⟨rfl, E4⟩; refine Zc rfl<|Gm<|Zd ?_; refine Zk (v := .bool _) rfl ?_; refine ⟨congrArg Value.bool ?_, exq⟩; rotate_left
  · exact (decide_eq_false (fun e => ne_at (k := k) Ka Ka Kd e.2)).symm
  · refine ⟨(k + 1), Kg, Kh, ?_, ?_⟩
    · exact ⟨E3.trans Kd, Ka, (Ql Ka Ka).2 ⟨he, Kd⟩⟩
    · omega
  · obtain rfl : k = q.length := by omega
    have hq := Tc Ka he
    rw [hq]
    simp
end Go.Proofs.YtbgpppaljpngmaaGreatDoor
namespace Go.Proofs.YtbgpppaljpngmaaGreatDoor
open Go.Hs
set_option maxRecDepth 10000
set_option maxHeartbeats 4000000
set_option linter.unusedVariables false
set_option linter.unusedSimpArgs false
end Go.Proofs.YtbgpppaljpngmaaGreatDoor
namespace Go.Proofs.YtbgpppaljpngmaaGreatDoor
open Go.Hs
set_option maxRecDepth 10000
set_option maxHeartbeats 4000000
set_option linter.unusedVariables false
set_option linter.unusedSimpArgs false
theorem opv_neD {ρ : Env} {w : World} {x y : Operand} {t' ty : TypeId} {k n k' n' : Int} {a b : List UInt8} (hx : evalE ρ x = .agg #[.int .i64 k, str a, .int .i64 n]) (hy : evalE ρ y = .agg #[.int .i64 k', str b, .int .i64 n']) :
    OpV Tryz.prog (.binOp .neq 48 x y t') ty ρ w (.bool (!decide ((⟨k, a, n⟩ : Deed) = ⟨k', b, n'⟩))) := by
  have u3 := Tryz.underlying3
  have a3 := Tryz.isAgg3
  have z3 := Tryz.sizeOf3
  have u9 := Tryz.underlying9
  have a9 := Tryz.isAgg9
  have z9 := Tryz.sizeOf9
  have hS : Tryz.prog.underlying 48 = some (.struct (Tryz.prog.fieldsOf 48)) := Kb
  have hp : Tryz.prog.stoodInHeld 48 = false := Kb
  have hg : Tryz.prog.eqGuardType Tryz.prog.depth 48 = false := Kb
  have e : ((binOp .neq 48 (.agg #[.int .i64 k, str a, .int .i64 n]) (.agg #[.int .i64 k', str b, .int .i64 n'])).run Tryz.prog w) = .ok (.bool (!decide ((⟨k, a, n⟩ : Deed) = ⟨k', b, n'⟩))) w := by
    rw [run_neq_struct, show (10000 : Nat) = 9999 + 1 from rfl, run_equalIn_agg w 9999 48 _ _ hS hp]
    simp only [Program.fieldsOf, Tryz.underlying48]
    go_simp
    by_cases h1 : k = k' <;> by_cases h2 : a = b <;> by_cases h3 : n = n' <;> simp [h1, h2, h3]
  simp [OpV, execOp, hx, hy, run_eqGuard_agg, hg, e]
theorem sameDeeds_ok (w : World) (v u : Value) (l m : List Deed) (h : ESD w v l) (h' : ESD w u m) : Does Tryz.prog 52 [v, u] w (Ret w (.bool (decide (l = m)))) := by
  have hle := h.le
  have hle' := h'.le
  refine Zy Tryz.func52 rfl Tryz.results52 Tryz.ntmps52 rfl ?_
  focus
    refine Gs<|Zc rfl<|Gm<|Gt<|Gs<|Zh v rfl<|Wo rfl (Xh Ji rfl h)<|Zh u rfl<|Wo rfl (Xh Ji rfl h')<|Uc rfl<|Gm<|Zx rfl (fun h1 => ?_) (fun h1 => ?_); refine Gs<|Zc rfl<|Gm<|Zd ?_; refine Zk (v := .bool _) rfl ?_; refine ⟨congrArg Value.bool ?_, (Ext.refl _)⟩; rotate_left; refine Gx<|Gt<|Gs<|Zr rfl<|Gm<|Gy ?_; rotate_left
  · exact (decide_eq_false (fun e => by subst e; omega)).symm
  refine Vf [4, 5, 11, 12, 13, 14, 15, 16, 17, 18, 19, 20, 21, 22, 23, 24, 25] (fun (k : Nat) => [(5, .int .i64 (k : Nat))]) (fun k w' => Ext w w' ∧ k ≤ l.length ∧ l.take k = m.take k) (fun x => l.length - x) 0 Kg ?_ ?_
  · exact ⟨Ext.refl _, Nat.zero_le _, Ki⟩
  rintro k ρj w1 ⟨E1, hk, he⟩
  focus
    refine Gt<|Gs<|Gz rfl<|Zh v rfl<|Wo rfl (Xh Ji rfl h)<|Zo rfl<|Gm<|Gq rfl (fun h2 => ?_) (fun h2 => ?_); refine Gx<|Gt<|Gy<|Gt<|Yr Yn Kb rfl ?_; refine Um v rfl<|Qc rfl<|Wq_getD Ji Kr Jb Kr rfl (fun _ => rfl) rfl h E1 rfl Kf ?_; rintro _; refine Um u rfl<|Qc rfl<|Wq_getD Ji Kr Jb Kr rfl (fun _ => rfl) rfl h' E1 rfl Kf ?_; rintro _; refine Ya rfl (fun _ _ => opv_neD rfl rfl) ?_; refine Yp (fun w2 E2 => ?_); refine Zx rfl (fun h3 => ?_) (fun h3 => ?_); refine Gs ?_
    refine Zc rfl<|Gm<|Zd ?_; refine Zk (v := .bool _) rfl ?_; refine ⟨congrArg Value.bool ?_, exq⟩; rotate_left; refine Gx<|Zl<|Gz rfl<|Va rfl<|Zr rfl<|Gm ?_; rotate_left; refine Ve ?_; refine Zi ?_; refine Gs<|Zc rfl<|Gm<|Zd ?_; refine Zk (v := .bool _) rfl ?_; refine ⟨congrArg Value.bool ?_, E1⟩; rotate_left
  · exact (decide_eq_false (ne_at (k := k) Ka Ka Kd)).symm
  · refine ⟨(k + 1), Kg, Kh, ?_, ?_⟩
    · exact ⟨E1.trans E2, Ka, (Ql Ka Ka).2 ⟨he, Kd⟩⟩
    · omega
  · obtain rfl : k = l.length := by omega
    exact (decide_eq_true (Tc Ka he)).symm
end Go.Proofs.YtbgpppaljpngmaaGreatDoor
set_option linter.unusedVariables false
namespace Go.Hs
variable {P : Program} {n fuel : Nat} {N : Env → World → Prop} {ρ : Env} {w w0 : World} {all : Array Oper} {S : World → Prop} {listed : Array Bool} {d d2 : Nat} {ty t el tl ty2 : TypeId} {pos pos2 : String} {after after2 : Array Edge} {g g2 : Option (Nat × Bool)} {x y : Operand} {v : Value}
theorem Wh_getD {l : List Deed} {k : Nat} (i j : Nat) (hi : all[i]? = some ⟨some d, .indexAddr t x y, ty, pos, after, g⟩) (hf : Region.free .any all listed i = true) (hr : (Region.ready .any all listed).contains i = true)
    (hw : wantedE all ⟨some d, .indexAddr t x y, ty, pos, after, g⟩ ρ = true)
    (hi2 : all[j]? = some ⟨some d2, .load tl (.tmp d), ty2, pos2, after2, g2⟩) (hf2 : Region.free .any all (listed.setIfInBounds i true) j = true) (hr2 : (Region.ready .any all (listed.setIfInBounds i true)).contains j = true)
    (hw2 : ∀ v, wantedE all ⟨some d2, .load tl (.tmp d), ty2, pos2, after2, g2⟩ (upd ρ d v) = true)
    (ht : P.underlying t = some (.slice el)) (hs : ∀ w, (sizeOf el).run P w = .ok 3 w) (hta : ∀ w, (isAgg tl).run P w = .ok true w) (hts : ∀ w, (sizeOf tl).run P w = .ok 3 w)
    (hx : evalE ρ x = v) (hR : ESD w0 v l) (hE : ∀ w', S w' → Ext w0 w') (hy : evalE ρ y = .int .i64 (k : Int)) (hk : k < l.length) (hS : S w)
    (hk' : ∀ ad, Wh P n all S fuel ((listed.setIfInBounds i true).setIfInBounds j true) N (upd (upd ρ d (.pointer (some ad))) d2 (dv l[k])) w) :
    Wh P n all S (fuel + 2) listed N ρ w := by
  obtain ⟨a, c, rfl, h1, h2⟩ := hR
  rcases h2 with rfl | ⟨b, o, rfl, h⟩
  · cases hk
  have hD := h k hk
  refine Zj i hi hf hr hw (fun _ _ => Sn ht hs hx hy hk) hS ?_
  refine Zj j hi2 hf2 hr2 (hw2 _) (fun w' hw' => Tm hta hts ?_ (hD.ext (hE w' hw')).1 (hD.ext (hE w' hw')).2.1 (hD.ext (hE w' hw')).2.2.1) hS (hk' _)
  show upd ρ d _ d = _
  unfold upd; rw [Nat.beq_refl]; rfl
end Go.Hs
set_option linter.unusedVariables false
namespace Go.Hs
def RetDkZ (w : World) (e0 e1 e2 : TypeId) (now : List (List Int)) (past : List (List (List Int))) (z : Int) : Value → World → Prop := fun v w' => ∃ u1 u2 m, v = .tuple #[.agg #[u1, u2], .int .i64 z] ∧ Ext w w' ∧ OwnedB w.heap.size m (XSl e1 (XSl e2 XInt)) w' u1 now ∧ Owned m (XSl e0 (XSl e1 (XSl e2 XInt))) w' u2 past ∧ w.heap.size ≤ m ∧ m ≤ w'.heap.size
end Go.Hs
namespace Go.Proofs.YtbgpppaljpngmaaGreatDoor
open Go.Hs
set_option maxRecDepth 10000
set_option maxHeartbeats 4000000
set_option linter.unusedVariables false
set_option linter.unusedSimpArgs false
open Classical in
noncomputable def drV (d : Dsk) (l : List Deed) : Dsk × Nat := if DkOk d ∧ l.length ≤ 40 then runV d l else (⟨[], []⟩, 0)
open Classical in
theorem impl_DeskRun_ok (w : World) (hM : EMx gMx w (.bool true) ()) (u1 u2 : Value) (d : Dsk) (h1 : ESl Ints w u1 d.now) (h2 : ESl (ESl Ints) w u2 d.past) (vl : Value) (l : List Deed) (hl : ESD w vl l) (hx : ∀ a ∈ l, a.text.length ≤ 1048576) :
    Does Tryz.prog 43 [.agg #[u1, u2], vl] w (RetDkZ w 23 88 3 (drV d l).1.now (drV d l).1.past ((drV d l).2 : Nat)) := by
  have icu1 : isCell u1 = true := Xu h1
  have icu2 : isCell u2 = true := Xu h2
  have hle := hl.le
  refine Qx Tryz.func43 rfl Tryz.results43 Tryz.ntmps43 rfl Ks Ko ?_
  by_cases hd : DkOk d
  · have k0 : ∀ w, ESl Ints w u1 d.now → ESl (ESl Ints) w u2 d.past → Does Tryz.prog 58 [.agg #[u1, u2]] w (Ret w (.bool true)) := fun w h1 h2 => by
      have := isDesk_ok w u1 u2 d h1 h2; rwa [decide_eq_true hd] at this
    by_cases h40 : l.length ≤ 40
    · rw [show drV d l = runV d l from if_pos ⟨hd, h40⟩]
      have bnd : ∀ q, Pic q → q.length ≤ 100 ∧ ∀ r ∈ q, r.length ≤ 100 := fun q hq => ⟨by have := hq.2.1; omega, fun r hr => by rw [(hq.2.2 r hr).1]; have := hq.2.1; omega⟩
      have hppl := hd.2.1
      have k1 : ∀ w, ESl Ints w u1 d.now → ESl (ESl Ints) w u2 d.past → Does Tryz.prog 77 [.agg #[u1, u2]] w (RetDk w 23 88 3 d.now d.past) := fun w h1 h2 => Ru w u1 u2 d.now d.past h1 h2 (bnd _ hd.1.1) Ka (fun q hq => bnd q (hd.2.2 q hq).1)
      focus
        refine Gs<|Vp rfl rfl rfl ?_; rintro b1 w1 hb1 E1 hB1; have hlb1 := hB1.lt; refine Zq rfl Vk ?_; rintro b2 w2 hb2 E2 hB2; have hlb2 := hB2.lt; refine Zr rfl<|Gm<|Gt<|Gs<|Ye Ks Ko (hB1.ext E2) rfl<|Gu rfl (Vh (a := .agg _) Tryz.call58 rfl) (k0 _ ((Mono.mono exq h1)) ((Mono.mono exq h2))) ?_; rintro _ w3 ⟨rfl, E3⟩; have hs3 := E3.size; refine Vt rfl<|Vx rfl (Zt (v := .bool _) rfl) (fun h3 => ?_) (fun h3 => ?_); contradiction; refine Zh vl rfl<|Wo rfl (Xh Ji rfl hl)<|Yt rfl<|Vc rfl<|Gm<|Gq rfl (fun h4 => ?_) (fun h4 => ?_); (exfalso; omega); refine Gx<|Gs<|Ye Ks Ko (hB1.ext exq) rfl ?_
        refine Gu rfl (Vh (a := .agg _) Ge rfl) (k1 _ ((Mono.mono exq h1)) ((Mono.mono exq h2))) ?_; rintro _ w4 ⟨u3, q1, m1, rfl, E4, hO1, hQ1, hm1, hn1⟩; have icu3 := OwnedB.isC hO1; have icq1 := OwnedB.isC (Owned.toB hQ1); refine Xd rfl Ko rfl rfl Ke Ke (hB1.ext ((E2.trans E3).trans E4)) Ka (((E1.trans E2).trans E3).trans E4) ?_; rintro w5 E5 hB1 K1 hz1; have hB2 := (hB2.ext exq).of_heap (K1 _ Ka); have hO1 := hO1.wrote K1 Ka; have hQ1 := hQ1.toB.wrote K1 Ka; refine Gm<|Gs<|Zr rfl<|Gm<|Gt<|Gs<|Zh vl rfl<|Wo rfl (Xh Ji rfl hl)<|Gz rfl<|Gm<|Gy ?_
      refine Vf [6, 8, 9, 10, 24, 25, 26, 27, 28, 29, 30, 31, 32, 33, 34, 35, 36, 37, 38] (fun ((k, v1, v2, lo, m, hi) : Nat × Value × Value × Nat × Nat × Nat) => [(24, .int .i64 (k : Nat)), (6, .int .i64 ((runV d (l.take k)).2 : Nat))]) (fun (k, v1, v2, lo, m, hi) w' => Ext w w' ∧ k ≤ l.length ∧ Blk w' b1 [v1, v2] ∧ Blk w' b2 [.slice none 0 0, .slice none 0 0] ∧ OwnedB lo m XR w' v1 (runV d (l.take k)).1.now ∧ OwnedB m hi (XSl 23 XR) w' v2 (runV d (l.take k)).1.past ∧ w3.heap.size ≤ lo ∧ lo ≤ m ∧ m ≤ hi ∧ hi ≤ w'.heap.size ∧ w5.heap.size ≤ w'.heap.size ∧ isCell v1 = true ∧ isCell v2 = true) (fun x => l.length - x.1) (0, u3, q1, w3.heap.size, m1, w4.heap.size) Kg ?_ ?_
      · exact ⟨by exact E5, Nat.zero_le _, hB1, hB2, hO1, hQ1, Ka, Ka, Ka, Ka, Ka, icu3, icq1⟩
      clear hB1 hB2 hO1 hQ1 k0 k1
      rintro ⟨k, v1, v2, lo, m, hi⟩ ρj w6 ⟨E6, hk, hB1, hB2, hO1, hQ1, hlo, hlm, hmh, hhi, hsz, ic1, ic2⟩
      have hle2 := runV_le (d := d) (l.take k)
      have hle3 : (runV d (l.take k)).2 ≤ k := Nat.le_trans hle2 (by rw [List.length_take]; omega)
      by_cases hlt : k < l.length
      · have hok := runV_ok hd (l.take k)
        have hsn : runV d (l.take (k + 1)) = if (doV (runV d (l.take k)).1 l[k]).2 then ((doV (runV d (l.take k)).1 l[k]).1, (runV d (l.take k)).2 + 1) else runV d (l.take k) := by rw [Vl _ _ hlt, runV_snoc]
        have hxk := hx _ (List.getElem_mem hlt)
        have kD : ∀ (w : World), EMx gMx w (.bool true) () → ESl Ints w v1 (runV d (l.take k)).1.now → ESl (ESl Ints) w v2 (runV d (l.take k)).1.past → Does Tryz.prog 92 [.agg #[v1, v2], .agg #[.int .i64 l[k].kind, str l[k].text, .int .i64 l[k].node]] w (RetDkB w 23 88 3 (doV (runV d (l.take k)).1 l[k]).1.now (doV (runV d (l.take k)).1 l[k]).1.past (doV (runV d (l.take k)).1 l[k]).2) := fun w hM h1 h2 => deskDo_ok w hM v1 v2 (runV d (l.take k)).1 h1 h2 hok l[k].kind l[k].node l[k].text hxk
        cases hb : (doV (runV d (l.take k)).1 l[k]).2 with
        | true =>
          rw [hb] at hsn kD
          rw [if_pos rfl] at hsn
          focus
            refine Gs<|Zo rfl<|Gm<|Gt<|Gq rfl (fun h5 => ?_) (fun h5 => ?_); refine Gx<|Gt<|Gy<|Gs<|Sc Ji Kr Jb Kr rfl (fun _ => rfl) rfl hl E6 rfl Kf ?_; rintro _; refine Yi rfl Zz ?_; rintro b3 w7 hb3 E7 hB3; have hlb3 := hB3.lt; refine Yx Kr hB3 rfl (E6.trans E7) ?_; rintro w8 E8 hB3 K2 hz2; have hB1 := (hB1.ext E7).of_heap (K2 _ Ka); have hB2 := (hB2.ext E7).of_heap (K2 _ Ka); have hO1 := (hO1.ext E7).wrote K2 Ka; have hQ1 := (hQ1.ext E7).wrote K2 Ka; refine Gm<|Gs<|Ye Ks Ko hB1 rfl ?_
            refine Xq Jb Kr hB3 rfl<|Gu rfl (Vb (a := .agg _) (b := .agg _) Tryz.call92 rfl rfl) (kD _ ((Mono.mono E8 hM)) ((OwnedB.read hO1)) ((OwnedB.read hQ1))) ?_; rintro _ w9 ⟨u4, q2, m2, rfl, E10, hO2, hQ2, hm2, hn2⟩; have icu4 := OwnedB.isC hO2; have icq2 := OwnedB.isC (Owned.toB hQ2); have hs6 := E10.size; refine Xf rfl<|To rfl<|Yz rfl<|Zq rfl Vk ?_; rintro b4 w10 hb4 E11 hB4; have hs7 := E11.size; refine Yu Ko hB4 rfl ((E8.trans E10).trans E11) ?_; rintro w11 E12 hB4 K3 hz3; have hB1 := (hB1.ext exq).of_heap (K3 _ Ka); have hB2 := (hB2.ext exq).of_heap (K3 _ Ka); have hO2 := (hO2.ext E11).wrote K3 Ka; have hQ2 := (hQ2.toB.ext E11).wrote K3 Ka; refine Zc rfl<|Gm<|Gs<|Vq rfl<|Gm<|Vj rfl ?_; refine Gs<|Ye Ks Ko hB4 rfl ?_
            refine Yu Ko hB1 rfl E12 ?_; rintro w12 E16 hB1 K4 hz4; have hB2 := hB2.of_heap (K4 _ Ka); have hO2 := hO2.wrote K4 Ka; have hQ2 := hQ2.wrote K4 Ka; refine Gm<|Zl<|Gz rfl<|Va rfl<|Zr rfl<|Gm<|Zl<|Va rfl<|Gz rfl<|Gm ?_; rotate_left; (exfalso; omega)
          refine ⟨(k + 1, u4, q2, w8.heap.size, m2, w9.heap.size), ⟨rfl, congrArg (Value.int .i64) (by rw [hsn]; simp), trivial⟩, Kh, ?_, Kj⟩
          simp only
          rw [hsn]
          exact ⟨Kd, Ka, hB1, hB2, hO2, hQ2, Ka, Ka, Ka, Ka, Ka, icu4, icq2⟩
        | false =>
          rw [hb] at hsn kD
          rw [if_neg Kc] at hsn
          focus
            refine Gs<|Zo rfl<|Gm<|Gt<|Gq rfl (fun h5 => ?_) (fun h5 => ?_); refine Gx<|Gt<|Gy<|Gs<|Sc Ji Kr Jb Kr rfl (fun _ => rfl) rfl hl E6 rfl Kf ?_; rintro _; refine Yi rfl Zz ?_; rintro b3 w7 hb3 E7 hB3; have hlb3 := hB3.lt; refine Yx Kr hB3 rfl (E6.trans E7) ?_; rintro w8 E8 hB3 K2 hz2; have hB1 := (hB1.ext E7).of_heap (K2 _ Ka); have hB2 := (hB2.ext E7).of_heap (K2 _ Ka); have hO1 := (hO1.ext E7).wrote K2 Ka; have hQ1 := (hQ1.ext E7).wrote K2 Ka; refine Gm<|Gs<|Ye Ks Ko hB1 rfl ?_
            refine Xq Jb Kr hB3 rfl<|Gu rfl (Vb (a := .agg _) (b := .agg _) Tryz.call92 rfl rfl) (kD _ ((Mono.mono E8 hM)) ((OwnedB.read hO1)) ((OwnedB.read hQ1))) ?_; rintro _ w9 ⟨u4, q2, m2, rfl, E10, hO2, hQ2, hm2, hn2⟩; have icu4 := OwnedB.isC hO2; have icq2 := OwnedB.isC (Owned.toB hQ2); have hs6 := E10.size; refine Xf rfl<|To rfl<|Yz rfl<|Zq rfl Vk ?_; rintro b4 w10 hb4 E11 hB4; have hlb4 := hB4.lt; refine Yu Ko hB4 rfl ((E8.trans E10).trans E11) ?_; rintro w11 E12 hB4 K3 hz3; have hB1 := (hB1.ext exq).of_heap (K3 _ Ka); have hB2 := (hB2.ext exq).of_heap (K3 _ Ka); have hO1 := (hO1.ext exq).wrote K3 Ka; have hQ1 := (hQ1.ext exq).wrote K3 Ka; refine Zc rfl<|Gm<|Gs<|Vq rfl<|Gm ?_
            refine Za rfl ?_; refine Gx<|Zl<|Va rfl<|Gz rfl<|Gm ?_; rotate_left; (exfalso; omega)
          refine ⟨(k + 1, v1, v2, lo, m, hi), ⟨rfl, congrArg (Value.int .i64) (by rw [hsn]), trivial⟩, Kh, ?_, Kj⟩
          simp only
          rw [hsn]
          exact ⟨Kd, Ka, hB1, hB2, hO1, hQ1, Ka, Ka, Ka, Ka, Ka, ic1, ic2⟩
      · obtain rfl : k = l.length := by omega
        rw [show runV d l = runV d (l.take l.length) by rw [List.take_length]]
        focus
          refine Gs<|Zo rfl<|Gm<|Gt<|Gq rfl (fun h5 => ?_) (fun h5 => ?_); (exfalso; omega); refine Ve ?_; refine Zi ?_; refine Gs<|Ye Ks Ko hB1 rfl<|Gz rfl<|Yu Ko hB2 rfl E6 ?_; rintro w7 E7 hB2 K2 hz2; have hO1 := hO1.wrote K2 Ka; have hQ1 := hQ1.wrote K2 Ka; refine Zr rfl<|Gm<|Zd ?_
        exact ⟨b2, v1, v2, rfl, hB2, v1, v2, m, rfl, by exact E7, hO1.wide Ka (Nat.le_refl _), hQ1.o, Ka, Ka⟩
    · rw [show drV d l = (⟨[], []⟩, 0) from if_neg fun h => h40 h.2]
      focus
        refine Gs<|Vp rfl rfl rfl ?_; rintro b1 w1 hb1 E1 hB1; have hlb1 := hB1.lt; refine Zq rfl Vk ?_; rintro b2 w2 hb2 E2 hB2; refine Zr rfl<|Gm<|Gt<|Gs<|Ye Ks Ko (hB1.ext E2) rfl<|Gu rfl (Vh (a := .agg _) Tryz.call58 rfl) (k0 _ ((Mono.mono exq h1)) ((Mono.mono exq h2))) ?_; rintro _ w3 ⟨rfl, E3⟩; refine Vt rfl<|Vx rfl (Zt (v := .bool _) rfl) (fun h3 => ?_) (fun h3 => ?_); contradiction; refine Zh vl rfl<|Wo rfl (Xh Ji rfl hl)<|Yt rfl<|Vc rfl<|Gm<|Gq rfl (fun h4 => ?_) (fun h4 => ?_); refine Gt<|Zl<|Wo rfl (Zn (ps := []) (cs := [_, _]) Vk rfl rfl)<|Yu Ko (hB2.ext E3) rfl ((E1.trans E2).trans E3) ?_; rintro w4 E4 hB2 K1 hz1
        have E5 := (E2.trans E3).wroteAt exq E4 K1 hz1 Ka; have szE5 := E5.size; refine Zr rfl<|Gm<|Zd ?_; rotate_left; (exfalso; omega)
      exact ⟨b2, _, _, rfl, hB2, _, _, w.heap.size, rfl, by exact E4, OwnedB.nil, Owned.nil, Nat.le_refl _, Ka⟩
  · rw [show drV d l = (⟨[], []⟩, 0) from if_neg fun h => hd h.1]
    have k0 : ∀ w, ESl Ints w u1 d.now → ESl (ESl Ints) w u2 d.past → Does Tryz.prog 58 [.agg #[u1, u2]] w (Ret w (.bool false)) := fun w h1 h2 => by
      have := isDesk_ok w u1 u2 d h1 h2; rwa [decide_eq_false hd] at this
    focus
      refine Gs<|Vp rfl rfl rfl ?_; rintro b1 w1 hb1 E1 hB1; have hlb1 := hB1.lt; refine Zq rfl Vk ?_; rintro b2 w2 hb2 E2 hB2; refine Zr rfl<|Gm<|Gt<|Gs<|Ye Ks Ko (hB1.ext E2) rfl<|Gu rfl (Vh (a := .agg _) Tryz.call58 rfl) (k0 _ ((Mono.mono exq h1)) ((Mono.mono exq h2))) ?_; rintro _ w3 ⟨rfl, E3⟩; refine Vt rfl<|Vx rfl (Zt (v := .bool _) rfl) (fun h3 => ?_) (fun h3 => ?_); refine Gn rfl<|Gn rfl<|Gn rfl<|Vw rfl<|Gm<|Vj rfl ?_; refine Gs<|Wo rfl (Zn (ps := []) (cs := [_, _]) Vk rfl rfl)<|Yu Ko (hB2.ext E3) rfl ((E1.trans E2).trans E3) ?_; rintro w4 E4 hB2 K1 hz1; have E5 := (E2.trans E3).wroteAt exq E4 K1 hz1 Ka; have szE5 := E5.size; refine Zr rfl<|Gm<|Zd ?_; rotate_left; contradiction
    exact ⟨b2, _, _, rfl, hB2, _, _, w.heap.size, rfl, by exact E4, OwnedB.nil, Owned.nil, Nat.le_refl _, Ka⟩
end Go.Proofs.YtbgpppaljpngmaaGreatDoor
namespace Go.Hs
inductive Fm where
  | t
  | neg (f : Fm)
  | S (f : Fm)
  | A (f : Fm)
  | and (f g : Fm)
  | or (f g : Fm)
  deriving DecidableEq, Inhabited
namespace Fm
def enc : Fm → List UInt8
  | t => [116]
  | neg f => 33 :: enc f
  | S f => 83 :: enc f
  | A f => 65 :: enc f
  | and f g => 40 :: (enc f ++ 38 :: (enc g ++ [41]))
  | or f g => 40 :: (enc f ++ 124 :: (enc g ++ [41]))
end Fm
end Go.Hs
namespace Go.Proofs.YtbgpppaljpngmaaGreatDoor
open Go.Hs
set_option maxRecDepth 10000
set_option maxHeartbeats 4000000
set_option linter.unusedVariables false
end Go.Proofs.YtbgpppaljpngmaaGreatDoor
namespace Go.Proofs.YtbgpppaljpngmaaGreatDoor
open Go.Hs
set_option maxRecDepth 10000
set_option maxHeartbeats 4000000
set_option linter.unusedVariables false
theorem Vu {w0 : World} (w : World) {br m : Nat} (n : Int) (hr : Rdr w0 w br m) (hm : m ≤ 1000000000) :
    Does Tryz.prog 75 [.pointer (some ⟨br, 0, none⟩), .int .i64 n] w (RetD w0 w br (m + 1) (fun x : Nat => .int .i64 (x : Int)) (fun x _ => 1 ≤ n → (x : Int) < n)) := by
  obtain ⟨E0, hge, hlt, vb, bs, p, hb, hlen, hB, hp⟩ := hr
  have hbs := hb.le
  refine Zy Tryz.func75 rfl Tryz.results75 Tryz.ntmps75 rfl ?_
  have hG : w.grownBy w (some br) := Xy _ _
  have hp1 : (p : Int) + 1 - 1 = p := Ka
  rcases Nat.eq_zero_or_pos bs.length with h0 | h0
  · have e0 : bs = [] := List.eq_nil_of_length_eq_zero h0
    focus
      have szE0 := E0.size; refine Gs<|Zr rfl<|Gm<|Gs<|Xx rfl<|Xx rfl<|Wo rfl (Xc rfl)<|Zg Jv Kl rfl<|Vi Km hB rfl<|Va rfl<|Wo rfl (Xc rfl)<|Zg Jv Kl rfl<|Vz (v := .int _ _) rfl Kl rfl rfl rfl hB Ki Ka E0 ?_; rintro w1 E1 hB K1 hz1; simp only [List.set] at hB; have hG := Zf hG E0 E1 K1 hz1 (by first | exact .inr rfl | omega); refine Gm<|Gt<|Gs<|Gz rfl<|Zo rfl<|Zp rfl (fun h1 => ?_) (fun h1 => ?_); refine Gn rfl<|Gn rfl<|Gn rfl<|Gn rfl<|Gn rfl<|Gn rfl<|Vw rfl<|Gm<|Vj rfl ?_; refine Gs ?_
      refine Zr rfl<|Gm<|Zd ?_; refine Zk (v := .int _ _) rfl ?_; rotate_left; refine Xx rfl<|Wo rfl (Xc rfl)<|Zg Jv Gf rfl<|Vs vb Gg hB rfl<|Zm Jl rfl hb<|Zs rfl<|Vc rfl<|Gm<|Gq rfl (fun h2 => ?_) (fun h2 => ?_); refine Gs<|Zr rfl<|Gm<|Zd ?_; refine Zk (v := .int _ _) rfl ?_; rotate_left; (exfalso; omega)
    all_goals exact ⟨0, rfl, hG, ⟨Kd, hge, hB.lt, vb, bs, p + 1, hb, hlen, hB, Ka⟩, fun h => Ka⟩
  have hL : (0 : Int) < (bs.length : Int) := Ka
  have hm1 := Int.emod_lt_of_pos (p : Int) hL
  have hm2 := Int.emod_nonneg (p : Int) (show (bs.length : Int) ≠ 0 by omega)
  have hm3 := Int.emod_lt_of_pos ((p : Int) * 7 + 3) hL
  have hm4 := Int.emod_nonneg ((p : Int) * 7 + 3) (show (bs.length : Int) ≠ 0 by omega)
  have hm5 : (p : Int) / (bs.length : Int) ≤ p := Int.ediv_le_self _ Ka
  have hm6 : 0 ≤ (p : Int) / (bs.length : Int) := Int.ediv_nonneg Ka Ka
  have hm1 := Int.emod_lt_of_pos ((p : Int) + 1 - 1) hL
  have hm2 := Int.emod_nonneg ((p : Int) + 1 - 1) (show (bs.length : Int) ≠ 0 by omega)
  have hm3 := Int.emod_lt_of_pos (((p : Int) + 1 - 1) * 7 + 3) hL
  have hm4 := Int.emod_nonneg (((p : Int) + 1 - 1) * 7 + 3) (show (bs.length : Int) ≠ 0 by omega)
  have hm5 : ((p : Int) + 1 - 1) / (bs.length : Int) ≤ p := by rw [hp1]; exact hm5
  have hm6 : 0 ≤ ((p : Int) + 1 - 1) / (bs.length : Int) := by rw [hp1]; exact hm6
  focus
    have szE0 := E0.size; refine Gs<|Zr rfl<|Gm<|Gs<|Xx rfl<|Xx rfl<|Wo rfl (Xc rfl)<|Zg Jv Kl rfl<|Vi Km hB rfl<|Va rfl<|Wo rfl (Xc rfl)<|Zg Jv Kl rfl<|Vz (v := .int _ _) rfl Kl rfl rfl rfl hB Ki Ka E0 ?_; rintro w1 E1 hB K1 hz1; simp only [List.set] at hB; have hG := Zf hG E0 E1 K1 hz1 (by first | exact .inr rfl | omega); refine Gm<|Gt<|Gs<|Gz rfl<|Zo rfl<|Zp rfl (fun h1 => ?_) (fun h1 => ?_); refine Gn rfl<|Gn rfl<|Gn rfl<|Gn rfl<|Gn rfl<|Gn rfl<|Vw rfl<|Gm<|Vj rfl ?_; refine Gs ?_
    refine Zr rfl<|Gm<|Zd ?_; refine Zk (v := .int _ _) rfl ?_; rotate_left; refine Xx rfl<|Wo rfl (Xc rfl)<|Zg Jv Gf rfl<|Vs vb Gg hB rfl<|Zm Jl rfl hb<|Zs rfl<|Vc rfl<|Gm<|Gq rfl (fun h2 => ?_) (fun h2 => ?_); (exfalso; omega); refine Gx<|Gt<|Zl<|Xx rfl<|Wo rfl (Xc rfl)<|Zg Jv Kl rfl<|Vi Km hB rfl<|Qk rfl<|Zr rfl<|Gm<|Gt<|Gt<|Zl<|Gz rfl<|Xx rfl<|Wo rfl (Xc rfl)<|Zg Jv Gf rfl<|Vs vb Gg hB rfl<|Zm Jl rfl hb<|Zo rfl<|Gm<|Gq rfl (fun h3 => ?_) (fun h3 => ?_); refine Gs<|Xx rfl ?_
    refine Wo rfl (Xc rfl)<|Zg Jv Gf rfl<|Vs vb Gg hB rfl<|Gz rfl<|Wo_getB_z Jl Tryz.sizeOf5 Tryz.isAgg5 rfl (fun _ => rfl) rfl hb E1 rfl Kf ?_; rintro _ n1 hn1 hn1'; refine Wo rfl (Xz Jt Jy rfl Ka) ?_; refine Gz rfl<|Wo rfl (opv_rem rfl rfl Ka) ?_; refine Zr rfl<|Gm<|Zd ?_; refine Zk (v := .int _ _) rfl ?_; rotate_left; refine Gx<|Gt<|Yr Yn Kb rfl ?_; refine WqmP rfl<|Ya rfl (fun _ _ => Xc rfl) ?_; refine Xp Jv Gf rfl<|Ya (v := vb) rfl (fun w' hw' => Zv Gg rfl ((hB.ext hw').cell rfl)) ?_; refine Qc rfl<|WqmP rfl ?_
    refine Ya rfl (fun _ _ => Xc rfl) ?_; refine Xp Jv Gf rfl<|Ya (v := vb) rfl (fun w' hw' => Zv Gg rfl ((hB.ext hw').cell rfl)) ?_; refine Ya rfl (fun _ _ => Uh Jl rfl hb) ?_; refine Ya rfl (fun _ _ => opv_rem rfl rfl Ka) ?_; refine Wq_getB_z Jl Tryz.sizeOf5 Tryz.isAgg5 rfl (fun _ => rfl) rfl hb E1 rfl Kf ?_; rintro _ n1 hn1 hn1'; refine Ya rfl (fun _ _ => Xz Jt Jy rfl Ka) ?_; refine Ya rfl (fun _ _ => Xg rfl rfl Ka) ?_; refine WqmP rfl<|Ya rfl (fun _ _ => Xc rfl) ?_; refine Xp Jv Gf rfl ?_
    refine Ya (v := vb) rfl (fun w' hw' => Zv Gg rfl ((hB.ext hw').cell rfl)) ?_; refine Qc rfl<|Ya rfl (fun _ _ => Xg rfl rfl Ka) ?_; refine Ya rfl (fun _ _ => Yk rfl rfl Ka) ?_; refine WqmP rfl<|Ya rfl (fun _ _ => Xc rfl) ?_; refine Xp Jv Gf rfl<|Ya (v := vb) rfl (fun w' hw' => Zv Gg rfl ((hB.ext hw').cell rfl)) ?_; refine Ya rfl (fun _ _ => Uh Jl rfl hb) ?_; refine Ya rfl (fun _ _ => opv_rem rfl rfl Ka) ?_; refine Wq_getB_z Jl Tryz.sizeOf5 Tryz.isAgg5 rfl (fun _ => rfl) rfl hb E1 rfl Kf ?_; rintro _ n2 hn2 hn2'
    refine Ya rfl (fun _ _ => Xz Jt Jy rfl Ka) ?_; refine Ya rfl (fun _ _ => Xg rfl rfl Ka) ?_; refine Ya rfl (fun _ _ => Yk rfl rfl Ka) ?_; refine Qc rfl<|Ya rfl (fun _ _ => Xg rfl rfl Ka) ?_; refine Ya rfl (fun _ _ => Yk rfl rfl Ka) ?_; refine Qc rfl<|WqmP rfl<|Ya rfl (fun _ _ => Xc rfl) ?_; refine Xp Jv Gf rfl<|Ya (v := vb) rfl (fun w' hw' => Zv Gg rfl ((hB.ext hw').cell rfl)) ?_; refine Ya rfl (fun _ _ => Uh Jl rfl hb) ?_; refine Ya rfl (fun _ _ => Xn rfl rfl Ka) ?_; refine Ya rfl (fun _ _ => Xg rfl rfl Ka) ?_
    refine Ya rfl (fun _ _ => Yk rfl rfl Ka) ?_; refine WqaI rfl<|Yp (fun w2 E2 => ?_); have hG := Zb hG E2; have hs1 := E2.size; refine Gt<|Zl<|Gz rfl<|Gz rfl<|Wo rfl (Xn rfl rfl Ka) ?_; refine Wo rfl (opv_xor rfl rfl Ka) ?_; refine Zr rfl<|Gm<|Gs<|Gz rfl<|Gz rfl<|Wo rfl (opv_rem rfl rfl Ka) ?_; refine Zr rfl<|Gm<|Zd ?_; refine Zk (v := .int _ _) rfl ?_; rotate_left
  · exact ⟨0, rfl, hG, ⟨Kd, hge, hB.lt, vb, bs, p + 1, hb, hlen, hB, Ka⟩, fun h => Ka⟩
  · have e := Int.emod_nonneg (n1 : Int) (show n ≠ 0 by omega)
    refine ⟨((n1 : Int) % n).toNat, by simp only [Int.toNat_of_nonneg e], hG, ⟨Kd, hge, hB.lt, vb, bs, p + 1, hb, hlen, hB, Ka⟩, fun h => ?_⟩
    simp only [Int.toNat_of_nonneg e]
    exact Int.emod_lt_of_pos _ Ka
  · refine Zk (v := .int .i64 _) rfl ?_
    generalize hz : ((((n1 * 131 : Int) + n2 * 1117 + ((p : Int) + 1 - 1) * 29 + ((p : Int) + 1 - 1) / (bs.length : Int) * 53).toNat ^^^ (((n1 * 131 : Int) + n2 * 1117 + ((p : Int) + 1 - 1) * 29 + ((p : Int) + 1 - 1) / (bs.length : Int) * 53) / 64).toNat : Nat) : Int) = z
    have hz0 : 0 ≤ z := by rw [← hz]; omega
    have hB := hB.ext (show Ext w1 w2 by assumption)
    have e := Int.emod_nonneg z (show n ≠ 0 by omega)
    refine ⟨(z % n).toNat, by simp only [Int.toNat_of_nonneg e], hG, ⟨E1.trans Kd, hge, hB.lt, vb, bs, p + 1, hb, hlen, hB, Ka⟩, fun h => ?_⟩
    simp only [Int.toNat_of_nonneg e]
    exact Int.emod_lt_of_pos _ Ka
theorem odd_ok {w0 : World} (w : World) {br m : Nat} (n : Int) (hr : Rdr w0 w br m) (hm : m ≤ 1000000000) (hn : -1000000 ≤ n ∧ n ≤ 1000000) :
    Does Tryz.prog 76 [.pointer (some ⟨br, 0, none⟩), .int .i64 n] w (RetD w0 w br (m + 1) Value.bool (fun _ _ => True)) := by
  refine Zy Tryz.func76 rfl Tryz.results76 Tryz.ntmps76 rfl ?_
  have hG : w.grownBy w (some br) := Xy _ _
  focus
    refine Gs<|Zc rfl<|Gm<|Gs<|Gz rfl<|Yt rfl<|Zp rfl (fun h1 => ?_) (fun h1 => ?_); refine Xx rfl<|Gz rfl<|Gu rfl (Vb (a := .pointer _) (b := .int _ _) Jc rfl rfl) (Vu _ _ Kd Kd) ?_; rintro _ w1 ⟨y1, rfl, E1, hr1, hy1⟩; (try dsimp only at hy1); have hlhr1 := hr1.lt; have Ehr1 := hr1.old; have hG := Ze hG E1; have hs1 := E1.size; refine Gz rfl<|Qk rfl<|Zs rfl<|Vw rfl<|Zc rfl<|Gm<|Zd ?_; refine Zk (v := .bool _) rfl ?_; rotate_left; refine Gn rfl<|Gn rfl<|Gn rfl<|Gn rfl<|Gn rfl<|Gn rfl<|Vc rfl<|Zc rfl<|Gm<|Zd ?_; refine Zk (v := .bool _) rfl ?_; rotate_left
  all_goals first | exact ⟨_, rfl, hG, hr1, trivial⟩ | exact ⟨_, rfl, hG, hr.le Ka, trivial⟩
theorem flat112 : Flat Tryz.prog 112 [.slice none 0 0, .int .i64 0] := ⟨_, Tryz.underlying112, fun _ => Kb, fun _ => Kb⟩
theorem open_ok (w : World) (v : Value) (xs : List UInt8) (h : Bytes w v xs) (hc : CapOk v) :
    Does Tryz.prog 55 [v] w (RetX w (fun br : Nat => .pointer (some ⟨br, 0, none⟩)) (fun br w' => Rdr w w' br 0)) := by
  refine Zy Tryz.func55 rfl Tryz.results55 Tryz.ntmps55 rfl ?_
  have hl := h.le
  obtain ⟨a, c, rfl, hR⟩ := id h
  obtain ⟨a', l', c', e, hcap⟩ := hc
  cases e
  by_cases h2 : 2000 < xs.length
  · obtain ⟨b, o, u, rfl, _⟩ := hR.at (show 0 < xs.length by omega)
    have hT := h.take (cap' := c) 2000 Ka
    focus
      refine Gs<|WsaP rfl<|Gm<|Gt<|Gs<|Xj rfl<|Zm Jl rfl h<|Yt rfl<|Gm<|Gq rfl (fun h1 => ?_) (fun h1 => ?_); refine Zl<|Xj rfl<|Wo rfl (Uo Jl Tryz.sizeOf5 rfl rfl Ka) ?_; refine Vr rfl<|Gm<|Gt<|Zl<|Xj rfl<|Wo rfl (Zn (ps := [(0, .slice _ _ _)]) (cs := [_, _]) flat112 rfl rfl)<|Vp rfl rfl rfl ?_; rintro b1 w1 hb1 E1 hB1; have hlb1 := hB1.lt; have hs1 := E1.size; refine WsaP rfl<|Gm<|Zd ?_; refine Zk (v := .pointer _) rfl ?_; refine ⟨E1, _, rfl, ?_⟩; (try dsimp only); rotate_left; (exfalso; omega)
    all_goals exact ⟨Kd, Kd, Kd, _, _, 0, hT, by simp; omega, Kd, Ka⟩
  · focus
      refine Gs<|WsaP rfl<|Gm<|Gt<|Gs<|Xj rfl<|Zm Jl rfl h<|Yt rfl<|Gm<|Gq rfl (fun h1 => ?_) (fun h1 => ?_); (exfalso; omega); refine Gx<|Gt<|Zl<|Xj rfl<|Wo rfl (Zn (ps := [(0, .slice _ _ _)]) (cs := [_, _]) flat112 rfl rfl)<|Vp rfl rfl rfl ?_; rintro b1 w1 hb1 E1 hB1; have hlb1 := hB1.lt; have hs1 := E1.size; refine WsaP rfl<|Gm<|Zd ?_; refine Zk (v := .pointer _) rfl ?_; refine ⟨E1, _, rfl, ?_⟩; (try dsimp only)
    all_goals exact ⟨Kd, Kd, Kd, _, _, 0, h, Ka, Kd, Ka⟩
end Go.Proofs.YtbgpppaljpngmaaGreatDoor
namespace Go.Proofs.YtbgpppaljpngmaaGreatDoor
open Go.Hs
set_option maxRecDepth 10000
set_option maxHeartbeats 4000000
set_option linter.unusedVariables false
set_option linter.unusedSimpArgs false
theorem Picture_ok {w0 : World} (w : World) {br m : Nat} (n : Int) (hr : Rdr w0 w br m) (hm : m ≤ 100000000) (hn : 0 ≤ n ∧ n ≤ 1000) :
    Does Tryz.prog 151 [.pointer (some ⟨br, 0, none⟩), .int .i64 n] w (RetDO w0 w br (m + 60) XR (fun p => p.length ≤ 5 ∧ ∀ r ∈ p, r.length ≤ 6)) := by
  refine Zy Tryz.func151 rfl Tryz.results151 Tryz.ntmps151 rfl ?_
  have hG : w.grownBy w (some br) := Xy _ _
  have hlr := hr.lt
  have hgr := hr.ge
  have E0 := hr.old
  focus
    refine Gs<|Vr rfl<|Gm<|Gs<|Xx rfl<|Gu rfl (Vb (a := .pointer _) (b := .int _ _) Jc rfl rfl) (Vu _ _ Kd Ka) ?_; rintro _ w1 ⟨y1, rfl, E1, hr1, hy1⟩; (try dsimp only at hy1); have hlhr1 := hr1.lt; have hG := Ze hG E1; have hs1 := E1.size; refine Va rfl<|Zr rfl<|Gm<|Gs<|Yb (XSl 3 XInt) rfl Ui Kv ?_; rintro b1 w2 hb1 b1lt E2 hO1; have hr1 := hr1.ext E2; have hG := Zb hG E2; refine Vr rfl<|Gm<|Gs<|Xx rfl<|Gu rfl (Vb (a := .pointer _) (b := .int _ _) Jc rfl rfl) (Vu _ _ Kd Ka) ?_; rintro _ w3 ⟨y2, rfl, E3, hr2, hy2⟩; (try dsimp only at hy2); have hO1 := hO1.toB.grown E3 Ka; have hG := Ze hG E3; refine Zr rfl<|Gm<|Gt<|Gs<|Zr rfl<|Gm<|Gy ?_
  have hy1' := hy1 Ka
  have hn5 : (1 + (y1 : Int)).toNat = 1 + y1 := Ka
  refine Vf [6, 8, 9, 10, 17, 18, 19, 20, 21, 22, 23, 24, 25, 26, 27, 28, 29, 30, 31, 32, 33, 34, 35, 36, 37, 38, 39, 40, 41, 42, 43, 44, 45, 46, 47, 48, 49, 50, 51, 52, 53, 54, 55, 56, 57, 58, 59, 60, 61, 62] (fun (k, u, rows) => [(8, .int .i64 (k : Nat)), (6, u)]) (fun (k, u, rows) w' => w.grownBy w' (some br) ∧ Rdr w0 w' br (m + 2 + 6 * k) ∧ k ≤ 1 + y1 ∧ Owned w.heap.size XR w' u rows ∧ rows.length = k ∧ ∀ r ∈ rows, r.length = 1 + y1) (fun x => 1 + y1 - x.1) (0, .slice (some ⟨b1, 0, none⟩) 0 0, []) Kg ?_ ?_
  · exact ⟨hG, hr2, Nat.zero_le _, hO1.o.mono Ka, rfl, Ki⟩
  rintro ⟨k, u, rows⟩ ρj w4 ⟨hG4, hr4, hk, hO4, hrl, hrr⟩
  have hg4 := hG4.size
  by_cases hlt : k < 1 + y1
  · focus
      refine Gt<|Gs<|Gz rfl<|Gz rfl<|Zo rfl<|Gm<|Gq rfl (fun h1 => ?_) (fun h1 => ?_); refine Gx<|Gt<|Gy<|Gt<|Zl<|Gz rfl<|Sk rfl Ug (int_z Ka rfl) Ka ?_; rintro b2 w5 hb2 b2lt E5 hO2; have hG4 := Zb hG4 E5; have hr4 := hr4.ext E5; refine Vr rfl<|Gm<|Gt<|Gs<|Zr rfl<|Gm<|Gy ?_; rotate_left; (exfalso; omega)
    refine Vf [10, 24, 25, 26, 27, 28, 29, 30, 31, 32, 33, 34, 35, 36, 37, 38, 39, 40, 41, 42, 43, 44, 45] (fun (j, row) => [(10, .int .i64 (j : Nat))]) (fun (j, row) w' => w.grownBy w' (some br) ∧ Rdr w0 w' br (m + 2 + 6 * k + j) ∧ j ≤ 1 + y1 ∧ OwnedB w.heap.size w4.heap.size XR w' u rows ∧ Owned w4.heap.size XI w' (.slice (some ⟨b2, 0, none⟩) (1 + (y1 : Int)).toNat (1 + (y1 : Int)).toNat) row ∧ row.length = 1 + y1) (fun x => 1 + y1 - x.1) (0, List.replicate (1 + (y1 : Int)).toNat 0) Kg ?_ ?_
    · exact ⟨hG4, hr4, Nat.zero_le _, hO4.toB.ext E5, hO2, by simp; omega⟩
    rintro ⟨j, row⟩ ρi w6 ⟨hG6, hr6, hj, hO6, hR6, hrow⟩
    have E6 := hr6.old
    have hb6 := hR6.lt_own (k := b2) rfl
    have hs6 : w4.heap.size ≤ w6.heap.size := Ka
    by_cases hjl : j < 1 + y1
    · focus
        refine Gt<|Gs<|Gz rfl<|Gz rfl<|Zo rfl<|Gm<|Gq rfl (fun h2 => ?_) (fun h2 => ?_); refine Gx<|Gt<|Gy<|Gs<|Gz rfl<|Zs rfl<|Zp rfl (fun h3 => ?_) (fun h3 => ?_); refine Gz rfl<|Gz rfl<|Yt rfl<|Vw rfl<|Zp rfl (fun h4 => ?_) (fun h4 => ?_); refine Gn rfl<|Gn rfl<|Vw rfl<|Gm<|Vj rfl ?_; refine Zl<|Xj rfl<|Gz rfl<|Xx rfl<|Gu rfl (Vb (a := .pointer _) (b := .int _ _) Jc rfl rfl) (Vu _ _ Kd Ka) ?_; rintro _ w7 ⟨y3, rfl, E7, hr3, hy3⟩; (try dsimp only at hy3); have Ehr3 := hr3.old; have hG6 := Ze hG6 E7; have hO6 := hO6.grown E7 Ka; have hR6 := hR6.toB.grown E7 Ka
        refine Wo rfl (Xn rfl rfl Ka) ?_; refine Wo rfl (Zu Kn Kl rfl rfl Ka) ?_; refine Wo_set rfl Kl rfl rfl hR6 Kf Owned.int (Nat.le_refl _) Ka ?_; rintro w8 hR6 On1 K1 hz1; have E8 := On1.ext1 Ehr3 Ka; have hr3 := hr3.wrote E8 (K1 _ Ka) hz1; have hG6 := Zf hG6 Ehr3 E8 K1 hz1 (by first | exact .inr rfl | omega); have hO6 := hO6.wrote K1 Ka; refine Gm<|Zl<|Gz rfl<|Va rfl<|Zr rfl<|Gm ?_; rotate_left; refine Gz rfl<|Yt rfl<|Vc rfl<|Gm<|Gq rfl (fun h5 => ?_) (fun h5 => ?_); (exfalso; omega); refine Gx<|Zl<|Gz rfl<|Va rfl<|Zr rfl<|Gm ?_; rotate_left; refine Gn rfl<|Gn rfl<|Gn rfl<|Vc rfl<|Vq rfl<|Gz rfl<|Yt rfl ?_
        refine Vc rfl<|Gm<|Gq rfl (fun h4 => ?_) (fun h4 => ?_); refine Zl<|Xj rfl<|Gz rfl<|Xx rfl<|Gu rfl (Vb (a := .pointer _) (b := .int _ _) Jc rfl rfl) (Vu _ _ Kd Ka) ?_; rintro _ w7 ⟨y3, rfl, E7, hr3, hy3⟩; (try dsimp only at hy3); have Ehr3 := hr3.old; have hG6 := Ze hG6 E7; have hO6 := hO6.grown E7 Ka; have hR6 := hR6.toB.grown E7 Ka; refine Wo rfl (Xn rfl rfl Ka) ?_; refine Wo rfl (Zu Kn Kl rfl rfl Ka) ?_; refine Wo_set rfl Kl rfl rfl hR6 Kf Owned.int (Nat.le_refl _) Ka ?_; rintro w8 hR6 On1 K1 hz1; have E8 := On1.ext1 Ehr3 Ka; have hr3 := hr3.wrote E8 (K1 _ Ka) hz1
        have hG6 := Zf hG6 Ehr3 E8 K1 hz1 (by first | exact .inr rfl | omega); have hO6 := hO6.wrote K1 Ka; refine Gm<|Zl<|Gz rfl<|Va rfl<|Zr rfl<|Gm ?_; rotate_left; (exfalso; omega); (exfalso; omega)
      · refine ⟨((j + 1, row.set j ((y3 : Int) / 2))), Kg, Kh, ?_, ?_⟩
        · exact ⟨Kd, Rdr.le Kd Ka, Ka, Kd, Kd, by simp [hrow]⟩
        · simp only; omega
      · refine ⟨((j + 1, row)), Kg, Kh, ?_, ?_⟩
        · exact ⟨Kd, Rdr.le Kd Ka, Ka, Kd, Kd, hrow⟩
        · simp only; omega
      · refine ⟨((j + 1, row.set j ((y3 : Int) / 2))), Kg, Kh, ?_, ?_⟩
        · exact ⟨Kd, Rdr.le Kd Ka, Ka, Kd, Kd, by simp [hrow]⟩
        · simp only; omega
    · obtain rfl : j = 1 + y1 := by omega
      have hrs : ∀ (rw' : List Int), rw'.length = 1 + y1 → ∀ r ∈ rows ++ [rw'], r.length = 1 + y1 := by
        intro rw' h9 r hr9
        rcases List.mem_append.1 hr9 with h | h
        · exact hrr r h
        · rw [List.mem_singleton.1 h]; exact h9
      focus
        have szE0 := E0.size; refine Gt<|Gs<|Gz rfl<|Gz rfl<|Zo rfl<|Gm<|Gq rfl (fun h2 => ?_) (fun h2 => ?_); (exfalso; omega); refine Ve ?_; refine Zi ?_; refine Gt<|Gs<|Gz rfl<|Va rfl<|Gz rfl<|Zo rfl<|Zp rfl (fun h3 => ?_) (fun h3 => ?_); refine Xx rfl<|Gu rfl (Vb (a := .pointer _) (b := .int _ _) Jc rfl rfl) (Vu _ _ Kd Ka) ?_; rintro _ w7 ⟨y3, rfl, E7, hr3, hy3⟩; (try dsimp only at hy3); have Ehr3 := hr3.old; have hG6 := Ze hG6 E7; have hO6 := hO6.grown E7 Ka; have hR6 := hR6.toB.grown E7 Ka; have hs5 := E7.size; refine Yt rfl<|Vw rfl<|Gm<|Gq rfl (fun h4 => ?_) (fun h4 => ?_); refine Zl<|Xj rfl<|Gz rfl ?_
        refine Va rfl<|Wo rfl (Xa Kn Kl rfl rfl Ka) ?_; refine Wo_set rfl Kl rfl rfl hR6 Kf Owned.int (Nat.le_refl _) Ka ?_; rintro w8 hR6 On1 K1 hz1; have E8 := On1.ext1 Ehr3 Ka; have hr3 := hr3.wrote E8 (K1 _ Ka) hz1; have hG6 := Zf hG6 Ehr3 E8 K1 hz1 (by first | exact .inr rfl | omega); have hO6 := hO6.wrote K1 Ka; refine Gm<|Zl<|Zh u rfl<|Xj rfl<|Yc (ps := [(0, .slice _ _ _)]) (cs := [_]) rfl Kq Kv Jn rfl rfl rfl rfl ?_; rintro b3 w9 hb3 E9 hB1; have hlb3 := hB1.lt; have hr3 := hr3.ext E9; have hG6 := Zb hG6 E9
        refine Yf rfl Ui rfl rfl hB1 (hO6.ext E9) (hR6.toB.ext E9).o Ka Kf Ka Ka (E8.trans E9) Ka ?_; have hT1 := (hO6.ext E9); rintro v1 w10 hO6 E10 M1; have hr3 := hr3.moves E10 M1 hT1 Ka; have hG6 := Rp hG6 M1 hT1 Ka; refine Vn v1 rfl<|Gm<|Zl<|Gz rfl<|Va rfl<|Zr rfl<|Gm ?_; rotate_left; refine Gx<|Zl<|Zh u rfl<|Xj rfl<|Yc (ps := [(0, .slice _ _ _)]) (cs := [_]) rfl Kq Kv Jn rfl rfl rfl rfl ?_; rintro b3 w8 hb3 E8 hB1; have hlb3 := hB1.lt; have hr3 := hr3.ext E8; have hG6 := Zb hG6 E8; refine Yf rfl Ui rfl rfl hB1 (hO6.ext E8) (hR6.ext E8).o Ka Kf Ka Ka (Ehr3.trans E8) Ka ?_
        have hT1 := (hO6.ext E8); rintro v1 w9 hO6 E9 M1; have hr3 := hr3.moves E9 M1 hT1 Ka; have hG6 := Rp hG6 M1 hT1 Ka; refine Vn v1 rfl<|Gm<|Zl<|Gz rfl<|Va rfl<|Zr rfl<|Gm ?_; rotate_left; refine Gn rfl<|Gn rfl<|Gn rfl<|Vc rfl<|Gm<|Za rfl ?_; refine Gx<|Zl<|Zh u rfl<|Xj rfl<|Yc (ps := [(0, .slice _ _ _)]) (cs := [_]) rfl Kq Kv Jn rfl rfl rfl rfl ?_; rintro b3 w7 hb3 E7 hB1; have hlb3 := hB1.lt; have hG6 := Zb hG6 E7; have hr6 := hr6.ext E7; refine Yf rfl Ui rfl rfl hB1 (hO6.ext E7) (hR6.toB.ext E7).o Ka Kf Ka Ka (E6.trans E7) Ka ?_; have hT1 := (hO6.ext E7); rintro v1 w8 hO6 E8 M1; have hG6 := Rp hG6 M1 hT1 Ka
        have hr6 := hr6.moves E8 M1 hT1 Ka; refine Wo rfl (Yj (v := v1) rfl)<|Gm<|Xm rfl<|Wo rfl (Zt (v := .int _ _) rfl)<|Va rfl<|Zr rfl<|Gm ?_; rotate_left
      · refine ⟨((k + 1, v1, rows ++ [row.set ((k : Int) + 1).toNat 1])), Kg, Kh, ?_, ?_⟩
        · exact ⟨Kd, Rdr.le Kd Ka, Ka, Kd, by simp [hrl], hrs _ (by simp [hrow])⟩
        · simp only; omega
      · refine ⟨((k + 1, v1, rows ++ [row])), Kg, Kh, ?_, ?_⟩
        · exact ⟨Kd, Rdr.le Kd Ka, Ka, Kd, by simp [hrl], hrs _ hrow⟩
        · simp only; omega
      · refine ⟨((k + 1, v1, rows ++ [row])), Kg, Kh, ?_, ?_⟩
        · exact ⟨Kd, Rdr.le Kd Ka, Ka, Kd, by simp [hrl], hrs _ hrow⟩
        · simp only; omega
  · obtain rfl : k = 1 + y1 := by omega
    obtain ⟨ub, uc, rfl, _⟩ := hO4.lit Ka
    have hub := hO4.lt_own (k := ub) rfl
    have hrow := hrr rows[0] (List.getElem_mem Ka)
    obtain ⟨brw, crw, hRow, hbw1, hbw2⟩ := hO4.rowAt (i := 0) Ka Ka
    focus
      refine Gt<|Gs<|Gz rfl<|Gz rfl<|Zo rfl<|Gm<|Gq rfl (fun h1 => ?_) (fun h1 => ?_); (exfalso; omega); refine Ve ?_; refine Zi ?_; refine Gt<|Gs<|Xx rfl<|Gz rfl<|Gu rfl (Vb (a := .pointer _) (b := .int _ _) Tryz.call76 rfl rfl) (odd_ok _ _ Kd Ka Ka) ?_; rintro _ w5 ⟨y3, rfl, E5, hr3, hy3⟩; (try dsimp only at hy3); have hG4 := Ze hG4 E5; have hO4 := hO4.toB.grown E5 Ka; have hRow := hRow.grown E5 (by simp [Value.ownBlock]; omega); have hs4 := E5.size; refine Gm<|Vv rfl (fun h2 => ?_) (fun h2 => ?_); refine Gs<|Xx rfl<|Gu rfl (Vb (a := .pointer _) (b := .int _ _) Jc rfl rfl) (Vu _ _ Kd Ka) ?_; rintro _ w6 ⟨y4, rfl, E6, hr5, hy4⟩; (try dsimp only at hy4); have Ehr5 := hr5.old
      have hG4 := Ze hG4 E6; have hO4 := hO4.grown E6 Ka; have hRow := hRow.grown E6 (by simp [Value.ownBlock]; omega); have hs5 := E6.size; refine Gm<|Gy<|Gs<|Zs rfl<|Zc rfl<|Gm<|Gq rfl (fun h3 => ?_) (fun h3 => ?_); refine Gs<|Yb (XSl 3 XInt) rfl Ui Kv ?_; rintro b2 w7 hb2 b2lt E7 hO2; have hr5 := hr5.ext E7; have hG4 := Zb hG4 E7; refine Vr rfl<|Gm<|Zd ?_; refine Zk (v := .slice _ _ _) rfl ?_; rotate_left; refine Gs<|Zs rfl<|Zc rfl<|Gm<|Gq rfl (fun h4 => ?_) (fun h4 => ?_); refine Zl<|Xj rfl<|Rq Kq Kv Ja rfl (fun _ => rfl) rfl ⟨_, _, rfl⟩ rfl hRow Kf ?_; rintro _
      refine Wo rfl (Zu (k := 0) Kn Kl rfl rfl Ka) ?_; refine Qm rfl Kl rfl rfl hO4 hRow Kf Kf ?_; rintro w7 hO4 hRow On1 K1 hz1; have E7 := On1.ext1 Ehr5 Ka; have hr5 := hr5.wrote E7 (K1 _ Ka) hz1; have hG4 := Zf hG4 Ehr5 E7 K1 hz1 (by first | exact .inr rfl | omega); refine Gm<|Gs<|Xj rfl<|Vr rfl<|Gm<|Zd ?_; refine Zk (v := .slice _ _ _) rfl ?_; rotate_left; refine Zl<|Xj rfl<|Xj rfl<|Rq Kq Kv Ja rfl (fun _ => rfl) rfl ⟨_, _, rfl⟩ rfl hRow Kf ?_; rintro _
      refine Zw (ps := [(0, .int _ _)]) (cs := [_]) rfl Kn Kl Jg rfl rfl rfl rfl ?_; rintro b2 w7 hb2 E7 hB1 hHb2; have hlb2 := hB1.lt; have hr5 := hr5.ext E7; have hG4 := Zb hG4 E7; rotate_left; refine Gx<|Gs<|Xj rfl<|Vr rfl<|Gm<|Zd ?_; refine Zk (v := .slice _ _ _) rfl ?_; rotate_left
    · exact ⟨Kd, Rdr.le Kd Ka, [], Owned.mono Kd Ka, Ki⟩
    · refine ⟨Kd, Rdr.le Kd Ka, _, Kd, by simp; omega, fun r hr9 => ?_⟩
      rcases List.mem_or_eq_of_mem_set hr9 with h | h
      · have := hrr r h; omega
      · rw [h]; simp; omega
    · have hO7 := hO4.ext (show Ext w6 w7 by assumption)
      have hR7 := hRow.ext (show Ext w6 w7 by assumption)
      obtain ⟨hme, hRO⟩ := hO7.rowOwn hR7 Ka
      focus
        refine Yf rfl Ug rfl rfl hB1 hRO Owned.int (Nat.le_refl _) Kf Ka Ka (Ehr5.trans E7) Ka ?_; have hT1 := hRO; rintro v1 w8 hRO E8 M1; have hr5 := hr5.moves E8 M1 hT1 Ka; have hG4 := Rp hG4 M1 hT1 Ka; refine Wo rfl (Zu (k := 0) Kq Kv rfl rfl Ka) ?_
      obtain ⟨q1, q2, ⟨q3, q4⟩, q5⟩ := hO7.rowBack hR7 Ka (show Moves w7 (.slice (some ⟨brw, 0, none⟩) rows[0].length crw) w8 v1 from M1) hRO Ka
      refine Td (w' := w8.setCell ⟨ub, 0, none⟩ v1) rfl (ops_store Kv rfl rfl q2 q4 q5) ?_
      have E9 : Ext w0 (w8.setCell ⟨ub, 0, none⟩ v1) := E8.setCell Kj v1
      have hr9 := hr5.wrote E9 (Hs.heap_setCell_other v1 (show br ≠ ub by omega)) (size_setCell _ _)
      have hG9 := Zf (b := ub) hG4 E8 E9 (fun k hk => Hs.heap_setCell_other v1 hk) (size_setCell _ _) (.inl hub.1)
      generalize w8.setCell ⟨ub, 0, none⟩ v1 = w9 at q1 hr9 hG9 E9
      focus
        refine Gm<|Gs<|Xj rfl<|Vr rfl<|Gm<|Zd ?_; refine Zk (v := .slice _ _ _) rfl ?_
      refine ⟨hG9, hr9.le Ka, _, q1, by simp; omega, fun r hr' => ?_⟩
      rcases List.mem_or_eq_of_mem_set hr' with h | h
      · have := hrr r h; omega
      · rw [h]; simp; omega
    · refine ⟨Kd, Rdr.le Kd Ka, _, OwnedB.o Kd, Ka, fun r hr9 => ?_⟩
      have := hrr r hr9; omega
end Go.Proofs.YtbgpppaljpngmaaGreatDoor
namespace Go.Proofs.YtbgpppaljpngmaaGreatDoor
open Go.Hs
set_option maxRecDepth 10000
set_option maxHeartbeats 4000000
set_option linter.unusedVariables false
set_option linter.unusedSimpArgs false
theorem Twin_ok {w0 : World} (w : World) {br m : Nat} (n : Int) (hr : Rdr w0 w br m) (hm : m ≤ 10000000) (hn : 0 ≤ n ∧ n ≤ 1000) :
    Does Tryz.prog 105 [.pointer (some ⟨br, 0, none⟩), .int .i64 n] w (RetDO w0 w br (m + 63) XR (fun p => p.length ≤ 5 ∧ ∀ r ∈ p, r.length ≤ 6)) := by
  refine Zy Tryz.func105 rfl Tryz.results105 Tryz.ntmps105 rfl ?_
  have hG : w.grownBy w (some br) := Xy _ _
  have hlr := hr.lt
  have hgr := hr.ge
  focus
    refine Gs<|Vr rfl<|Gm<|Gs<|Xx rfl<|Gz rfl<|Gu rfl (Vb (a := .pointer _) (b := .int _ _) Tryz.call151 rfl rfl) (Picture_ok _ _ Kd Ka Kd) ?_; rintro u1 w1 ⟨E1, hr1, x1, hO1, hy1⟩; (try dsimp only at hy1); have hG := Ze hG E1; refine Vn u1 rfl<|Gm<|Gt<|Gt<|Zl<|Zh u1 rfl ?_
  by_cases hp : Pic x1
  · have hk : ∀ w u, ESl Ints w u x1 → Does Tryz.prog 115 [u] w (Ret w (.bool true)) := fun w u h => by
      have := Xi w u x1 h
      rw [decide_eq_true hp] at this; exact this
    focus
      refine Gu rfl (Vh (a := u1) Js rfl) (hk _ _ ((Owned.read hO1))) ?_; rintro _ w2 ⟨rfl, E2⟩; have hr1 := hr1.ext E2; have hG := Zb hG E2; refine Vq rfl<|Zh u1 rfl<|Zm Kq rfl (Owned.read hO1)<|Yt rfl<|Vw rfl<|Zp rfl (fun h1 => ?_) (fun h1 => ?_); refine Xx rfl<|Gu rfl (Vb (a := .pointer _) (b := .int _ _) Jc rfl rfl) (Vu _ _ Kd Ka) ?_; rintro _ w3 ⟨y1, rfl, E3, hr2, hy2⟩; (try dsimp only at hy2); have hO1 := (hO1.toB.ext E2).grown E3 Ka; have hG := Ze hG E3; refine Zs rfl<|Vw rfl<|Gm<|Gq rfl (fun h2 => ?_) (fun h2 => ?_); refine Gs<|Xx rfl<|Zh u1 rfl ?_
      refine Zm Kq rfl (OwnedB.read hO1)<|Gu rfl (Vb (a := .pointer _) (b := .int _ _) Jc rfl rfl) (Vu _ _ Kd Ka) ?_; rintro _ w4 ⟨y2, rfl, E4, hr3, hy3⟩; (try dsimp only at hy3); have hO1 := hO1.grown E4 Ka; have hG := Ze hG E4; refine Zr rfl<|Gm<|Gs<|Xx rfl<|Zh u1 rfl<|Zm Kq rfl (OwnedB.read hO1)<|Gu rfl (Vb (a := .pointer _) (b := .int _ _) Jc rfl rfl) (Vu _ _ Kd Ka) ?_; rintro _ w5 ⟨y3, rfl, E5, hr4, hy4⟩; (try dsimp only at hy4); have hO1 := hO1.grown E5 Ka; have hG := Ze hG E5; refine Zr rfl<|Gm<|Gs<|Zr rfl<|Gm<|Gy ?_; rotate_left; refine Gx<|Gs<|Zh u1 rfl ?_
      refine Vn u1 rfl<|Gm<|Zd ?_; refine Zk (v := u1) rfl ?_; rotate_left; refine Gn rfl<|Gn rfl<|Gn rfl<|Vc rfl<|Gm<|Za rfl ?_; refine Gx<|Gs<|Zh u1 rfl<|Vn u1 rfl<|Gm<|Zd ?_; refine Zk (v := u1) rfl ?_; rotate_left
    · have hy3' := hy3 Ka
      have hy4' := hy4 Ka
      have hlen : ∀ r ∈ x1, r.length = x1.length := fun r hr => (hp.2.2 r hr).1
      clear hp hk
      refine Vf [8, 32, 33, 34, 35, 36, 37, 38, 39, 40, 41, 42, 43, 44, 45, 46, 47, 48, 49, 50] (fun (j, rows) => [(8, .int .i64 (j : Nat))]) (fun (j, rows) w' => w.grownBy w' (some br) ∧ Rdr w0 w' br (m + 63) ∧ j ≤ x1.length ∧ Owned w.heap.size XR w' u1 rows ∧ rows.length = x1.length ∧ ∀ r ∈ rows, r.length = x1.length) (fun x => x1.length - x.1) (0, x1) Kg ?_ ?_
      · exact ⟨hG, hr4, Nat.zero_le _, hO1.o, rfl, hlen⟩
      rintro ⟨j, rows⟩ ρj w6 ⟨hG6, hr6, hj, hO6, hrl, hrr⟩
      have E6 := hr6.old
      by_cases hlt : j < x1.length
      · obtain ⟨ub, uc, rfl, _⟩ := hO6.lit Ka
        have hrb := hrr rows[y3] (List.getElem_mem Ka)
        have hra := hrr rows[y2] (List.getElem_mem Ka)
        have hset : ∀ r' : List Int, r'.length = x1.length → ∀ r ∈ rows.set y3 r', r.length = x1.length := by
          intro r' h9 r hr9
          rcases List.mem_or_eq_of_mem_set hr9 with h | h
          · exact hrr r h
          · rw [h]; exact h9
        focus
          refine Gt<|Gs<|Gz rfl<|Xj rfl<|Zm Kq rfl (Owned.read hO6)<|Zo rfl<|Gm<|Gq rfl (fun h3 => ?_) (fun h3 => ?_); refine Gx<|Gt<|Gy<|Qb (fun _ => True) Yn rfl Kb ?_; intro w7 E7 K1 hz1; have hG6 := Zb hG6 E7; have hr6 := hr6.ext E7; refine WtmS 0 rfl rfl trivial<|WtmI 1 rfl rfl trivial<|Zj 2 rfl Kb Kb rfl (fun _ _ => Zu Kq Kv rfl rfl Ka) trivial ?_; refine WtmI 4 rfl rfl trivial<|WtmS 5 rfl rfl trivial<|WtmI 6 rfl rfl trivial<|Zj 7 rfl Kb Kb rfl (fun _ _ => Zu Kq Kv rfl rfl Ka) trivial ?_; refine WtmI 9 rfl rfl trivial<|Wha [3, 8]<|Gp rfl ?_ ?_; rotate_left
          refine Gp rfl ?_ ?_; rotate_left; exact Gv; (exfalso; omega)
        all_goals
          have hO7 := hO6.ext E7
          obtain ⟨bra, cra, hRa, ha1, ha2, ha3, ha4⟩ := rowCell hO7 (i := y2) (j := j) Ka Ka
          obtain ⟨brb, crb, hRb, hb1, hb2, hb3, hb4⟩ := rowCell hO7 (i := y3) (j := j) Ka Ka
        · focus
            refine Wo rfl (Zv Ja rfl Kd) ?_; refine Gm ?_; refine ⟨trivial, ?_⟩; refine Wha [8]<|Gp rfl ?_ ?_; refine Wo rfl (Zv Ja rfl Kd) ?_; refine Gm ?_; refine ⟨trivial, ?_⟩; refine Zj 10 rfl Kb Kb rfl (fun _ _ => Zu Kn Kl rfl rfl Ka) trivial ?_; refine Wha [11]<|Gp rfl ?_ ?_; refine Wo rfl (Zv Km rfl Kd) ?_; refine Gm ?_; refine ⟨trivial, ?_⟩; refine Zj 12 rfl Kb Kb rfl (fun _ _ => Zu Kn Kl rfl rfl Ka) trivial ?_; refine Wha [13]<|Gp rfl ?_ ?_
            refine Qm rfl Kl rfl rfl (hO6.toB.ext E7) hRb Kf Kf ?_; rintro w8 hO6 hRb On1 K2 hz2; have E8 := On1.ext1 (E6.trans E7) Ka; have hG6 := Zf hG6 (E6.trans E7) E8 K2 hz2 (by first | exact .inr rfl | omega); have hr6 := hr6.wrote E8 (K2 _ Ka) hz2; refine Gm ?_; refine ⟨trivial, ?_⟩; refine Vd Kb ?_; refine Zl<|Gz rfl<|Va rfl<|Zr rfl<|Gm ?_; rotate_left; exact Gv; exact Gv; exact Gv
          refine ⟨((j + 1, rows.set y3 (rows[y3].set j rows[y2][j]))), Kg, Kh, ?_, ?_⟩
          · exact ⟨hG6, hr6, Ka, hO6, by simp [hrl], hset _ (by simp [hrb])⟩
          · simp only; omega
        · focus
            refine Wo rfl (Zv Ja rfl Kd) ?_; refine Gm ?_; refine ⟨trivial, ?_⟩; refine Zj 10 rfl Kb Kb rfl (fun _ _ => Zu Kn Kl rfl rfl Ka) trivial ?_; refine Wha [3, 11]<|Gp rfl ?_ ?_; refine Wo rfl (Zv Ja rfl Kd) ?_; refine Gm ?_; refine ⟨trivial, ?_⟩; refine Wha [11]<|Gp rfl ?_ ?_; refine Wo rfl (Zv Km rfl Kd) ?_; refine Gm ?_; refine ⟨trivial, ?_⟩; refine Zj 12 rfl Kb Kb rfl (fun _ _ => Zu Kn Kl rfl rfl Ka) trivial ?_; refine Wha [13]<|Gp rfl ?_ ?_
            refine Qm rfl Kl rfl rfl (hO6.toB.ext E7) hRb Kf Kf ?_; rintro w8 hO6 hRb On1 K2 hz2; have E8 := On1.ext1 (E6.trans E7) Ka; have hG6 := Zf hG6 (E6.trans E7) E8 K2 hz2 (by first | exact .inr rfl | omega); have hr6 := hr6.wrote E8 (K2 _ Ka) hz2; refine Gm ?_; refine ⟨trivial, ?_⟩; refine Vd Kb ?_; refine Zl<|Gz rfl<|Va rfl<|Zr rfl<|Gm ?_; rotate_left; exact Gv; exact Gv; refine Gp rfl ?_ ?_; refine Wo rfl (Zv Km rfl Kd) ?_; refine Gm ?_; refine ⟨trivial, ?_⟩; refine Wha [3]<|Gp rfl ?_ ?_; refine Wo rfl (Zv Ja rfl Kd) ?_; refine Gm ?_; refine ⟨trivial, ?_⟩
            refine Zj 12 rfl Kb Kb rfl (fun _ _ => Zu Kn Kl rfl rfl Ka) trivial ?_; refine Wha [13]<|Gp rfl ?_ ?_; refine Qm rfl Kl rfl rfl (hO6.toB.ext E7) hRb Kf Kf ?_; rintro w8 hO6 hRb On1 K2 hz2; have E8 := On1.ext1 (E6.trans E7) Ka; have hG6 := Zf hG6 (E6.trans E7) E8 K2 hz2 (by first | exact .inr rfl | omega); have hr6 := hr6.wrote E8 (K2 _ Ka) hz2; refine Gm ?_; refine ⟨trivial, ?_⟩; refine Vd Kb ?_; refine Zl<|Gz rfl<|Va rfl<|Zr rfl<|Gm ?_; rotate_left; exact Gv; exact Gv; exact Gv
          · refine ⟨((j + 1, rows.set y3 (rows[y3].set j rows[y2][j]))), Kg, Kh, ?_, ?_⟩
            · exact ⟨hG6, hr6, Ka, hO6, by simp [hrl], hset _ (by simp [hrb])⟩
            · simp only; omega
          · refine ⟨((j + 1, rows.set y3 (rows[y3].set j rows[y2][j]))), Kg, Kh, ?_, ?_⟩
            · exact ⟨hG6, hr6, Ka, hO6, by simp [hrl], hset _ (by simp [hrb])⟩
            · simp only; omega
      · obtain rfl : j = x1.length := by omega
        focus
          refine Gt<|Gs<|Gz rfl<|Zh u1 rfl<|Zm Kq rfl (Owned.read hO6)<|Zo rfl<|Gm<|Gq rfl (fun h3 => ?_) (fun h3 => ?_); (exfalso; omega); refine Ve ?_; refine Zi ?_; refine Gs<|Zh u1 rfl<|Vn u1 rfl<|Gm<|Zd ?_; refine Zk (v := u1) rfl ?_
        exact ⟨hG6, hr6, _, hO6, Ka, fun r h => by have := hrr r h; omega⟩
    · exact ⟨hG, hr2.le Ka, _, hO1.o, hy1⟩
    · exact ⟨hG, hr1.le Ka, _, hO1.ext E2, hy1⟩
  · have hk : ∀ w u, ESl Ints w u x1 → Does Tryz.prog 115 [u] w (Ret w (.bool false)) := fun w u h => by
      have := Xi w u x1 h
      rw [decide_eq_false hp] at this; exact this
    focus
      refine Gu rfl (Vh (a := u1) Js rfl) (hk _ _ ((Owned.read hO1))) ?_; rintro _ w2 ⟨rfl, E2⟩; have hr1 := hr1.ext E2; have hG := Zb hG E2; refine Vq rfl<|Gn rfl<|Gn rfl<|Gn rfl<|Vc rfl<|Vq rfl<|Gn rfl<|Gn rfl<|Gn rfl<|Vc rfl<|Gm<|Za rfl ?_; refine Gx<|Gs<|Zh u1 rfl<|Vn u1 rfl<|Gm<|Zd ?_; refine Zk (v := u1) rfl ?_
    exact ⟨hG, hr1.le Ka, _, hO1.ext E2, hy1⟩
end Go.Proofs.YtbgpppaljpngmaaGreatDoor
