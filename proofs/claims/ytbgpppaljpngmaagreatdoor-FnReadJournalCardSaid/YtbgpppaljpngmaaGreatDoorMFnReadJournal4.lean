/- Lemmas for FnReadJournal. -/
import Derived.Test.YtbgpppaljpngmaaGreatDoorMFnReadJournal3
import Derived.Laws.StructEq
import Derived.Tactics
import Derived.Tactics2
namespace Go.Proofs.YtbgpppaljpngmaaGreatDoor
open Go.Hs
set_option maxRecDepth 10000
set_option maxHeartbeats 4000000
set_option linter.unusedVariables false
set_option linter.unusedSimpArgs false
open Classical in
theorem nextSet_ok (w : World) (hM : EMx gMx w (.bool true) ()) (v : Value) (p : List (List Int)) (h : ESl Ints w v p) (hp : Pic p) (k n : Int) (t : List UInt8) (ht : t.length ≤ 1048576) (hk1 : k = 1 ∨ k = 2 ∨ t = []) (hk2 : k = 3 ∨ n = 0) :
    Does Tryz.prog 138 [v, .agg #[.int .i64 k, str t, .int .i64 n]] w (RetOB w XR (og (madeV p ⟨k, t, n⟩)) (madeV p ⟨k, t, n⟩).isSome) := by
  have hle := h.le
  have hp1 := hp.1
  have hp5 := hp.2.1
  have hN : Nod p (0 : Nat) := ⟨hp, Kc, Ka⟩
  obtain ⟨Q, hQ⟩ : ∃ Q, Q = (rdP t).getD [] := ⟨_, rfl⟩
  obtain ⟨B, hB⟩ : ∃ B, B = (rdP t).isSome := ⟨_, rfl⟩
  obtain ⟨M, hMd⟩ : ∃ M, M = madeV p ⟨k, t, n⟩ := ⟨_, rfl⟩
  rw [← hMd]
  have k0 : ∀ w, EMx gMx w (.bool true) () → Does Tryz.prog 150 [str t] w (RetOB w XR Q B) := fun w hM => hQ ▸ hB ▸ readPicture_ok w t hM ht
  refine Ul Tryz.func138 rfl Tryz.results138 Tryz.ntmps138 rfl ?_
  by_cases e0 : k = 0
  · subst e0
    have et : t = [] := by rcases hk1 with h | h | h; exact absurd h Kc; exact absurd h Kc; exact h
    have en : n = 0 := by rcases hk2 with h | h; exact absurd h Kc; exact h
    subst et en
    have hm : M = pairV p 0 p 0 := hMd.trans (by simp [madeV])
    rw [hm]
    have k1 : ∀ (w : World) (v u : Value), ESl Ints w v p → ESl Ints w u p → Does Tryz.prog 172 [v, .int .i64 0, u, .int .i64 0] w (RetOB w XR (og (pairV p 0 p 0)) (pairV p 0 p 0).isSome) := fun w v u h1 h2 => impl_PairOf_ok w v u p p h1 h2 0 0 hN hN
    focus
      refine Gs<|Vp rfl rfl rfl ?_; rintro b1 w1 hb1 E1 hB1; have hs1 := E1.size; refine Vr rfl<|Zc rfl<|Gm<|Gt<|Gs<|Zg Kp Kl rfl<|Vi Km hB1 rfl<|Gm<|Gy<|Gs<|Zs rfl<|Zc rfl<|Gm<|Gq rfl (fun h1 => ?_) (fun h1 => ?_); refine Gs<|Zh v rfl<|Zh v rfl<|Gu rfl (Tl (a := v) (b := .int _ _) (c := v) (d := .int _ _) Tryz.call172 rfl rfl rfl rfl) (k1 _ _ _ ((Mono.mono E1 h)) ((Mono.mono E1 h))) ?_; rintro _ w2 ⟨u1, rfl, E2, hO1⟩; refine Xo u1 rfl<|Yz rfl<|Vn u1 rfl<|Zc rfl<|Gm<|Zd ?_; refine Zk (v := .tuple #[u1, .bool _]) rfl ?_; exact ⟨_, rfl, exq, hO1.toB.o.mono Ka⟩; contradiction
  by_cases e1 : k = 1
  · subst e1
    have en : n = 0 := by rcases hk2 with h | h; exact absurd h Kc; exact h
    subst en
    have hm : M = (rdP t).bind fun q => (pairV q 0 q 0).bind fun s => togV p 0 s 0 := hMd.trans (by simp only [madeV]; rw [if_neg (fun h => absurd h.1 Kc), if_pos Ki])
    cases hr : rdP t with
    | none =>
      rw [hr] at hm hB hQ
      rw [hm, show og (none.bind fun q => (pairV q 0 q 0).bind fun s => togV p 0 s 0) = [] from rfl, show (none.bind fun q => (pairV q 0 q 0).bind fun s => togV p 0 s 0).isSome = false from rfl]
      rw [hB, show (none : Option (List (List Int))).isSome = false from rfl] at k0
      focus
        refine Gs<|Vp rfl rfl rfl ?_; rintro b1 w1 hb1 E1 hB1; refine Vr rfl<|Zc rfl<|Gm<|Gt<|Gs<|Zg Kp Kl rfl<|Vi Km hB1 rfl<|Gm<|Gy<|Gs<|Zs rfl<|Zc rfl<|Gm<|Gq rfl (fun h1 => ?_) (fun h1 => ?_); contradiction; refine Gs<|Zs rfl<|Zc rfl<|Gm<|Gq rfl (fun h2 => ?_) (fun h2 => ?_); contradiction; refine Gs<|Zs rfl<|Zc rfl<|Gm<|Gq rfl (fun h3 => ?_) (fun h3 => ?_); refine Gs<|Zg Kp Ku rfl<|Xe Kx hB1 rfl<|Gu rfl (Vh (a := .string _) Jw rfl) (k0 _ ((Mono.mono E1 hM))) ?_; rintro _ w2 ⟨u1, rfl, E2, hO1⟩; refine Xf rfl<|Xo u1 rfl<|Yz rfl<|Vn u1 rfl<|Zc rfl<|Gm ?_
        refine Gt<|Gs<|Vq rfl<|Vt rfl<|Gm<|Vv rfl (fun h4 => ?_) (fun h4 => ?_); refine Gt<|Zl<|Vr rfl<|Zc rfl<|Gm<|Zd ?_; refine Zk (v := .tuple #[.slice _ _ _, .bool _]) rfl ?_; exact ⟨_, rfl, exq, Owned.nil⟩; contradiction; contradiction
    | some q =>
      rw [hr] at hm hB hQ
      rw [hB, hQ, show (some q).isSome = true from rfl, show (some q).getD [] = q from rfl] at k0
      have hq := (Sm hr).1
      have hNq : Nod q (0 : Nat) := ⟨hq, Kc, by have := hq.1; omega⟩
      have k1 : ∀ (w : World) (v u : Value), ESl Ints w v q → ESl Ints w u q → Does Tryz.prog 172 [v, .int .i64 0, u, .int .i64 0] w (RetOB w XR (og (pairV q 0 q 0)) (pairV q 0 q 0).isSome) := fun w v u h1 h2 => impl_PairOf_ok w v u q q h1 h2 0 0 hNq hNq
      rw [hm, show ((some q).bind fun q => (pairV q 0 q 0).bind fun s => togV p 0 s 0) = (pairV q 0 q 0).bind fun s => togV p 0 s 0 from rfl]
      cases hs : pairV q 0 q 0 with
      | none =>
        rw [hs] at k1
        rw [show (none.bind fun s => togV p 0 s 0) = none from rfl]
        rw [show og none = [] from rfl, show (none : Option (List (List Int))).isSome = false from rfl] at k1 ⊢
        focus
          refine Gs<|Vp rfl rfl rfl ?_; rintro b1 w1 hb1 E1 hB1; refine Vr rfl<|Zc rfl<|Gm<|Gt<|Gs<|Zg Kp Kl rfl<|Vi Km hB1 rfl<|Gm<|Gy<|Gs<|Zs rfl<|Zc rfl<|Gm<|Gq rfl (fun h1 => ?_) (fun h1 => ?_); contradiction; refine Gs<|Zs rfl<|Zc rfl<|Gm<|Gq rfl (fun h2 => ?_) (fun h2 => ?_); contradiction; refine Gs<|Zs rfl<|Zc rfl<|Gm<|Gq rfl (fun h3 => ?_) (fun h3 => ?_); refine Gs<|Zg Kp Ku rfl<|Xe Kx hB1 rfl<|Gu rfl (Vh (a := .string _) Jw rfl) (k0 _ ((Mono.mono E1 hM))) ?_; rintro _ w2 ⟨u1, rfl, E2, hO1⟩; refine Xf rfl<|Xo u1 rfl<|Yz rfl<|Vn u1 rfl<|Zc rfl<|Gm ?_
          refine Gt<|Gs<|Vq rfl<|Vt rfl<|Gm<|Vv rfl (fun h4 => ?_) (fun h4 => ?_); contradiction; refine Gx<|Gs<|Zh u1 rfl<|Zh u1 rfl<|Gu rfl (Tl (a := u1) (b := .int _ _) (c := u1) (d := .int _ _) Tryz.call172 rfl rfl rfl rfl) (k1 _ _ _ ((Owned.read hO1)) ((Owned.read hO1))) ?_; rintro _ w3 ⟨u2, rfl, E3, hO2⟩; refine Xf rfl<|Xo u2 rfl<|Yz rfl<|Vn u2 rfl<|Zc rfl<|Gm<|Gt<|Gs<|Vq rfl<|Vt rfl<|Gm<|Vv rfl (fun h5 => ?_) (fun h5 => ?_); refine Gs<|Vr rfl<|Zc rfl<|Gm<|Zd ?_; refine Zk (v := .tuple #[.slice _ _ _, .bool _]) rfl ?_; exact ⟨_, rfl, exq, Owned.nil⟩; contradiction; contradiction
      | some s =>
        rw [hs] at k1
        rw [show ((some s).bind fun s => togV p 0 s 0) = togV p 0 s 0 from rfl]
        rw [show og (some s) = s from rfl, show (some s).isSome = true from rfl] at k1
        have hsp := (Tj hq hq hs).1
        have hNs : Nod s (0 : Nat) := ⟨hsp, Kc, by have := hsp.1; omega⟩
        have k2 : ∀ (w : World) (v u : Value), ESl Ints w v p → ESl Ints w u s → Does Tryz.prog 173 [v, .int .i64 0, u, .int .i64 0] w (RetOB w XR (og (togV p 0 s 0)) (togV p 0 s 0).isSome) := fun w v u h1 h2 => impl_TogetherOf_ok w v u p s h1 h2 0 0 hN hNs
        focus
          refine Gs<|Vp rfl rfl rfl ?_; rintro b1 w1 hb1 E1 hB1; have hlb1 := hB1.lt; refine Vr rfl<|Zc rfl<|Gm<|Gt<|Gs<|Zg Kp Kl rfl<|Vi Km hB1 rfl<|Gm<|Gy<|Gs<|Zs rfl<|Zc rfl<|Gm<|Gq rfl (fun h1 => ?_) (fun h1 => ?_); contradiction; refine Gs<|Zs rfl<|Zc rfl<|Gm<|Gq rfl (fun h2 => ?_) (fun h2 => ?_); contradiction; refine Gs<|Zs rfl<|Zc rfl<|Gm<|Gq rfl (fun h3 => ?_) (fun h3 => ?_); refine Gs<|Zg Kp Ku rfl<|Xe Kx hB1 rfl<|Gu rfl (Vh (a := .string _) Jw rfl) (k0 _ ((Mono.mono E1 hM))) ?_; rintro _ w2 ⟨u1, rfl, E2, hO1⟩; have hs2 := E2.size; refine Xf rfl ?_
          refine Xo u1 rfl<|Yz rfl<|Vn u1 rfl<|Zc rfl<|Gm<|Gt<|Gs<|Vq rfl<|Vt rfl<|Gm<|Vv rfl (fun h4 => ?_) (fun h4 => ?_); contradiction; refine Gx<|Gs<|Zh u1 rfl<|Zh u1 rfl<|Gu rfl (Tl (a := u1) (b := .int _ _) (c := u1) (d := .int _ _) Tryz.call172 rfl rfl rfl rfl) (k1 _ _ _ ((Owned.read hO1)) ((Owned.read hO1))) ?_; rintro _ w3 ⟨u2, rfl, E3, hO2⟩; have hs3 := E3.size; refine Xf rfl<|Xo u2 rfl<|Yz rfl<|Vn u2 rfl<|Zc rfl<|Gm<|Gt<|Gs<|Vq rfl<|Vt rfl<|Gm<|Vv rfl (fun h5 => ?_) (fun h5 => ?_); contradiction; refine Gx<|Gs<|Zh v rfl<|Zh u2 rfl<|Gu rfl (Tl (a := v) (b := .int _ _) (c := u2) (d := .int _ _) Tryz.call173 rfl rfl rfl rfl) (k2 _ _ _ ((Mono.mono exq h)) ((Owned.read hO2))) ?_; rintro _ w4 ⟨u3, rfl, E4, hO3⟩
          refine Xo u3 rfl<|Yz rfl<|Vn u3 rfl<|Zc rfl<|Gm<|Zd ?_; refine Zk (v := .tuple #[u3, .bool _]) rfl ?_; exact ⟨_, rfl, exq, hO3.toB.o.mono Ka⟩; contradiction
  by_cases e2 : k = 2
  · subst e2
    have en : n = 0 := by rcases hk2 with h | h; exact absurd h Kc; exact h
    subst en
    have hm : M = (rdP t).bind fun q => wosV p 0 q 0 := hMd.trans (by simp only [madeV]; rw [if_neg (fun h => absurd h.1 Kc), if_neg (fun h => absurd h.1 Kc), if_pos Ki])
    cases hr : rdP t with
    | none =>
      rw [hr] at hm hB hQ
      rw [hm, show og (none.bind fun q => wosV p 0 q 0) = [] from rfl, show (none.bind fun q => wosV p 0 q 0).isSome = false from rfl]
      rw [hB, show (none : Option (List (List Int))).isSome = false from rfl] at k0
      focus
        refine Gs<|Vp rfl rfl rfl ?_; rintro b1 w1 hb1 E1 hB1; refine Vr rfl<|Zc rfl<|Gm<|Gt<|Gs<|Zg Kp Kl rfl<|Vi Km hB1 rfl<|Gm<|Gy<|Gs<|Zs rfl<|Zc rfl<|Gm<|Gq rfl (fun h1 => ?_) (fun h1 => ?_); contradiction; refine Gs<|Zs rfl<|Zc rfl<|Gm<|Gq rfl (fun h2 => ?_) (fun h2 => ?_); contradiction; refine Gs<|Zs rfl<|Zc rfl<|Gm<|Gq rfl (fun h3 => ?_) (fun h3 => ?_); contradiction; refine Gs<|Zs rfl<|Zc rfl<|Gm<|Gq rfl (fun h4 => ?_) (fun h4 => ?_); refine Gs<|Zg Kp Ku rfl<|Xe Kx hB1 rfl ?_
        refine Gu rfl (Vh (a := .string _) Jw rfl) (k0 _ ((Mono.mono E1 hM))) ?_; rintro _ w2 ⟨u1, rfl, E2, hO1⟩; refine Xf rfl<|Xo u1 rfl<|Yz rfl<|Vn u1 rfl<|Zc rfl<|Gm<|Gt<|Gs<|Vq rfl<|Vt rfl<|Gm<|Vv rfl (fun h5 => ?_) (fun h5 => ?_); refine Gt<|Zl<|Vr rfl<|Zc rfl<|Gm<|Zd ?_; refine Zk (v := .tuple #[.slice _ _ _, .bool _]) rfl ?_; exact ⟨_, rfl, exq, Owned.nil⟩; contradiction; contradiction
    | some q =>
      rw [hr] at hm hB hQ
      rw [hB, hQ, show (some q).isSome = true from rfl, show (some q).getD [] = q from rfl] at k0
      have hq := (Sm hr).1
      have hNq : Nod q (0 : Nat) := ⟨hq, Kc, by have := hq.1; omega⟩
      have k1 : ∀ (w : World) (v u : Value), ESl Ints w v p → ESl Ints w u q → Does Tryz.prog 174 [v, .int .i64 0, u, .int .i64 0] w (RetOB w XR (og (wosV p 0 q 0)) (wosV p 0 q 0).isSome) := fun w v u h1 h2 => impl_WithoutSet_ok w v u p q h1 h2 0 0 hN hNq
      rw [hm, show ((some q).bind fun q => wosV p 0 q 0) = wosV p 0 q 0 from rfl]
      focus
        refine Gs<|Vp rfl rfl rfl ?_; rintro b1 w1 hb1 E1 hB1; have hlb1 := hB1.lt; refine Vr rfl<|Zc rfl<|Gm<|Gt<|Gs<|Zg Kp Kl rfl<|Vi Km hB1 rfl<|Gm<|Gy<|Gs<|Zs rfl<|Zc rfl<|Gm<|Gq rfl (fun h1 => ?_) (fun h1 => ?_); contradiction; refine Gs<|Zs rfl<|Zc rfl<|Gm<|Gq rfl (fun h2 => ?_) (fun h2 => ?_); contradiction; refine Gs<|Zs rfl<|Zc rfl<|Gm<|Gq rfl (fun h3 => ?_) (fun h3 => ?_); contradiction; refine Gs<|Zs rfl<|Zc rfl<|Gm<|Gq rfl (fun h4 => ?_) (fun h4 => ?_); refine Gs<|Zg Kp Ku rfl<|Xe Kx hB1 rfl ?_
        refine Gu rfl (Vh (a := .string _) Jw rfl) (k0 _ ((Mono.mono E1 hM))) ?_; rintro _ w2 ⟨u1, rfl, E2, hO1⟩; have hs2 := E2.size; refine Xf rfl<|Xo u1 rfl<|Yz rfl<|Vn u1 rfl<|Zc rfl<|Gm<|Gt<|Gs<|Vq rfl<|Vt rfl<|Gm<|Vv rfl (fun h5 => ?_) (fun h5 => ?_); contradiction; refine Gx<|Gs<|Zh v rfl<|Zh u1 rfl<|Gu rfl (Tl (a := v) (b := .int _ _) (c := u1) (d := .int _ _) Tryz.call174 rfl rfl rfl rfl) (k1 _ _ _ ((Mono.mono exq h)) ((Owned.read hO1))) ?_; rintro _ w3 ⟨u2, rfl, E3, hO2⟩; refine Xo u2 rfl<|Yz rfl<|Vn u2 rfl<|Zc rfl<|Gm<|Zd ?_; refine Zk (v := .tuple #[u2, .bool _]) rfl ?_; exact ⟨_, rfl, exq, hO2.toB.o.mono Ka⟩; contradiction
  by_cases e3 : k = 3
  · subst e3
    have et : t = [] := by rcases hk1 with h | h | h; exact absurd h Kc; exact absurd h Kc; exact h
    subst et
    by_cases en : Nod p n
    · have k2 : ∀ (w : World) (v : Value), ESl Ints w v p → Does Tryz.prog 94 [v, .int .i64 n] w (Ret w (.bool true)) := fun w v h => by
        have := Qh w v p h n; rwa [decide_eq_true en] at this
      have hrow : p[0].length = p.length := hp.row hp1
      have en2 := en.2
      obtain ⟨i, rfl⟩ : ∃ i : Nat, n = i := ⟨n.toNat, Ka⟩
      have hil : i < p.length := Ka
      have hbit : bit p 0 i = p[0][i] := by unfold bit; rw [Vg hp1, Vg (show i < p[0].length by omega)]
      have h01 : p[0][i] = 0 ∨ p[0][i] = 1 := (hp.2.2 _ (List.getElem_mem hp1)).2 _ (List.getElem_mem Ka)
      by_cases eb : p[0][i] = 1
      · have hm : M = some (lst p i) := hMd.trans (by simp only [madeV]; rw [if_neg (fun h => absurd h.1 Kc), if_neg (fun h => absurd h.1 Kc), if_neg (fun h => absurd h.1 Kc), if_pos ⟨trivial, trivial, Ka, Ka, by rw [Int.toNat_natCast, hbit, eb]⟩, Int.toNat_natCast])
        have hl := lst_pic hp (a := i) hil
        have k3 : ∀ (w : World) (v : Value), ESl Ints w v p → Does Tryz.prog 153 [v, .int .i64 (i : Int)] w (RetOB w XR (lst p i) true) := fun w v h => by
          have := leastOf_ok w v p h hp.gr i hil
          rwa [if_pos hl.2.1, decide_eq_true hl.2.1] at this
        have eb0 : ¬ p[0][i] = 0 := by rw [eb]; decide
        rw [hm, show og (some (lst p i)) = lst p i from rfl, show (some (lst p i)).isSome = true from rfl]
        focus
          refine Gs<|Vp rfl rfl rfl ?_; rintro b1 w1 hb1 E1 hB1; have hlb1 := hB1.lt; refine Vr rfl<|Zc rfl<|Gm<|Gt<|Gs<|Zg Kp Kl rfl<|Vi Km hB1 rfl<|Gm<|Gy<|Gs<|Zs rfl<|Zc rfl<|Gm<|Gq rfl (fun h1 => ?_) (fun h1 => ?_); contradiction; refine Gs<|Zs rfl<|Zc rfl<|Gm<|Gq rfl (fun h2 => ?_) (fun h2 => ?_); refine Gt<|Gt<|Yr Yn Kb rfl ?_; refine Um v rfl<|Xp Kp Kl rfl<|Ya (v := .int _ _) rfl (fun w' hw' => Zv Km rfl ((hB1.ext hw').cell rfl)) ?_; refine Yy rfl (fun _ _ => Vb (a := v) (b := .int _ _) Gd rfl rfl) (fun w' hw' => (k2 _ _ ((Mono.mono exq h)))) ?_; refine Rx rfl ?_
          refine Uf rfl (fun _ _ => Zt (v := .bool _) rfl) (fun h3 => ?_) (fun h3 => ?_); contradiction; refine Um v rfl<|Xk (k := 0) Kq Kv Ja rfl (fun _ => rfl) rfl h E1 rfl Kf ?_; rintro _ u1 hu1; refine Xp Kp Kl rfl<|Ya (v := .int _ _) rfl (fun w' hw' => Zv Km rfl ((hB1.ext hw').cell rfl)) ?_; refine Xk Kn Kl Km rfl (fun _ => rfl) rfl hu1 E1 rfl Kf ?_; rintro _ _ rfl; refine Us rfl<|Un rfl<|Yp (fun w2 E2 => ?_); have hs2 := E2.size; refine Gq rfl (fun h4 => ?_) (fun h4 => ?_); contradiction; refine Gx<|Gt<|Zl<|Zh v rfl<|Zg Kp Kl rfl<|Vi Km (hB1.ext E2) rfl ?_
          refine Gu rfl (Vb (a := v) (b := .int _ _) Tryz.call153 rfl rfl) (k3 _ _ ((Mono.mono exq h))) ?_; rintro _ w3 ⟨u2, rfl, E3, hO1⟩; refine Xo u2 rfl<|Yz rfl<|Vn u2 rfl<|Zc rfl<|Gm<|Zd ?_; refine Zk (v := .tuple #[u2, .bool _]) rfl ?_; exact ⟨_, rfl, exq, hO1.toB.o.mono Ka⟩; contradiction
      · have eb0 : p[0][i] = 0 := by omega
        have hm : M = none := hMd.trans (by simp only [madeV]; rw [if_neg (fun h => absurd h.1 Kc), if_neg (fun h => absurd h.1 Kc), if_neg (fun h => absurd h.1 Kc), if_neg (fun h => eb (by have := h.2.2.2.2; rwa [Int.toNat_natCast, hbit] at this))])
        rw [hm, show og none = [] from rfl, show (none : Option (List (List Int))).isSome = false from rfl]
        focus
          refine Gs<|Vp rfl rfl rfl ?_; rintro b1 w1 hb1 E1 hB1; refine Vr rfl<|Zc rfl<|Gm<|Gt<|Gs<|Zg Kp Kl rfl<|Vi Km hB1 rfl<|Gm<|Gy<|Gs<|Zs rfl<|Zc rfl<|Gm<|Gq rfl (fun h1 => ?_) (fun h1 => ?_); contradiction; refine Gs<|Zs rfl<|Zc rfl<|Gm<|Gq rfl (fun h2 => ?_) (fun h2 => ?_); refine Gt<|Gt<|Yr Yn Kb rfl ?_; refine Um v rfl<|Xp Kp Kl rfl<|Ya (v := .int _ _) rfl (fun w' hw' => Zv Km rfl ((hB1.ext hw').cell rfl)) ?_; refine Yy rfl (fun _ _ => Vb (a := v) (b := .int _ _) Gd rfl rfl) (fun w' hw' => (k2 _ _ ((Mono.mono exq h)))) ?_; refine Rx rfl ?_
          refine Uf rfl (fun _ _ => Zt (v := .bool _) rfl) (fun h3 => ?_) (fun h3 => ?_); contradiction; refine Um v rfl<|Xk (k := 0) Kq Kv Ja rfl (fun _ => rfl) rfl h E1 rfl Kf ?_; rintro _ u1 hu1; refine Xp Kp Kl rfl<|Ya (v := .int _ _) rfl (fun w' hw' => Zv Km rfl ((hB1.ext hw').cell rfl)) ?_; refine Xk Kn Kl Km rfl (fun _ => rfl) rfl hu1 E1 rfl Kf ?_; rintro _ _ rfl; refine Us rfl<|Un rfl<|Yp (fun w2 E2 => ?_); refine Gq rfl (fun h4 => ?_) (fun h4 => ?_); refine Gs<|Vr rfl<|Zc rfl<|Gm<|Zd ?_; refine Zk (v := .tuple #[.slice _ _ _, .bool _]) rfl ?_; exact ⟨_, rfl, exq, Owned.nil⟩; contradiction; contradiction
    · have k2 : ∀ (w : World) (v : Value), ESl Ints w v p → Does Tryz.prog 94 [v, .int .i64 n] w (Ret w (.bool false)) := fun w v h => by
        have := Qh w v p h n; rwa [decide_eq_false en] at this
      have hm : M = none := hMd.trans (by simp only [madeV]; rw [if_neg (fun h => absurd h.1 Kc), if_neg (fun h => absurd h.1 Kc), if_neg (fun h => absurd h.1 Kc), if_neg (fun h => en ⟨hp, h.2.2.1, by have := h.2.2.2.1; omega⟩)])
      rw [hm, show og none = [] from rfl, show (none : Option (List (List Int))).isSome = false from rfl]
      focus
        refine Gs<|Vp rfl rfl rfl ?_; rintro b1 w1 hb1 E1 hB1; refine Vr rfl<|Zc rfl<|Gm<|Gt<|Gs<|Zg Kp Kl rfl<|Vi Km hB1 rfl<|Gm<|Gy<|Gs<|Zs rfl<|Zc rfl<|Gm<|Gq rfl (fun h1 => ?_) (fun h1 => ?_); contradiction; refine Gs<|Zs rfl<|Zc rfl<|Gm<|Gq rfl (fun h2 => ?_) (fun h2 => ?_); refine Gt<|Gt<|Yr Yn Kb rfl ?_; refine Um v rfl<|Xp Kp Kl rfl<|Ya (v := .int _ _) rfl (fun w' hw' => Zv Km rfl ((hB1.ext hw').cell rfl)) ?_; refine Yy rfl (fun _ _ => Vb (a := v) (b := .int _ _) Gd rfl rfl) (fun w' hw' => (k2 _ _ ((Mono.mono exq h)))) ?_; refine Rx rfl ?_
        refine Uf rfl (fun _ _ => Zt (v := .bool _) rfl) (fun h3 => ?_) (fun h3 => ?_); refine Gw rfl<|Gw rfl<|Gw rfl<|Gw rfl<|Gw rfl<|Gw rfl<|Gw rfl<|Gw rfl<|Ux rfl<|Yp (fun w2 E2 => ?_); refine Vj rfl ?_; refine Gt<|Zl<|Vr rfl<|Zc rfl<|Gm<|Zd ?_; refine Zk (v := .tuple #[.slice _ _ _, .bool _]) rfl ?_; exact ⟨_, rfl, exq, Owned.nil⟩; contradiction; contradiction
  have hm : M = none := hMd.trans (by simp only [madeV]; rw [if_neg (fun h => e0 h.1), if_neg (fun h => e1 h.1), if_neg (fun h => e2 h.1), if_neg (fun h => e3 h.1)])
  rw [hm, show og none = [] from rfl, show (none : Option (List (List Int))).isSome = false from rfl]
  focus
    refine Gs<|Vp rfl rfl rfl ?_; rintro b1 w1 hb1 E1 hB1; refine Vr rfl<|Zc rfl<|Gm<|Gt<|Gs<|Zg Kp Kl rfl<|Vi Km hB1 rfl<|Gm<|Gy<|Gs<|Zs rfl<|Zc rfl<|Gm<|Gq rfl (fun h1 => ?_) (fun h1 => ?_); contradiction; refine Gs<|Zs rfl<|Zc rfl<|Gm<|Gq rfl (fun h2 => ?_) (fun h2 => ?_); contradiction; refine Gs<|Zs rfl<|Zc rfl<|Gm<|Gq rfl (fun h3 => ?_) (fun h3 => ?_); contradiction; refine Gs<|Zs rfl<|Zc rfl<|Gm<|Gq rfl (fun h4 => ?_) (fun h4 => ?_); contradiction; refine Gx<|Gs<|Vr rfl<|Zc rfl<|Gm<|Zd ?_; refine Zk (v := .tuple #[.slice _ _ _, .bool _]) rfl ?_; exact ⟨_, rfl, E1, Owned.nil⟩
end Go.Proofs.YtbgpppaljpngmaaGreatDoor
namespace Go.Proofs.YtbgpppaljpngmaaGreatDoor
open Go.Hs
set_option maxRecDepth 10000
set_option maxHeartbeats 4000000
set_option linter.unusedVariables false
set_option linter.unusedSimpArgs false
theorem sameRows_ok (w : World) (v u : Value) (p q : List (List Int)) (h : ESl Ints w v p) (h' : ESl Ints w u q) : Does Tryz.prog 72 [v, u] w (Ret w (.bool (decide (p = q)))) := by
  have hle := h.le
  have hle' := h'.le
  refine Zy Tryz.func72 rfl Tryz.results72 Tryz.ntmps72 rfl ?_
  focus
    refine Gs<|Zc rfl<|Gm<|Gt<|Gs<|Zh v rfl<|Zm Kq rfl h<|Zh u rfl<|Zm Kq rfl h'<|Uc rfl<|Gm<|Zx rfl (fun h1 => ?_) (fun h1 => ?_); refine Gs<|Zc rfl<|Gm<|Zd ?_; refine Zk (v := .bool _) rfl ?_; refine ⟨congrArg Value.bool ?_, (Ext.refl _)⟩; rotate_left; refine Gx<|Gt<|Gs<|Zr rfl<|Gm<|Gy ?_; rotate_left
  · exact (decide_eq_false (fun e => by subst e; omega)).symm
  refine Vf [4, 5, 11, 12, 13, 14, 15, 16, 17, 18, 19, 20, 21, 22, 23, 24, 25, 26] (fun (k : Nat) => [(5, .int .i64 (k : Nat))]) (fun k w' => Ext w w' ∧ k ≤ p.length ∧ p.take k = q.take k) (fun x => p.length - x) 0 Kg ?_ ?_
  · exact ⟨Ext.refl _, Nat.zero_le _, Ki⟩
  rintro k ρj w1 ⟨E1, hk, he⟩
  focus
    refine Gt<|Gs<|Gz rfl<|Zh v rfl<|Zm Kq rfl h<|Zo rfl<|Gm<|Gq rfl (fun h2 => ?_) (fun h2 => ?_); refine Gx<|Gt<|Gy<|Gt<|Yr Yn Kb rfl ?_; refine Um v rfl<|Qc rfl<|Xk Kq Kv Ja rfl (fun _ => rfl) rfl h E1 rfl Kf ?_; rintro _ u1 hu1; refine Um u rfl<|Qc rfl<|Xk Kq Kv Ja rfl (fun _ => rfl) rfl h' E1 rfl Kf ?_; rintro _ u2 hu2; refine Yy rfl (fun _ _ => Vb (a := u1) (b := u2) Tryz.call125 rfl rfl) (fun w' hw' => (sameInts_ok _ _ _ _ _ ((Mono.mono exq hu1)) ((Mono.mono exq hu2)))) ?_; refine Rx rfl ?_
    refine Yp (fun w2 E2 => ?_); refine Zx rfl (fun h3 => ?_) (fun h3 => ?_); refine Gs<|Zc rfl<|Gm<|Zd ?_; refine Zk (v := .bool _) rfl ?_; refine ⟨congrArg Value.bool ?_, exq⟩; rotate_left; refine Gx<|Zl<|Gz rfl<|Va rfl<|Zr rfl<|Gm ?_; rotate_left; refine Ve ?_; refine Zi ?_; refine Gs<|Zc rfl<|Gm<|Zd ?_; refine Zk (v := .bool _) rfl ?_; refine ⟨congrArg Value.bool ?_, E1⟩; rotate_left
  · exact (decide_eq_false (ne_at (k := k) Ka Ka Kd)).symm
  · refine ⟨(k + 1), Kg, Kh, ?_, ?_⟩
    · exact ⟨E1.trans E2, Ka, (Ql Ka Ka).2 ⟨he, Kd⟩⟩
    · omega
  · obtain rfl : k = p.length := by omega
    exact (decide_eq_true (Tc Ka he)).symm
end Go.Proofs.YtbgpppaljpngmaaGreatDoor
set_option linter.unusedVariables false
namespace Go.Hs
section
variable {β : Type} {P : Program} {n d : Nat} {N : Env → World → Prop} {ρ : Env} {w : World} {all : Array Oper} {rest : List Oper} {t e ty : TypeId} {pos : String} {after : Array Edge} {g : Option (Nat × Bool)} {x : Operand} {k : IntKind}
end
theorem opc_val2 {P : Program} {ρ : Env} {w : World} {ty : TypeId} {f : FuncId} {cap : List Value} {x x0 x1 : Operand} {ts : Array TypeId} {a b : Value} (hc : ∀ args w, Sem.run P (callFunc f args) w = .ok (.enter f args) w)
    (hx : evalE ρ x = .func (.func f) [].toArray cap.toArray) (h0 : evalE ρ x0 = a) (h1 : evalE ρ x1 = b) :
    OpC P (.call { callee := .value x, args := #[x0, x1], argTypes := ts }) ty ρ w f (a :: b :: cap) := opc_val (first := []) (vs := [a, b]) hc hx (by simp [h0, h1])
end Go.Hs
namespace Go.Proofs.YtbgpppaljpngmaaGreatDoor
open Go.Hs
set_option maxRecDepth 10000
set_option maxHeartbeats 4000000
set_option linter.unusedVariables false
set_option linter.unusedSimpArgs false
end Go.Proofs.YtbgpppaljpngmaaGreatDoor
namespace Go.Proofs.YtbgpppaljpngmaaGreatDoor
open Go.Hs
set_option maxRecDepth 10000
set_option maxHeartbeats 4000000
set_option linter.unusedVariables false
set_option linter.unusedSimpArgs false
def ptR (p : List (List Int)) (K : List Int) (x : Int) (j : Nat) (y : Int) : Int := b01 ((List.range j).any (ptF p K x y))
def ptM (p : List (List Int)) (K L : List Int) (x : Int) (j m : Nat) : List Int := (L.take m).map (ptR p K x (j + 1)) ++ (L.drop m).map (ptR p K x j)
theorem ptM_len {p : List (List Int)} {K L : List Int} {x : Int} {j m : Nat} : (ptM p K L x j m).length = L.length := by
  unfold ptM
  rw [List.length_append, List.length_map, List.length_map, ← List.length_append, List.take_append_drop]
theorem ptR_succ {p : List (List Int)} {K : List Int} {x y : Int} {j : Nat} : ptR p K x (j + 1) y = if ptF p K x y j then 1 else ptR p K x j y := by
  unfold ptR
  rw [any_range_succ']
  cases ptF p K x y j <;> cases (List.range j).any (ptF p K x y) <;> rfl
theorem ptM_yes {p : List (List Int)} {K L : List Int} {x : Int} {j m : Nat} (hm : m < L.length) (hf : ptF p K x L[m] j = true) : (ptM p K L x j m).set m 1 = ptM p K L x j (m + 1) := by
  have hl : ((L.take m).map (ptR p K x (j + 1))).length = m := by simp; omega
  unfold ptM
  rw [List.set_append_right _ _ Ka, hl, Nat.sub_self, List.drop_eq_getElem_cons hm, List.map_cons, List.set_cons_zero, Vl _ _ hm, List.map_append, List.append_assoc]
  congr 1
  rw [List.map_cons, List.map_nil, ptR_succ, hf]
  rfl
theorem ptM_no {p : List (List Int)} {K L : List Int} {x : Int} {j m : Nat} (hm : m < L.length) (hf : ptF p K x L[m] j = false) : ptM p K L x j m = ptM p K L x j (m + 1) := by
  unfold ptM
  rw [List.drop_eq_getElem_cons hm, List.map_cons, Vl _ _ hm, List.map_append, List.append_assoc]
  congr 1
  rw [List.map_cons, List.map_nil, ptR_succ, hf]
  rfl
theorem ptM_zero {p : List (List Int)} {K L : List Int} {x : Int} {j : Nat} : ptM p K L x j 0 = L.map (ptR p K x j) := by simp [ptM]
theorem ptM_all {p : List (List Int)} {K L : List Int} {x : Int} {j : Nat} : ptM p K L x j L.length = L.map (ptR p K x (j + 1)) := by simp [ptM]
theorem ptR_none {p : List (List Int)} {K L : List Int} {x : Int} : L.map (ptR p K x 0) = List.replicate L.length 0 := by
  rw [← List.map_const']
  exact List.map_congr_left fun y _ => rfl
theorem l4Part_ok (w : World) (v u t : Value) (p : List (List Int)) (K L : List Int) (h : ESl Ints w v p) (hK : Ints w u K) (hL : Ints w t L) (hp : Gr p) (hk : K.length = p.length) (hl : ∀ x ∈ L, 0 ≤ x ∧ x < p.length) (hn : L.length ≤ 1000) :
    Does Tryz.prog 195 [v, u, t] w (RetO w XR (ptV p K L)) := by
  have hp5 := hp.2.1
  have hpl := ptV_len (p := p) (K := K) (L := L)
  refine Zy Tryz.func195 rfl Tryz.results195 Tryz.ntmps195 rfl ?_
  focus
    refine Gs<|Vr rfl<|Gm<|Gs<|Yb (XSl 3 XInt) rfl Ui Kv ?_; rintro b1 w1 hb1 b1lt E1 hO1; refine Vr rfl<|Gm<|Gt<|Gs<|Zr rfl<|Gm<|Gy ?_
  refine Vf [7, 8, 9, 10, 11, 13, 14, 15, 16, 17, 18, 19, 20, 21, 22, 23, 24, 25, 26, 27, 28, 29, 30, 31, 32, 33, 34, 35, 36, 37, 38, 39, 40, 41, 42, 43, 44, 45, 46, 47, 48, 49, 50, 51, 52, 53, 54, 55, 56, 57, 58, 59, 60, 61, 62, 63, 64, 65] (fun ((k, o) : Nat × Value) => [(8, .int .i64 (k : Nat)), (7, o)]) (fun (k, o) w' => Ext w w' ∧ k ≤ L.length ∧ Owned w.heap.size XR w' o ((ptV p K L).take k)) (fun x => L.length - x.1) (0, .slice (some ⟨b1, 0, none⟩) 0 0) Kg ?_ ?_
  · exact ⟨Kd, Nat.zero_le _, by simpa using hO1⟩
  clear hO1
  rintro ⟨k, o⟩ ρj w2 ⟨E2, hkl, hO1⟩
  by_cases hlt : k < L.length
  · have hLk := hl L[k] (List.getElem_mem hlt)
    have hrow := hp.row (i := L[k].toNat) Ka
    have htl : ((ptV p K L).take k).length = k := by simp; omega
    focus
      have szE2 := E2.size; refine Gt<|Gs<|Gz rfl<|Zh t rfl<|Zm Kn rfl hL<|Zo rfl<|Gm<|Gq rfl (fun h1 => ?_) (fun h1 => ?_); refine Gx<|Gt<|Gy<|Gt<|Zl<|Zh t rfl<|Zm Kn rfl hL<|Sk rfl Ug rfl Ka ?_; rintro b2 w3 hb2 b2lt E3 hO2; refine Vr rfl<|Gm<|Gt<|Gs<|Zr rfl<|Gm<|Gy ?_; rotate_left; (exfalso; omega)
    refine Vf [10, 11, 22, 23, 24, 25, 26, 27, 28, 29, 30, 31, 32, 33, 34, 35, 36, 37, 38, 39, 40, 41, 42, 43, 44, 45, 46, 47, 48, 49, 50, 51, 52, 53, 54, 55, 56, 57, 58, 59, 60, 61] (fun (j : Nat) => [(10, .int .i64 (j : Nat))]) (fun j w' => Ext w w' ∧ w2.heap.size ≤ w'.heap.size ∧ j ≤ p.length ∧ OwnedB w.heap.size w2.heap.size XR w' o ((ptV p K L).take k) ∧ Owned w2.heap.size XI w' (.slice (some ⟨b2, 0, none⟩) L.length L.length) (L.map (ptR p K L[k] j))) (fun j => p.length - j) 0 Kg ?_ ?_
    · exact ⟨E2.trans E3, E3.size, Nat.zero_le _, hO1.toB.ext E3, by rw [ptR_none]; exact hO2⟩
    clear hO1 hO2
    rintro j ρk w4 ⟨E4, hs4, hj, hO1, hO2⟩
    by_cases hjl : j < p.length
    · focus
        refine Gt<|Gs<|Gz rfl<|Zh v rfl<|Zm Kq rfl h<|Zo rfl<|Gm<|Gq rfl (fun h2 => ?_) (fun h2 => ?_); refine Gx<|Gt<|Gy<|Gs<|Zr rfl<|Gm<|Gy ?_; rotate_left; (exfalso; omega)
      refine Vf [11, 28, 29, 30, 31, 32, 33, 34, 35, 36, 37, 38, 39, 40, 41, 42, 43, 44, 45, 46, 47, 48, 49, 50, 51, 52, 53, 54, 55, 56, 57, 58, 59, 60, 61] (fun (m : Nat) => [(11, .int .i64 (m : Nat))]) (fun m w' => Ext w w' ∧ w2.heap.size ≤ w'.heap.size ∧ m ≤ L.length ∧ OwnedB w.heap.size w2.heap.size XR w' o ((ptV p K L).take k) ∧ Owned w2.heap.size XI w' (.slice (some ⟨b2, 0, none⟩) L.length L.length) (ptM p K L L[k] j m)) (fun m => L.length - m) 0 Kg ?_ ?_
      · exact ⟨E4, hs4, Nat.zero_le _, hO1, by rw [ptM_zero]; exact hO2⟩
      clear hO1 hO2
      rintro m ρl w5 ⟨E5, hs5, hm, hO1, hO2⟩
      have hpm := ptM_len (p := p) (K := K) (L := L) (x := L[k]) (j := j) (m := m)
      by_cases hml : m < L.length
      · have hLm := hl L[m] (List.getElem_mem hml)
        have eF : ptF p K L[k] L[m] j = (decide (p[L[k].toNat][j] = 1) && decide (K[j] = K[L[m].toNat])) := by
          unfold ptF
          rw [Vg (show L[k].toNat < p.length by omega), Vg (show j < p[L[k].toNat].length by omega), Vg (show j < K.length by omega), Vg (show L[m].toNat < K.length by omega)]
        by_cases c1 : p[L[k].toNat][j] = 1
        · by_cases c2 : K[j] = K[L[m].toNat]
          · focus
              refine Gt<|Gs<|Gz rfl<|Zh t rfl<|Zm Kn rfl hL<|Zo rfl<|Gm<|Gq rfl (fun h3 => ?_) (fun h3 => ?_); refine Gx<|Gt<|Gy<|Gt<|Yr Yn Kb rfl ?_; refine Um v rfl<|Um t rfl<|Qc rfl<|Xk Kn Kl Km rfl (fun _ => rfl) rfl hL E5 rfl Kf ?_; rintro _ _ rfl; refine Rc Kq Kv Ja rfl (fun _ => rfl) rfl h E5 rfl Kf ?_; rintro _ u1 hu1; refine Qc rfl<|Xk Kn Kl Km rfl (fun _ => rfl) rfl hu1 E5 rfl Kf ?_; rintro _ _ rfl; refine Us rfl<|Ys rfl (fun h4 => ?_) (fun h4 => ?_); refine Um u rfl<|Qc rfl ?_
              refine Xk Kn Kl Km rfl (fun _ => rfl) rfl hK E5 rfl Kf ?_; rintro _ _ rfl; refine Um u rfl<|Um t rfl<|Qc rfl<|Xk Kn Kl Km rfl (fun _ => rfl) rfl hL E5 rfl Kf ?_; rintro _ _ rfl; refine Rc Kn Kl Km rfl (fun _ => rfl) rfl hK E5 rfl Kf ?_; rintro _ _ rfl; refine Us rfl<|Ux rfl<|Yp (fun w6 E6 => ?_); have hs3 := E6.size; refine Gq rfl (fun h5 => ?_) (fun h5 => ?_); refine Zl<|Xj rfl<|Gz rfl<|Wo rfl (Zu Kn Kl rfl rfl Ka) ?_
              refine Wo_set rfl Kl rfl rfl (hO2.toB.ext E6) Kf Owned.int (Nat.le_refl _) Ka ?_; rintro w7 hO2 On1 K1 hz1; have E7 := On1.ext1 (E5.trans E6) Ka; have hO1 := (hO1.ext E6).wrote K1 Ka; refine Gm<|Zl<|Gz rfl<|Va rfl<|Zr rfl<|Gm ?_; rotate_left; contradiction; contradiction; (exfalso; omega)
            refine ⟨(m + 1), Kg, Kh, ?_, ?_⟩
            · refine ⟨Kd, Ka, Ka, Kd, ?_⟩
              rw [← ptM_yes hml (by rw [eF, decide_eq_true c1, decide_eq_true c2]; rfl)]
              assumption
            · omega
          · focus
              refine Gt<|Gs<|Gz rfl<|Zh t rfl<|Zm Kn rfl hL<|Zo rfl<|Gm<|Gq rfl (fun h3 => ?_) (fun h3 => ?_); refine Gx<|Gt<|Gy<|Gt<|Yr Yn Kb rfl ?_; refine Um v rfl<|Um t rfl<|Qc rfl<|Xk Kn Kl Km rfl (fun _ => rfl) rfl hL E5 rfl Kf ?_; rintro _ _ rfl; refine Rc Kq Kv Ja rfl (fun _ => rfl) rfl h E5 rfl Kf ?_; rintro _ u1 hu1; refine Qc rfl<|Xk Kn Kl Km rfl (fun _ => rfl) rfl hu1 E5 rfl Kf ?_; rintro _ _ rfl; refine Us rfl<|Ys rfl (fun h4 => ?_) (fun h4 => ?_); refine Um u rfl<|Qc rfl ?_
              refine Xk Kn Kl Km rfl (fun _ => rfl) rfl hK E5 rfl Kf ?_; rintro _ _ rfl; refine Um u rfl<|Um t rfl<|Qc rfl<|Xk Kn Kl Km rfl (fun _ => rfl) rfl hL E5 rfl Kf ?_; rintro _ _ rfl; refine Rc Kn Kl Km rfl (fun _ => rfl) rfl hK E5 rfl Kf ?_; rintro _ _ rfl; refine Us rfl<|Ux rfl<|Yp (fun w6 E6 => ?_); have hs3 := E6.size; refine Gq rfl (fun h5 => ?_) (fun h5 => ?_); contradiction; refine Gx<|Zl<|Gz rfl<|Va rfl<|Zr rfl<|Gm ?_; rotate_left; contradiction; (exfalso; omega)
            refine ⟨(m + 1), Kg, Kh, ?_, ?_⟩
            · refine ⟨by first | assumption | exact E5.trans Kd, Ka, Ka, by first | assumption | exact hO1.ext Kd, ?_⟩
              rw [← ptM_no hml (by rw [eF, decide_eq_false c2]; simp)]
              first | assumption | exact hO2.ext Kd
            · omega
        · focus
            refine Gt<|Gs<|Gz rfl<|Zh t rfl<|Zm Kn rfl hL<|Zo rfl<|Gm<|Gq rfl (fun h3 => ?_) (fun h3 => ?_); refine Gx<|Gt<|Gy<|Gt<|Yr Yn Kb rfl ?_; refine Um v rfl<|Um t rfl<|Qc rfl<|Xk Kn Kl Km rfl (fun _ => rfl) rfl hL E5 rfl Kf ?_; rintro _ _ rfl; refine Rc Kq Kv Ja rfl (fun _ => rfl) rfl h E5 rfl Kf ?_; rintro _ u1 hu1; refine Qc rfl<|Xk Kn Kl Km rfl (fun _ => rfl) rfl hu1 E5 rfl Kf ?_; rintro _ _ rfl; refine Us rfl ?_
            refine Ys rfl (fun h4 => ?_) (fun h4 => ?_); contradiction; refine Gw rfl<|Gw rfl<|Gw rfl<|Gw rfl<|Gw rfl<|Gw rfl<|Gw rfl<|Gw rfl<|Gw rfl<|Gw rfl<|Gw rfl<|Gw rfl<|Un rfl<|Yp (fun w6 E6 => ?_); have hs3 := E6.size; refine Za rfl ?_; refine Gx<|Zl<|Gz rfl<|Va rfl<|Zr rfl<|Gm ?_; rotate_left; (exfalso; omega)
          refine ⟨(m + 1), Kg, Kh, ?_, ?_⟩
          · refine ⟨by first | assumption | exact E5.trans Kd, Ka, Ka, by first | assumption | exact hO1.ext Kd, ?_⟩
            rw [← ptM_no hml (by rw [eF, decide_eq_false c1]; simp)]
            first | assumption | exact hO2.ext Kd
          · omega
      · obtain rfl : m = L.length := by omega
        focus
          refine Gt<|Gs<|Gz rfl<|Zh t rfl<|Zm Kn rfl hL<|Zo rfl<|Gm<|Gq rfl (fun h3 => ?_) (fun h3 => ?_); (exfalso; omega); refine Ve ?_; refine Zi ?_; refine Zl<|Gz rfl<|Va rfl<|Zr rfl<|Gm ?_
        refine ⟨(j + 1), Kg, Kh, ?_, ?_⟩
        · refine ⟨Kd, Ka, Ka, Kd, ?_⟩
          rw [← ptM_all]; assumption
        · omega
    · obtain rfl : j = p.length := by omega
      have hrl : (L.map (ptR p K L[k] p.length)).length = L.length := Ki
      focus
        have szE4 := E4.size; have szE2 := E2.size; refine Gt<|Gs<|Gz rfl<|Zh v rfl<|Zm Kq rfl h<|Zo rfl<|Gm<|Gq rfl (fun h2 => ?_) (fun h2 => ?_); (exfalso; omega); refine Ve ?_; refine Zi ?_; refine Zl<|Zh o rfl<|Xj rfl<|Yc (ps := [(0, .slice _ _ _)]) (cs := [_]) rfl Kq Kv Jn rfl rfl rfl rfl ?_; rintro b3 w5 hb3 E5 hB1; have hs3 := E5.size; refine Yf rfl Ui rfl rfl hB1 (hO1.ext E5) (hO2.toB.ext E5).o Ka Kf Ka Ka (E4.trans E5) Ka ?_; rintro v1 w6 hO1 E6 M1; refine Vn v1 rfl<|Gm<|Zl<|Gz rfl<|Va rfl<|Zr rfl<|Gm ?_
      refine ⟨((k + 1, v1)), Kg, Kh, ?_, ?_⟩
      · refine ⟨Kd, Ka, ?_⟩
        rw [Vl _ _ Ka]
        have e : (ptV p K L)[k]'Ka = L.map (ptR p K L[k] p.length) := by simp only [ptV, List.getElem_map]; rfl
        rw [e]
        assumption
      · simp only; omega
  · obtain rfl : k = L.length := by omega
    focus
      refine Gt<|Gs<|Gz rfl<|Zh t rfl<|Zm Kn rfl hL<|Zo rfl<|Gm<|Gq rfl (fun h1 => ?_) (fun h1 => ?_); (exfalso; omega); refine Ve ?_; refine Zi ?_; refine Gs<|Zh o rfl<|Vn o rfl<|Gm<|Zd ?_; refine ⟨E2, (congrArg (Owned _ _ _ _) ?_).mp (hO1.toB.o.mono Ka)⟩
    rw [List.take_of_length_le Ka]
theorem JoinedOf_ok (w : World) (v : Value) (p : List (List Int)) (h : ESl Ints w v p) (z : Int) : Does Tryz.prog 165 [v, .int .i64 z] w (RetDX w XR (fun c => (Nod p z → Cand p z.toNat c) ∧ (¬ Nod p z → c = []))) := by
  by_cases hz : Nod p z
  · obtain ⟨hp, hz0, hz1⟩ := id hz
    obtain ⟨i, rfl⟩ := Int.eq_ofNat_of_zero_le hz0
    have hi : i < p.length := Ka
    have hp5 := hp.2.1
    have k1 : ∀ (w : World) (v : Value), ESl Ints w v p → Does Tryz.prog 161 [v, .int .i64 (i : Int)] w (RetO w XI (ints (rf p i))) := fun w v h => by
      have := Rz w v p i h
      rw [show rfV p (i : Int) = rf p i from if_pos hz] at this; exact this
    have k2 : ∀ (w : World) (v : Value), ESl Ints w v p → Does Tryz.prog 194 [v] w (RetO w XI (ints (kndL p))) := fun w v h => by
      have := spec_KindsOf_ok w v p h
      rw [if_pos hp] at this; exact this
    have hrl := rf_len (p := p) (i := i)
    have hril := Yg (rf p i)
    have hr0 : 0 < (rf p i).length := List.length_pos_iff.2 fun e => by
      have := (Tk hp.gr hi).2 (Rch.refl i)
      rw [e] at this; cases this
    have hkl := Ri (p := p)
    have k4 : ∀ (w : World) (v u t : Value) (L : List Nat), ESl Ints w v p → Ints w u (ints (kndL p)) → Ints w t (ints L) → (∀ x ∈ L, x < p.length) → L.length ≤ p.length → Does Tryz.prog 195 [v, u, t] w (RetO w XR (qp p (L.map (knd p)))) := fun w v u t L h1 h2 h3 h4 h5 => by
      rw [← ptV_qp hp.gr h4]
      refine l4Part_ok w v u t p _ _ h1 h2 h3 hp.gr hkl (fun x hx => ?_) (by rw [Yg]; omega)
      obtain ⟨y, hy, rfl⟩ := List.mem_map.1 hx
      have := h4 y hy
      omega
    refine Zy Tryz.func165 rfl Tryz.results165 Tryz.ntmps165 rfl ?_
    focus
      refine Gs<|Vr rfl<|Gm<|Gs<|Zh v rfl<|Gz rfl<|Gu rfl (Vb (a := v) (b := .int _ _) Tryz.call161 rfl rfl) (k1 _ _ (h)) ?_; rintro u1 w1 ⟨E1, hO1⟩; have hs1 := E1.size; refine Vn u1 rfl<|Gm<|Gs<|Zh v rfl<|Gu rfl (Vh (a := v) Tryz.call194 rfl) (k2 _ _ ((Mono.mono E1 h))) ?_; rintro u2 w2 ⟨E2, hO2⟩; have hs2 := E2.size; refine Vn u2 rfl<|Gm<|Gt<|Gs<|Zh u1 rfl<|Zm Kn rfl (Owned.read hO1)<|Zs rfl<|Gm<|Gq rfl (fun h1 => ?_) (fun h1 => ?_); (exfalso; omega); refine Gx<|Gs<|Gz rfl<|Zw (ps := [(0, .int _ _)]) (cs := [_]) rfl Kn Kl Jg rfl rfl rfl rfl ?_; rintro b1 w3 hb1 E3 hB1 hHb1; refine Vr rfl<|Gm<|Gt<|Gs<|Zr rfl<|Gm<|Gy ?_
    have hO3 : Owned w2.heap.size XI w3 (.slice (some ⟨b1, 0, none⟩) 1 1) (ints [i]) := Owned.block hHb1 hb1 rfl Kc ⟨⟨rfl, rfl⟩, trivial⟩
    have r1 := hO1.read
    have r2 := hO2.read
    clear hHb1 hB1 hO1 hO2
    refine Vf [7, 8, 9, 10, 22, 23, 24, 25, 26, 27, 28, 29, 30, 31, 32, 33, 34, 35, 36, 37, 38, 39, 40, 41, 42, 43, 44, 45, 46, 47, 48, 49, 50, 51, 52, 53, 54, 55, 56, 57, 58, 59] (fun ((k, u, L) : Nat × Value × List Nat) => [(8, .int .i64 (k : Nat)), (7, u)]) (fun (k, u, L) w' => Ext w2 w' ∧ Owned w2.heap.size XI w' u (ints L) ∧ k ≤ (rf p i).length ∧ Fnd p i k L) (fun x => (rf p i).length - x.1) (0, .slice (some ⟨b1, 0, none⟩) 1 1, [i]) Kg ?_ ?_
    · exact ⟨Kd, hO3, Nat.zero_le _, Fnd.zero⟩
    clear hO3
    rintro ⟨k, u, L⟩ ρj w4 ⟨E4, hO3, hk, hF⟩
    have hLl := hF.len hp.gr hi
    have hLil := Yg L
    by_cases hlt : k < (rf p i).length
    · have hrk := (Tk hp.gr hi).1 (List.getElem_mem hlt) |>.lt hp.gr hi
      have hgk : (ints (rf p i))[k]'Ka = ((rf p i)[k] : Int) := Xr hlt
      focus
        have szE4 := E4.size; refine Gt<|Gs<|Gz rfl<|Zh u1 rfl<|Zm Kn rfl r1<|Zo rfl<|Gm<|Gq rfl (fun h2 => ?_) (fun h2 => ?_); refine Gx<|Gt<|Gy<|Gs<|Zc rfl<|Gm<|Gt<|Gs<|Zr rfl<|Gm<|Gy ?_; rotate_left; (exfalso; omega)
      refine Vf [9, 10, 28, 29, 30, 31, 32, 33, 34, 35, 36, 37, 38, 39, 40, 41, 42, 43, 44, 45, 46, 47, 48, 49, 50, 51] (fun ((j, f) : Nat × Bool) => [(10, .int .i64 (j : Nat)), (9, .bool f)]) (fun (j, f) w' => Ext w4 w' ∧ j ≤ L.length ∧ (f = true ↔ knd p (rf p i)[k] ∉ (L.take j).map (knd p))) (fun x => L.length - x.1) (0, true) Kg ?_ ?_
      · exact ⟨Ext.refl _, Nat.zero_le _, Ki⟩
      rintro ⟨j, f⟩ ρk w5 ⟨E5, hj, hf⟩
      by_cases hjl : j < L.length
      · have hLj := hF.lt hp.gr hi (List.getElem_mem hjl)
        have hgj : (ints L)[j]'Ka = (L[j] : Int) := Xr hjl
        have hkj : (ints (kndL p))[((ints L)[j]'Ka).toNat]'Ka = (knd p L[j] : Int) := by
          simp only [hgj, Int.toNat_natCast]; exact Uy _
        have hkk : (ints (kndL p))[((ints (rf p i))[k]'Ka).toNat]'Ka = (knd p (rf p i)[k] : Int) := by
          simp only [hgk, Int.toNat_natCast]; exact Uy _
        have hts := Vl _ _ hjl
        have bj : ((ints L)[j]'Ka).toNat < (ints (kndL p)).length := by rw [hkl, hgj]; omega
        have bk : ((ints (rf p i))[k]'Ka).toNat < (ints (kndL p)).length := by rw [hkl, hgk]; omega
        cases f
        · focus
            refine Gt<|Gs<|Gz rfl<|Zh u rfl<|Zm Kn rfl (Owned.read hO3)<|Zo rfl<|Gm<|Gq rfl (fun h3 => ?_) (fun h3 => ?_); refine Gx<|Gt<|Gy<|Yr Yn Kb rfl ?_; refine Ur rfl<|Ur rfl<|Gw rfl<|Gw rfl<|Gw rfl<|Gw rfl<|Gw rfl<|Gw rfl<|Gw rfl<|Gw rfl<|Gw rfl<|Gw rfl<|Gw rfl<|Gw rfl<|Gw rfl<|Gw rfl<|Gw rfl<|Un rfl<|Sq rfl<|Yp (fun w6 E6 => ?_); refine Zl<|Gz rfl<|Va rfl<|Zr rfl<|Gm ?_; rotate_left; (exfalso; omega)
          refine ⟨((j + 1, false)), Kg, Kh, ?_, ?_⟩
          · refine ⟨by exact exq, Ka, ⟨fun h => (by cases h), fun h => ?_⟩⟩
            rw [hts, List.map_append, List.mem_append, not_or] at h
            exact absurd (hf.2 h.1) Ki
          · simp only; omega
        · focus
            refine Gt<|Gs<|Gz rfl<|Zh u rfl<|Zm Kn rfl (Owned.read hO3)<|Zo rfl<|Gm<|Gq rfl (fun h3 => ?_) (fun h3 => ?_); refine Gx<|Gt<|Gy<|Yr Yn Kb rfl ?_; refine Ur rfl<|Ur rfl<|Um u2 rfl<|Um u rfl<|Qc rfl<|Xk Kn Kl Km rfl (fun _ => rfl) rfl (Owned.read hO3) E5 rfl Kf ?_; rintro _ _ rfl; refine Rc Kn Kl Km rfl (fun _ => rfl) rfl r2 exq rfl Kf ?_; rintro _ _ rfl; refine Um u2 rfl<|Um u1 rfl<|Qc rfl<|Xk Kn Kl Km rfl (fun _ => rfl) rfl r1 exq rfl Kf ?_; rintro _ _ rfl
            refine Rc Kn Kl Km rfl (fun _ => rfl) rfl r2 exq rfl Kf ?_; rintro _ _ rfl; refine Wqneq rfl<|Ux rfl<|Sq rfl<|Yp (fun w6 E6 => ?_); refine Zl<|Gz rfl<|Va rfl<|Zr rfl<|Gm ?_; rotate_left; (exfalso; omega)
          refine ⟨((j + 1, !decide ((ints (kndL p))[((ints L)[j]'Ka).toNat]'bj = (ints (kndL p))[((ints (rf p i))[k]'Ka).toNat]'bk))), Kg, Kh, ?_, ?_⟩
          · refine ⟨by exact exq, Ka, ?_⟩
            rw [hkj, hkk, hts, List.map_append, List.mem_append, not_or]
            have hf' := hf.1 rfl
            simp only [List.map_cons, List.map_nil, List.mem_singleton, Bool.not_eq_true', decide_eq_false_iff_not]
            constructor
            · intro h; exact ⟨hf', fun e => h (by rw [e])⟩
            · intro h e; exact h.2 Ka
          · simp only; omega
      · obtain rfl : j = L.length := by omega
        rw [List.take_length] at hf
        cases f
        · focus
            refine Gt<|Gs<|Gz rfl<|Zh u rfl<|Zm Kn rfl (Owned.read hO3)<|Zo rfl<|Gm<|Gq rfl (fun h3 => ?_) (fun h3 => ?_); (exfalso; omega); refine Ve ?_; refine Zi ?_; refine Gs<|Vq rfl<|Gm<|Za rfl ?_; refine Gx<|Zl<|Gz rfl<|Va rfl<|Zr rfl<|Gm ?_
          refine ⟨((k + 1, u, L)), Kg, Kh, ?_, ?_⟩
          · refine ⟨by exact exq, by exact (Mono.mono E5 hO3), Ka, hF.skip hlt ?_⟩
            exact Classical.byContradiction fun h => absurd (hf.2 h) Ki
          · simp only; omega
        · focus
            have szE5 := E5.size; have szE4 := E4.size; refine Gt<|Gs<|Gz rfl<|Zh u rfl<|Zm Kn rfl (Owned.read hO3)<|Zo rfl<|Gm<|Gq rfl (fun h3 => ?_) (fun h3 => ?_); (exfalso; omega); refine Ve ?_; refine Zi ?_; refine Gs<|Vq rfl<|Gm<|Vj rfl ?_; refine Zl<|Zh u rfl<|Zh u1 rfl<|Gz rfl<|Vm Kn Kl Km rfl (fun _ => rfl) rfl r1 exq rfl Kf ?_; rintro _ _ rfl; refine Zw (ps := [(0, .int _ _)]) (cs := [_]) rfl Kn Kl Jg rfl rfl rfl rfl ?_; rintro b2 w6 hb2 E6 hB1 hHb2; have hs4 := E6.size
            refine Yf rfl Ug rfl rfl hB1 (hO3.toB.ext (E5.trans E6)) Owned.int (Nat.le_refl _) Kf Ka Ka ((((E1.trans E2).trans E4).trans E5).trans E6) Ka ?_; have hT1 := (hO3.toB.ext (E5.trans E6)); rintro v1 w7 hO3 E7 M1; have E9 := M1.ext hT1 ((E4.trans E5).trans E6) Ka; refine Vn v1 rfl<|Gm<|Zl<|Gz rfl<|Va rfl<|Zr rfl<|Gm ?_
          refine ⟨((k + 1, v1, L ++ [(rf p i)[k]])), Kg, Kh, ?_, ?_⟩
          · refine ⟨Kd, ?_, Ka, hF.step hp.gr hi hlt (hf.1 rfl)⟩
            rw [ints_append, show ints [(rf p i)[k]] = [(ints (rf p i))[k]'Ka] by rw [hgk]; rfl]
            assumption
          · simp only; omega
    · have hK := hF.kds hp.gr hi Ka
      have hLt : ∀ x ∈ L, x < p.length := fun x hx => hF.lt hp.gr hi hx
      focus
        have szE4 := E4.size; refine Gt<|Gs<|Gz rfl<|Zh u1 rfl<|Zm Kn rfl r1<|Zo rfl<|Gm<|Gq rfl (fun h2 => ?_) (fun h2 => ?_); (exfalso; omega); refine Ve ?_; refine Zi ?_; refine Gs<|Zh v rfl<|Zh u2 rfl<|Zh u rfl<|Gu rfl (Sy (a := v) (b := u2) (c := u) Tryz.call195 rfl rfl rfl) (k4 _ _ _ _ _ ((Mono.mono exq h)) ((Mono.mono E4 r2)) ((Owned.read hO3)) Kd Kd) ?_; rintro u3 w5 ⟨E5, hO1⟩; refine Vn u3 rfl<|Gm<|Zd ?_; refine Zk (v := u3) rfl ?_
      refine ⟨_, by exact (((E1.trans E2).trans E4).trans E5), hO1.mono Ka, fun _ => ⟨_, hK, rfl⟩, fun h => absurd hz h⟩
  · have k1 : ∀ (w : World) (v : Value), ESl Ints w v p → Does Tryz.prog 161 [v, .int .i64 z] w (RetO w XI []) := fun w v h => by
      have := Rz w v p z h
      rw [show rfV p z = [] from if_neg hz] at this; exact this
    have k2 : ∀ (w : World) (v : Value), ESl Ints w v p → Does Tryz.prog 194 [v] w (RetO w XI (if Pic p then ints (kndL p) else [])) := fun w v h => spec_KindsOf_ok w v p h
    have hnil : (([] : List Int).length : Int) = 0 := rfl
    refine Zy Tryz.func165 rfl Tryz.results165 Tryz.ntmps165 rfl ?_
    focus
      refine Gs<|Vr rfl<|Gm<|Gs<|Zh v rfl<|Gz rfl<|Gu rfl (Vb (a := v) (b := .int _ _) Tryz.call161 rfl rfl) (k1 _ _ (h)) ?_; rintro u1 w1 ⟨E1, hO1⟩; have hs1 := E1.size; refine Vn u1 rfl<|Gm<|Gs<|Zh v rfl<|Gu rfl (Vh (a := v) Tryz.call194 rfl) (k2 _ _ ((Mono.mono E1 h))) ?_; rintro u2 w2 ⟨E2, hO2⟩; have hs2 := E2.size; refine Vn u2 rfl<|Gm<|Gt<|Gs<|Zh u1 rfl<|Zm Kn rfl (Owned.read hO1)<|Zs rfl<|Gm<|Gq rfl (fun h1 => ?_) (fun h1 => ?_); refine Gs<|Yb (XSl 3 XInt) rfl Ui Kv ?_; rintro b1 w3 hb1 b1lt E3 hO3; refine Vr rfl<|Gm<|Zd ?_; refine Zk (v := .slice _ _ _) rfl ?_; rotate_left; contradiction
    exact ⟨_, by exact ((E1.trans E2).trans E3), hO3.mono Ka, fun h => absurd h hz, fun _ => rfl⟩
end Go.Proofs.YtbgpppaljpngmaaGreatDoor
set_option linter.unusedVariables false
set_option linter.unusedSimpArgs false
namespace Go.Hs
def oxt (x : Nat) (o : List Nat) : List (List Nat) := ((List.range x).filter fun y => decide (1 ≤ y) && !o.contains y).map fun y => o ++ [y]
theorem ordS_succ (n k : Nat) : ordS n (k + 1) = (ordS n k).flatMap (oxt n) := rfl
theorem oxt_one (o : List Nat) : oxt 1 o = [] := rfl
theorem oxt_yes {x : Nat} {o : List Nat} (hx : 1 ≤ x) (h : o.contains x = false) : oxt (x + 1) o = oxt x o ++ [o ++ [x]] := by
  unfold oxt
  rw [Xl, decide_eq_true hx, h]
  simp
theorem oxt_no {x : Nat} {o : List Nat} (h : o.contains x = true) : oxt (x + 1) o = oxt x o := by
  unfold oxt
  rw [Xl, h]
  simp
theorem oxt_len (x : Nat) (o : List Nat) : (oxt x o).length ≤ x := by
  unfold oxt
  rw [List.length_map]
  exact Nat.le_trans (List.length_filter_le _ _) Ki
theorem flatMap_len {α β : Type} (f : α → List β) (m : Nat) : ∀ (l : List α), (∀ x ∈ l, (f x).length ≤ m) → (l.flatMap f).length ≤ l.length * m
  | [], _ => by simp
  | x :: l, h => by
    rw [List.flatMap_cons, List.length_append, List.length_cons]
    have := flatMap_len f m l fun y hy => h y (by simp [hy])
    have := h x Ki
    rw [Nat.succ_mul]; omega
theorem ordS_len (n : Nat) : ∀ k, (ordS n k).length ≤ n ^ k
  | 0 => by simp [ordS]
  | k + 1 => by
    rw [ordS_succ]
    have h1 := flatMap_len (oxt n) n (ordS n k) fun x _ => oxt_len n x
    have h2 := Nat.mul_le_mul_right n (ordS_len n k)
    rw [Nat.pow_succ]; omega
theorem ordS_len5 {n k : Nat} (hn : n ≤ 5) (hk : k ≤ 5) : (ordS n k).length ≤ 3125 := by
  have h1 := ordS_len n k
  have h2 : n ^ k ≤ 5 ^ k := Nat.pow_le_pow_left hn k
  have h3 : 5 ^ k ≤ 5 ^ 5 := Nat.pow_le_pow_right Ka hk
  have : (5 : Nat) ^ 5 = 3125 := rfl
  omega
theorem iis_get {D : List (List Nat)} {i : Nat} (h : i < (D.map ints).length) : (D.map ints)[i] = ints (D[i]'(by simpa using h)) := Ki
end Go.Hs
namespace Go.Proofs.YtbgpppaljpngmaaGreatDoor
open Go.Hs
set_option maxRecDepth 10000
set_option maxHeartbeats 4000000
set_option linter.unusedVariables false
set_option linter.unusedSimpArgs false
theorem l4Orders_ok (w : World) (n : Nat) (hn : 1 ≤ n ∧ n ≤ 5) : Does Tryz.prog 166 [.int .i64 (n : Int)] w (RetO w XR ((orders n).map ints)) := by
  refine Zy Tryz.func166 rfl Tryz.results166 Tryz.ntmps166 rfl ?_
  have keepR : True := trivial
  focus
    refine Gs<|Vr rfl<|Gm<|Gs<|Zw (ps := [(0, .int _ _)]) (cs := [_]) rfl Kn Kl Jg rfl rfl rfl rfl ?_; rintro b1 w1 hb1 E1 hB1 hHb1; have hlb1 := hB1.lt; refine Zw (ps := [(0, .slice _ _ _)]) (cs := [_]) rfl Kq Kv Jn rfl rfl rfl rfl ?_; rintro b2 w2 hb2 E2 hB2 hHb2; refine Vr rfl<|Gm<|Gt<|Gs<|Zr rfl<|Gm<|Gy ?_
  clear keepR
  have hOr : Owned w.heap.size XI w1 (.slice (some ⟨b1, 0, none⟩) 1 1) [0] := Owned.block hHb1 hb1 rfl Kc ⟨⟨rfl, rfl⟩, trivial⟩
  have hO0 : Owned w.heap.size XR w2 (.slice (some ⟨b2, 0, none⟩) 1 1) [[0]] := Owned.single (hOr.toB.ext E2) hHb2 Ka Ka
  clear hOr hHb1 hHb2 hB1 hB2
  refine Vf [3, 4, 5, 6, 7, 8, 9, 12, 13, 14, 15, 16, 17, 18, 19, 20, 21, 22, 23, 24, 25, 26, 27, 28, 29, 30, 31, 32, 33, 34, 35, 36, 37, 38, 39, 40, 41, 42, 43, 44, 45, 46, 47, 48, 49, 50, 51, 52, 53, 54, 55, 56, 57, 58, 59, 60, 61, 62, 63, 64] (fun ((k, u) : Nat × Value) => [(4, .int .i64 (k : Nat)), (3, u)]) (fun (k, u) w' => Ext w w' ∧ 1 ≤ k ∧ k ≤ n ∧ Owned w.heap.size XR w' u ((ordS n (k - 1)).map ints)) (fun x => n - x.1) (1, .slice (some ⟨b2, 0, none⟩) 1 1) Kg ?_ ?_
  · exact ⟨by first | assumption | exact E1.trans E2, Nat.le_refl _, hn.1, hO0⟩
  clear hO0
  rintro ⟨k, u⟩ ρj w3 ⟨E3, hk1, hkn, hO1⟩
  by_cases hlt : k < n
  · obtain ⟨D, hD⟩ : ∃ D, D = ordS n (k - 1) := ⟨_, rfl⟩
    have hDl : D.length ≤ 3125 := hD ▸ ordS_len5 hn.2 Ka
    have hDo : ∀ o ∈ D, o.length = k := fun o ho => by
      have := ((mem_ordS hn.1 (k - 1) o).1 (hD ▸ ho)).1
      omega
    rw [← hD] at hO1
    have hDm : (D.map ints).length = D.length := Ki
    have hR := hO1.read
    clear hO1
    focus
      have szE3 := E3.size; refine Gt<|Gs<|Gz rfl<|Gz rfl<|Zo rfl<|Gm<|Gq rfl (fun h1 => ?_) (fun h1 => ?_); refine Gx<|Gt<|Gy<|Gs<|Yb (XSl 3 XInt) rfl Ui Kv ?_; rintro b3 w4 hb3 b3lt E4 hO1; refine Vr rfl<|Gm<|Gt<|Gt<|Zl<|Zr rfl<|Gm<|Gy ?_; rotate_left; (exfalso; omega)
    refine Vf [5, 6, 7, 8, 9, 18, 19, 20, 21, 22, 23, 24, 25, 26, 27, 28, 29, 30, 31, 32, 33, 34, 35, 36, 37, 38, 39, 40, 41, 42, 43, 44, 45, 46, 47, 48, 49, 50, 51, 52, 53, 54, 55, 56, 57, 58, 59, 60, 61, 62, 63] (fun ((i, nx) : Nat × Value) => [(6, .int .i64 (i : Nat)), (5, nx)]) (fun (i, nx) w' => Ext w3 w' ∧ i ≤ D.length ∧ Owned w3.heap.size XR w' nx (((D.take i).flatMap (oxt n)).map ints)) (fun x => D.length - x.1) (0, .slice (some ⟨b3, 0, none⟩) 0 0) Kg ?_ ?_
    · exact ⟨Kd, Nat.zero_le _, by simpa using hO1⟩
    clear hO1
    rintro ⟨i, nx⟩ ρk w5 ⟨E5, hi, hO1⟩
    by_cases hil : i < D.length
    · have hgi := iis_get (D := D) (i := i) Ka
      have hol := hDo D[i] (List.getElem_mem hil)
      have hil2 := Yg D[i]
      have hfl : ((D.take i).flatMap (oxt n)).length ≤ 15625 := by
        have := flatMap_len (oxt n) n (D.take i) fun x _ => oxt_len n x
        have h2 : (D.take i).length ≤ 3125 := by simp; omega
        have h3 := Nat.mul_le_mul h2 hn.2
        omega
      focus
        refine Gt<|Gs<|Gz rfl<|Zh u rfl<|Zm Kq rfl hR<|Zo rfl<|Gm<|Gq rfl (fun h2 => ?_) (fun h2 => ?_); refine Gx<|Gt<|Gy<|Gs<|Zr rfl<|Gm<|Gy ?_; rotate_left; (exfalso; omega)
      refine Vf [5, 7, 8, 9, 24, 25, 26, 27, 28, 29, 30, 31, 32, 33, 34, 35, 36, 37, 38, 39, 40, 41, 42, 43, 44, 45, 46, 47, 48, 49, 50, 51, 52, 53, 54, 55, 56, 57, 58, 59, 60, 61, 62, 63] (fun ((x, nx) : Nat × Value) => [(7, .int .i64 (x : Nat)), (5, nx)]) (fun (x, nx) w' => Ext w3 w' ∧ 1 ≤ x ∧ x ≤ n ∧ Owned w3.heap.size XR w' nx (((D.take i).flatMap (oxt n) ++ oxt x D[i]).map ints)) (fun x => n - x.1) (1, nx) Kg ?_ ?_
      · exact ⟨Kd, Nat.le_refl _, hn.1, by rw [oxt_one]; simpa using hO1⟩
      clear hO1
      rintro ⟨x, ny⟩ ρl w6 ⟨E6, hx1, hxn, hO1⟩
      have hml : (((D.take i).flatMap (oxt n) ++ oxt x D[i]).map ints).length ≤ 15630 := by
        have := oxt_len x D[i]
        simp only [List.length_map, List.length_append]; omega
      by_cases hxl : x < n
      · focus
          have szE6 := E6.size; refine Gt<|Gs<|Gz rfl<|Gz rfl<|Zo rfl<|Gm<|Gq rfl (fun h3 => ?_) (fun h3 => ?_); refine Gx<|Gt<|Gy<|Gs<|Zc rfl<|Gm<|Gt<|Gs<|Zr rfl<|Gm<|Gy ?_; rotate_left; (exfalso; omega)
        refine Vf [8, 9, 29, 30, 31, 32, 33, 34, 35, 36, 37, 38, 39, 40, 41, 42, 43, 44, 45, 46, 47, 48, 49] (fun ((j, f) : Nat × Bool) => [(9, .int .i64 (j : Nat)), (8, .bool f)]) (fun (j, f) w' => Ext w6 w' ∧ j ≤ D[i].length ∧ f = (D[i].take j).contains x) (fun y => D[i].length - y.1) (0, false) Kg ?_ ?_
        · exact ⟨Ext.refl _, Nat.zero_le _, Ki⟩
        rintro ⟨j, f⟩ ρm w7 ⟨E7, hj, hf⟩
        by_cases hjl : j < D[i].length
        · have hgj : (ints D[i])[j]'Ka = (D[i][j] : Int) := Xr hjl
          have hts := Vl _ _ hjl
          have hgg : ((D.map ints)[i]'Ka)[j]'(by rw [hgi]; omega) = (D[i][j] : Int) := by simp only [hgi]; exact hgj
          have hrl : ((D.map ints)[i]'Ka).length = D[i].length := by rw [hgi]; exact hil2
          have hct : (D[i].take (j + 1)).contains x = ((D[i].take j).contains x || decide (D[i][j] = x)) := by
            rw [hts, Bool.eq_iff_iff]
            simp only [List.contains_eq_mem, List.mem_append, List.mem_singleton, decide_eq_true_eq, Bool.or_eq_true]
            exact or_congr Iff.rfl ⟨fun h => h.symm, fun h => h.symm⟩
          cases f
          · focus
              refine Gt<|Gs<|Gz rfl<|Zh u rfl<|Gz rfl<|Vm Kq Kv Ja rfl (fun _ => rfl) rfl hR exq rfl Kf ?_; rintro _ u1 hu1; refine Zm Kn rfl hu1<|Zo rfl<|Gm<|Gq rfl (fun h4 => ?_) (fun h4 => ?_); refine Gx<|Gt<|Gy<|Zl<|Vq rfl<|Vq rfl<|Zh u rfl<|Gz rfl<|Vm Kq Kv Ja rfl (fun _ => rfl) rfl hR exq rfl Kf ?_; rintro _ u2 hu2; refine Gz rfl<|Vm Kn Kl Km rfl (fun _ => rfl) rfl hu2 exq rfl Kf ?_; rintro _ _ rfl; refine Gz rfl<|Zs rfl<|Vc rfl<|Zc rfl<|Gm<|Zl<|Gz rfl ?_
              refine Va rfl<|Zr rfl<|Gm ?_; rotate_left; (exfalso; omega)
            refine ⟨((j + 1, decide (((D.map ints)[i]'Ka)[j]'(by rw [hgi]; omega) = (x : Int)))), Kg, Kh, ?_, ?_⟩
            · refine ⟨by exact E7, Ka, ?_⟩
              rw [hct, ← hf, Bool.false_or, decide_eq_decide, hgg]
              omega
            · simp only; omega
          · focus
              refine Gt<|Gs<|Gz rfl<|Zh u rfl<|Gz rfl<|Vm Kq Kv Ja rfl (fun _ => rfl) rfl hR exq rfl Kf ?_; rintro _ u1 hu1; refine Zm Kn rfl hu1<|Zo rfl<|Gm<|Gq rfl (fun h4 => ?_) (fun h4 => ?_); refine Gx<|Gt<|Gy<|Zl<|Vq rfl<|Vq rfl<|Gn rfl<|Gn rfl<|Gn rfl<|Gn rfl<|Gn rfl<|Gn rfl<|Gn rfl<|Gn rfl<|Gn rfl<|Vw rfl<|Zc rfl<|Gm<|Zl<|Gz rfl<|Va rfl<|Zr rfl<|Gm ?_; rotate_left; (exfalso; omega)
            refine ⟨((j + 1, true)), Kg, Kh, ?_, ?_⟩
            · refine ⟨by exact E7, Ka, ?_⟩
              rw [hct, ← hf]; rfl
            · simp only; omega
        · obtain rfl : j = D[i].length := by omega
          rw [List.take_length] at hf
          have hrl : ((D.map ints)[i]'Ka).length = D[i].length := by rw [hgi]; exact hil2
          cases f
          · focus
              have szE7 := E7.size; have szE6 := E6.size; have szE3 := E3.size; refine Gt<|Gs<|Gz rfl<|Zh u rfl<|Gz rfl<|Vm Kq Kv Ja rfl (fun _ => rfl) rfl hR exq rfl Kf ?_; rintro _ u1 hu1; refine Zm Kn rfl hu1<|Zo rfl<|Gm<|Gq rfl (fun h4 => ?_) (fun h4 => ?_); (exfalso; omega); refine Ve ?_; refine Zi ?_; refine Gs<|Vq rfl<|Vt rfl<|Gm<|Vv rfl (fun h5 => ?_) (fun h5 => ?_); refine Zl<|Zh ny rfl<|Yb XInt rfl Ug Kl ?_; rintro b4 w8 hb4 b4lt E8 hO2; have hs4 := E8.size; refine Zh u rfl<|Gz rfl<|Vm Kq Kv Ja rfl (fun _ => rfl) rfl hR exq rfl Kf ?_; rintro _ u2 hu2
              refine Wo_appS rfl Ug rfl rfl (Mono.mono ((E6.trans E7).trans E8) hu2) hO2.toB Kf Ka Ka (((E3.trans E6).trans E7).trans E8) Ka ?_; have hT1 := hO2.toB; rintro v1 w9 hO2 E9 M1; have E10 := M1.ext hT1 ((E6.trans E7).trans E8) Ka; have E11 := M1.ext hT1 (E7.trans E8) Ka; have E12 := M1.ext hT1 E8 Ka; have szE12 := E12.size; have hO1 := (hO1.toB.ext exq).moves M1 hT1 Ka; refine Gz rfl<|Zw (ps := [(0, .int _ _)]) (cs := [_]) rfl Kn Kl Jg rfl rfl rfl rfl ?_; rintro b5 w10 hb5 E13 hB1 hHb5; have hs6 := E13.size; refine Yf rfl Ug rfl rfl hB1 (hO2.toB.ext E13) Owned.int (Nat.le_refl _) Kf Ka Ka (E9.trans E13) Ka ?_; have hT2 := (hO2.toB.ext E13); rintro v2 w11 hO2 E14 M2
              have E15 := M2.ext hT2 (E10.trans E13) Ka; have szE15 := E15.size; have hO1 := (hO1.ext E13).moves M2 hT2 Ka; refine Ym rfl Kq Kv Jn rfl (OwnedB.isC hO2.toB) rfl ?_; rintro b6 w12 hb6 E18 hB2 hHb6; have hs8 := E18.size; refine Yf rfl Ui rfl rfl hB2 (hO1.ext E18) (hO2.toB.ext E18).o Ka Kf Ka Ka (E14.trans E18) Ka ?_; have hT3 := (hO1.ext E18); rintro v3 w13 hO1 E19 M3; have E20 := M3.ext hT3 (E15.trans E18) Ka; refine Vn v3 rfl<|Gm<|Zl<|Gz rfl<|Va rfl<|Zr rfl<|Gm ?_; rotate_left; contradiction
            refine ⟨((x + 1, v3)), Kg, Kh, ?_, ?_⟩
            · refine ⟨by exact E20, Ka, Ka, ?_⟩
              rw [oxt_yes hx1 hf.symm, ← List.append_assoc, List.map_append]
              have e : [ints (D[i] ++ [x])] = [[] ++ (D.map ints)[i]'Ka ++ [(x : Int)]] := by rw [ints_append, hgi]; rfl
              rw [List.map_cons, List.map_nil, e]
              assumption
            · simp only; omega
          · focus
              refine Gt<|Gs<|Gz rfl<|Zh u rfl<|Gz rfl<|Vm Kq Kv Ja rfl (fun _ => rfl) rfl hR exq rfl Kf ?_; rintro _ u1 hu1; refine Zm Kn rfl hu1<|Zo rfl<|Gm<|Gq rfl (fun h4 => ?_) (fun h4 => ?_); (exfalso; omega); refine Ve ?_; refine Zi ?_; refine Gs<|Vq rfl<|Vt rfl<|Gm<|Vv rfl (fun h5 => ?_) (fun h5 => ?_); contradiction; refine Gx<|Zl<|Gz rfl<|Va rfl<|Zr rfl<|Gm ?_
            refine ⟨((x + 1, ny)), Kg, Kh, ?_, ?_⟩
            · refine ⟨by exact exq, Ka, Ka, ?_⟩
              rw [oxt_no hf.symm]
              exact (Mono.mono E7 hO1)
            · simp only; omega
      · obtain rfl : x = n := by omega
        focus
          refine Gt<|Gs<|Gz rfl<|Gz rfl<|Zo rfl<|Gm<|Gq rfl (fun h3 => ?_) (fun h3 => ?_); (exfalso; omega); refine Ve ?_; refine Zi ?_; refine Zl<|Gz rfl<|Va rfl<|Zr rfl<|Gm ?_
        refine ⟨((i + 1, ny)), Kg, Kh, ?_, ?_⟩
        · refine ⟨by exact E6, Ka, ?_⟩
          rw [Vl _ _ hil, List.flatMap_append, List.flatMap_cons, List.flatMap_nil, List.append_nil]
          exact hO1
        · simp only; omega
    · obtain rfl : i = D.length := by omega
      focus
        have szE5 := E5.size; have szE4 := E4.size; have szE3 := E3.size; have szE2 := E2.size; have szE1 := E1.size; refine Gt<|Gs<|Gz rfl<|Zh u rfl<|Zm Kq rfl hR<|Zo rfl<|Gm<|Gq rfl (fun h2 => ?_) (fun h2 => ?_); (exfalso; omega); refine Ve ?_; refine Zi ?_; refine Zl<|Zh nx rfl<|Vn nx rfl<|Gm<|Zl<|Gz rfl<|Va rfl<|Zr rfl<|Gm ?_
      refine ⟨((k + 1, nx)), Kg, Kh, ?_, ?_⟩
      · refine ⟨by exact (E3.trans E5), Ka, Ka, ?_⟩
        rw [show k + 1 - 1 = (k - 1) + 1 by omega, ordS_succ, ← hD]
        rw [List.take_length] at hO1
        exact hO1.mono Ka
      · simp only; omega
  · obtain rfl : k = n := by omega
    focus
      refine Gt<|Gs<|Gz rfl<|Gz rfl<|Zo rfl<|Gm<|Gq rfl (fun h1 => ?_) (fun h1 => ?_); (exfalso; omega); refine Ve ?_; refine Zi ?_; refine Gs<|Zh u rfl<|Vn u rfl<|Gm<|Zd ?_; exact ⟨E3, hO1.toB.o.mono Ka⟩
theorem Reordered_ok (w : World) (v u : Value) (c : List (List Int)) (o : List Nat) (h : ESl Ints w v c) (hu : Ints w u (ints o)) (hc : Pic c) (ho : Ord c.length o) :
    Does Tryz.prog 167 [v, u] w (RetO w XR (reo c o)) := by
  have hp5 := hc.2.1
  obtain ⟨hol, hnd, hhd, hlt⟩ := id ho
  have hil := Yg o
  have k1 : ∀ (w : World) (v : Value), ESl Ints w v c → Does Tryz.prog 115 [v] w (Ret w (.bool true)) := fun w v h => by
    have := Xi w v c h
    rw [decide_eq_true hc] at this; exact this
  have h2 := pow_le5 (k := c.length) Ka
  have h1p : ∀ j, j < c.length → 1 <<< j < 2 ^ c.length := fun j hj => by rw [Nat.one_shiftLeft]; exact Nat.pow_lt_pow_right Ka hj
  have h1b : ∀ j k, (1 <<< j).testBit k = decide (j = k) := fun j k => by rw [Nat.one_shiftLeft, Nat.testBit_two_pow]
  have hsh : ((1 <<< c.length : Nat) : Int) = ((2 ^ c.length : Nat) : Int) := by rw [Nat.one_shiftLeft]
  have hgo : ∀ (k : Nat) (hk : k < o.length), (ints o)[k]'Ka = (o[k] : Int) := fun k hk => Xr hk
  refine Zy Tryz.func167 rfl Tryz.results167 Tryz.ntmps167 rfl ?_
  focus
    refine Gs<|Vr rfl<|Gm<|Gs<|Yb (XSl 3 XInt) rfl Ui Kv ?_; rintro b1 w1 hb1 b1lt E1 hO1; refine Vr rfl<|Gm<|Gt<|Gs<|Zh v rfl<|Gu rfl (Vh (a := v) Js rfl) (k1 _ _ ((Mono.mono E1 h))) ?_; rintro _ w2 ⟨rfl, E2⟩; refine Vt rfl<|Vx rfl (Zt (v := .bool _) rfl) (fun h1 => ?_) (fun h1 => ?_); contradiction; refine Zh u rfl<|Zm Kn rfl hu<|Zh v rfl<|Zm Kq rfl h<|Uc rfl<|Vc rfl<|Gm<|Zx rfl (fun h3 => ?_) (fun h3 => ?_); (exfalso; omega); refine Gx<|Gs<|Zr rfl<|Gm<|Gt<|Gs<|Zr rfl<|Gm<|Gy ?_
  refine Vf [4, 6, 7, 23, 24, 25, 26, 27, 28, 29, 30, 31, 32, 33, 34, 35, 36, 37, 38, 39, 40, 41, 42, 43, 44, 45] (fun ((k, M) : Nat × Nat) => [(7, .int .i64 (k : Nat)), (6, .int .i64 (M : Nat))]) (fun (k, M) w' => Ext w2 w' ∧ k ≤ c.length ∧ M < 2 ^ c.length ∧ ∀ j, M.testBit j = (o.take k).contains j) (fun x => c.length - x.1) (0, 0) Kg ?_ ?_
  · exact ⟨Ext.refl _, Nat.zero_le _, Nat.two_pow_pos _, fun j => Ki⟩
  rintro ⟨k, M⟩ ρj w3 ⟨E3, hk, hM, hB⟩
  by_cases hkl : k < c.length
  · have hok := hlt o[k] (List.getElem_mem Ka)
    have hgk := hgo k Ka
    have hsl := shl_le (g := 1) (k := o[k]) Ka Ka
    have hts := Vl o k Ka
    have hsl2 : (1 : Int).toNat <<< ((ints o)[k]'Ka).toNat ≤ 4096 := by simp only [hgk, Int.toNat_natCast]; exact Nat.le_trans hsl Ka
    focus
      refine Gt<|Gs<|Gz rfl<|Zh u rfl<|Zm Kn rfl hu<|Zo rfl<|Gm<|Gq rfl (fun h4 => ?_) (fun h4 => ?_); refine Gx<|Gt<|Gy<|Gt<|Gs<|Zh u rfl<|Gz rfl<|Vm Kn Kl Km rfl (fun _ => rfl) rfl hu exq rfl Kf ?_; rintro _ _ rfl; refine Zh v rfl<|Zm Kq rfl h<|Qk rfl<|Gu rfl (Sy (a := .int _ _) (b := .int _ _) (c := .int _ _) Jr rfl rfl rfl) (Qe _ _ _ _) ?_; rintro _ w4 ⟨rfl, E4⟩; refine Vt rfl<|Gm<|Zx rfl (fun h5 => ?_) (fun h5 => ?_); (exfalso; omega); refine Gx<|Zl<|Gz rfl<|Zh u rfl<|Gz rfl ?_
      refine Vm Kn Kl Km rfl (fun _ => rfl) rfl hu exq rfl Kf ?_; rintro _ _ rfl; refine Wo rfl (opv_shl rfl rfl Ka) ?_; refine Wo rfl (opv_or rfl rfl ⟨Int.natCast_nonneg _, Ka, Int.natCast_nonneg _, Int.le_trans (Int.ofNat_le.2 (show _ ≤ 4096 by assumption)) Kc⟩) ?_; refine Zr rfl<|Gm<|Zl<|Gz rfl<|Va rfl<|Zr rfl<|Gm ?_; rotate_left; (exfalso; omega)
    refine ⟨((k + 1, (M : Int).toNat ||| (((1 : Int).toNat <<< ((ints o)[k]'Ka).toNat : Nat) : Int).toNat)), Kg, Kh, ?_, ?_⟩
    · have e : (M : Int).toNat ||| (((1 : Int).toNat <<< ((ints o)[k]'Ka).toNat : Nat) : Int).toNat = M ||| 1 <<< o[k] := by simp only [hgk, Int.toNat_natCast]; rfl
      rw [e]
      refine ⟨by exact (E3.trans E4), Ka, Nat.or_lt_two_pow hM (h1p _ hok), fun j => ?_⟩
      rw [Nat.testBit_or, hB, h1b, hts, Bool.eq_iff_iff]
      simp only [List.contains_eq_mem, List.mem_append, List.mem_singleton, decide_eq_true_eq, Bool.or_eq_true]
      exact or_congr Iff.rfl ⟨fun h => h.symm, fun h => h.symm⟩
    · simp only; omega
  · obtain rfl : k = c.length := by omega
    have hMe : M = 2 ^ c.length - 1 := by
      apply Nat.eq_of_testBit_eq
      intro j
      rw [hB, Nat.testBit_two_pow_sub_one, List.take_of_length_le Ka, List.contains_eq_mem, decide_eq_decide, ho.perm.mem_iff, List.mem_range]
    have hs1 : (((1 : Int).toNat <<< ((c.length : Nat) : Int).toNat : Nat) : Int) = ((2 ^ c.length : Nat) : Int) := by rw [Int.toNat_natCast, show (1 : Int).toNat = 1 from rfl, Nat.one_shiftLeft]
    have hs2 := Nat.one_le_two_pow (n := c.length)
    have hrl := reo_len (c := c) (o := o)
    focus
      refine Gt<|Gs<|Gz rfl<|Zh u rfl<|Zm Kn rfl hu<|Zo rfl<|Gm<|Gq rfl (fun h4 => ?_) (fun h4 => ?_); (exfalso; omega); refine Ve ?_; refine Zi ?_; refine Gt<|Gs<|Gz rfl<|Zh v rfl<|Zm Kq rfl h<|Wo rfl (opv_shl rfl rfl Ka) ?_; refine Qk rfl<|Uc rfl<|Gm<|Zx rfl (fun h5 => ?_) (fun h5 => ?_); (exfalso; omega); refine Gx<|Gt<|Gs<|Zr rfl<|Gm<|Gy ?_
    refine Vf [5, 8, 9, 10, 53, 54, 55, 56, 57, 58, 59, 60, 61, 62, 63, 64, 65, 66, 67, 68, 69, 70, 71, 72, 73, 74, 75, 76, 77, 78, 79, 80, 81, 82, 83, 84, 85] (fun ((k, x) : Nat × Value) => [(8, .int .i64 (k : Nat)), (5, x)]) (fun (k, x) w' => Ext w w' ∧ k ≤ c.length ∧ Owned w.heap.size XR w' x ((reo c o).take k)) (fun x => c.length - x.1) (0, .slice (some ⟨b1, 0, none⟩) 0 0) Kg ?_ ?_
    · exact ⟨by exact ((E1.trans E2).trans E3), Nat.zero_le _, by rw [List.take_zero]; exact (Mono.mono (E2.trans E3) hO1)⟩
    clear hO1
    rintro ⟨k, x⟩ ρk w4 ⟨E4, hk, hO1⟩
    by_cases hkl : k < c.length
    · have hok := hlt o[k] (List.getElem_mem Ka)
      have hgk := hgo k Ka
      have hrow := hc.row (i := o[k]) Ka
      have hck : (c[((ints o)[k]'Ka).toNat]'(by simp only [hgk, Int.toNat_natCast]; omega)).length = c.length := by simp only [hgk, Int.toNat_natCast]; exact hrow
      have htl : ((reo c o).take k).length = k := by simp; omega
      focus
        have szE4 := E4.size; refine Gt<|Gs<|Gz rfl<|Zh u rfl<|Zm Kn rfl hu<|Zo rfl<|Gm<|Gq rfl (fun h6 => ?_) (fun h6 => ?_); refine Gx<|Gt<|Gy<|Gs<|Yb XInt rfl Ug Kl ?_; rintro b2 w5 hb2 b2lt E5 hO2; have hs3 := E5.size; refine Vr rfl<|Gm<|Gt<|Gs<|Zr rfl<|Gm<|Gy ?_; rotate_left; (exfalso; omega)
      refine Vf [9, 10, 60, 61, 62, 63, 64, 65, 66, 67, 68, 69, 70, 71, 72, 73, 74, 75, 76, 77, 78, 79, 80, 81] (fun ((j, r) : Nat × Value) => [(10, .int .i64 (j : Nat)), (9, r)]) (fun (j, r) w' => Ext w w' ∧ w4.heap.size ≤ w'.heap.size ∧ j ≤ c.length ∧ OwnedB w.heap.size w4.heap.size XR w' x ((reo c o).take k) ∧ Owned w4.heap.size XI w' r ((o.map fun m => bit c o[k] m).take j)) (fun x => c.length - x.1) (0, .slice (some ⟨b2, 0, none⟩) 0 0) Kg ?_ ?_
      · exact ⟨by exact (E4.trans E5), Ka, Nat.zero_le _, hO1.toB.ext (by exact E5), by simpa using hO2⟩
      clear hO1 hO2
      rintro ⟨j, r⟩ ρl w6 ⟨E6, hs6, hj, hO1, hO2⟩
      have hml : (o.map fun m => bit c o[k] m).length = c.length := by simp; omega
      have htl2 : ((o.map fun m => bit c o[k] m).take j).length = j := by simp; omega
      by_cases hjl : j < c.length
      · have hoj := hlt o[j] (List.getElem_mem Ka)
        have hgj := hgo j Ka
        have hel : (c[((ints o)[k]'Ka).toNat]'(by simp only [hgk, Int.toNat_natCast]; omega))[((ints o)[j]'Ka).toNat]'(by rw [hck]; simp only [hgj, Int.toNat_natCast]; omega) = bit c o[k] o[j] := by
          simp only [hgk, hgj, Int.toNat_natCast]
          unfold bit
          rw [Vg hok, Vg (show o[j] < c[o[k]].length by rw [hrow]; exact hoj)]
        have heldS : w = w := rfl
        focus
          have szE4 := E4.size; refine Gt<|Gs<|Gz rfl<|Zh u rfl<|Zm Kn rfl hu<|Zo rfl<|Gm<|Gq rfl (fun h7 => ?_) (fun h7 => ?_); refine Gx<|Gt<|Gy<|Qb (fun w' => Ext w w') Yn rfl Kb ?_; intro w7 E7 K1 hz1; refine WtmV 0 r rfl rfl exq<|WtmV 1 v rfl rfl exq<|WtmV 2 u rfl rfl exq<|WtmI 3 rfl rfl exq<|Wh_get 4 5 rfl Kb Kb rfl rfl Kb Kb (fun _ => rfl) Kn Kl Km rfl hu (fun w' hw' => Ext.trans (Ext.refl _) hw') rfl Kf exq ?_; rintro _ _ rfl
          refine Wh_get_z 6 7 rfl Kb Kb rfl rfl Kb Kb (fun _ => rfl) Kq Kv Ja rfl h (fun w' hw' => Ext.trans (Ext.refl _) hw') rfl Kf exq ?_; rintro _ u1 hu1; refine WtmV 8 u rfl rfl exq<|WtmI 9 rfl rfl exq<|Wh_get 10 11 rfl Kb Kb rfl rfl Kb Kb (fun _ => rfl) Kn Kl Km rfl hu (fun w' hw' => Ext.trans (Ext.refl _) hw') rfl Kf exq ?_; rintro _ _ rfl; refine Wh_get_z 12 13 rfl Kb Kb rfl rfl Kb Kb (fun _ => rfl) Kn Kl Km rfl hu1 (fun w' hw' => Ext.trans (Ext.refl _) hw') rfl Kf exq ?_
          rintro _ _ rfl; refine Wha [14]<|Gp rfl ?_ ?_; refine Zw (ps := [(0, .int _ _)]) (cs := [_]) rfl Kn Kl Jg rfl rfl rfl rfl ?_; rintro b3 w8 hb3 E8 hB1 hHb3; have hlb3 := hB1.lt; have hs5 := E8.size; refine Gm ?_; refine ⟨exq, ?_⟩; refine Wha [15]<|Gp rfl ?_ ?_; refine Yf rfl Ug rfl rfl hB1 (hO2.toB.ext (E7.trans E8)) Owned.int (Nat.le_refl _) Kf Ka Ka ((E6.trans E7).trans E8) Ka ?_; have hT1 := (hO2.toB.ext (E7.trans E8)); rintro v1 w9 hO2 E9 M1; have hO1 := (hO1.ext exq).moves M1 hT1 Ka; refine Gm ?_; refine ⟨E9, ?_⟩; refine WtaV 16 v1 rfl rfl E9<|Vd Kb ?_; refine Zl<|Gz rfl<|Va rfl<|Zr rfl<|Gm ?_; rotate_left; exact Gv; exact Gv; (exfalso; omega)
        refine ⟨((j + 1, v1)), Kg, Kh, ?_, ?_⟩
        · refine ⟨by exact E9, by have := M1.1.size; omega, Ka, by exact hO1, ?_⟩
          rw [Vl _ _ Ka]
          have e : (o.map fun m => bit c o[k] m)[j]'Ka = bit c o[k] o[j] := Ki
          rw [e, ← hel]
          assumption
        · simp only; omega
      · obtain rfl : j = c.length := by omega
        obtain ⟨rb, rc, rfl, _⟩ := hO2.lit Ka
        have hrb := hO2.lt_own (k := rb) rfl
        focus
          have szE4 := E4.size; refine Gt<|Gs<|Gz rfl<|Zh u rfl<|Zm Kn rfl hu<|Zo rfl<|Gm<|Gq rfl (fun h7 => ?_) (fun h7 => ?_); contradiction; refine Ve ?_; refine Zi ?_; refine Zl<|Zh x rfl<|Xj rfl<|Yc (ps := [(0, .slice _ _ _)]) (cs := [_]) rfl Kq Kv Jn rfl rfl rfl rfl ?_; rintro b3 w7 hb3 E7 hB1; have hlb3 := hB1.lt; refine Yf rfl Ui rfl rfl hB1 (hO1.ext E7) (hO2.toB.ext E7).o Ka Kf Ka Ka (E6.trans E7) Ka ?_; rintro v1 w8 hO1 E8 M1; refine Vn v1 rfl<|Gm<|Zl<|Gz rfl<|Va rfl<|Zr rfl<|Gm ?_
        refine ⟨((k + 1, v1)), Kg, Kh, ?_, ?_⟩
        · refine ⟨by exact E8, Ka, ?_⟩
          rw [Vl _ _ Ka]
          have e : (reo c o)[k]'Ka = (o.map fun m => bit c o[k] m).take c.length := by rw [List.take_of_length_le Ka]; simp [reo]
          rw [e]
          assumption
        · simp only; omega
    · obtain rfl : k = c.length := by omega
      focus
        refine Gt<|Gs<|Gz rfl<|Zh u rfl<|Zm Kn rfl hu<|Zo rfl<|Gm<|Gq rfl (fun h6 => ?_) (fun h6 => ?_); contradiction; refine Ve ?_; refine Zi ?_; refine Gs<|Zh x rfl<|Vn x rfl<|Gm<|Zd ?_; refine ⟨E4, (congrArg (Owned _ _ _ _) ?_).mp (hO1.toB.o.mono Ka)⟩
      rw [List.take_of_length_le Ka]
theorem Qg (w : World) (v : Value) (p : List (List Int)) (h : ESl Ints w v p) (z : Int) : Does Tryz.prog 126 [v, .int .i64 z] w (RetO w XR (if Nod p z then lst p z.toNat else [])) := by
  have hle := h.le
  have k1 : ∀ (w : World) (v : Value), ESl Ints w v p → Does Tryz.prog 165 [v, .int .i64 z] w (RetDX w XR (fun c => (Nod p z → Cand p z.toNat c) ∧ (¬ Nod p z → c = []))) := fun w v h => JoinedOf_ok w v p h z
  refine Zy Tryz.func126 rfl Tryz.results126 Tryz.ntmps126 rfl ?_
  have stop2 : True := trivial
  focus
    refine Gs<|Vr rfl<|Gm<|Gs<|Zh v rfl<|Gz rfl<|Gu rfl (Vb (a := v) (b := .int _ _) Tryz.call165 rfl rfl) (k1 _ _ (h)) ?_; rintro u1 w1 ⟨x1, E1, hO1, hy1⟩; have hs1 := E1.size; refine Vn u1 rfl<|Gm<|Gt<|Gt ?_
  clear stop2
  by_cases hz : Nod p z
  · rw [if_pos hz]
    have hC := hy1.1 hz
    obtain ⟨hp, hz0, hz1⟩ := id hz
    have hi : z.toNat < p.length := Ka
    have hcg := hC.gr hp.gr hi
    have hcl : x1.length ≤ p.length := by
      obtain ⟨L, hL, rfl⟩ := hC
      rw [qp_len]; exact (hL.len hp.gr hi).2
    have hp5 := hp.2.1
    have hcp := hC.pic hp.gr hi Ka
    have hc1 := hcp.1
    have k2 : ∀ (w : World), Does Tryz.prog 166 [.int .i64 (x1.length : Int)] w (RetO w XR ((orders x1.length).map ints)) := fun w => l4Orders_ok w _ ⟨Ka, Ka⟩
    focus
      have szE1 := E1.size; refine Zl<|Zh u1 rfl<|Zm Kq rfl (Owned.read hO1)<|Zs rfl<|Gm<|Gq rfl (fun h1 => ?_) (fun h1 => ?_); (exfalso; omega); refine Gx<|Gs<|Zh u1 rfl<|Vn u1 rfl<|Gm<|Gs<|Zh u1 rfl<|Zm Kq rfl (Owned.read hO1)<|Gu rfl (Vh (a := .int _ _) Tryz.call166 rfl) (k2 _) ?_; rintro u2 w2 ⟨E2, hO2⟩; have hs2 := E2.size; refine Vn u2 rfl<|Gm<|Gt<|Gt<|Zl<|Zr rfl<|Gm<|Gy ?_
    have hlo : (orders x1.length).length ≤ 3125 := ordS_len5 Ka Ka
    have hlm : ((orders x1.length).map ints).length = (orders x1.length).length := Ki
    have r2 := hO2.read
    have hO1' := hO1.ext (by assumption : Ext w1 w2)
    refine Vf [6, 8, 9, 21, 22, 23, 24, 25, 26, 27, 28, 29, 30, 31, 32, 33, 34, 35, 36, 37, 38] (fun ((k, u, bs) : Nat × Value × List (List Int)) => [(8, .int .i64 (k : Nat)), (6, u)]) (fun (k, u, bs) w' => Ext w2 w' ∧ k ≤ (orders x1.length).length ∧ Owned w.heap.size XR w' u bs ∧ Cand p z.toNat bs ∧ bs = ((orders x1.length).take k).foldl (fun best o => lstep x1 best (reo x1 o)) x1) (fun x => (orders x1.length).length - x.1) (0, u1, x1) Kg ?_ ?_
    · exact ⟨Ext.refl _, Nat.zero_le _, hO1', hC, rfl⟩
    rintro ⟨k, u, bs⟩ ρj w3 ⟨E3, hk, hOb, hCb, hbs⟩
    by_cases hlt : k < (orders x1.length).length
    · have hgo := iis_get (D := orders x1.length) (i := k) Ka
      have hOrd := (mem_orders Ka).1 (List.getElem_mem hlt)
      have hcb := hCb.pic hp.gr hi (by have := hCb.len hC; omega)
      have hcr := reo_cand hC hOrd
      have hcrp := hcr.pic hp.gr hi (by have := hcr.len hC; omega)
      have k3 : ∀ (w : World) (v u : Value), ESl Ints w v x1 → Ints w u ((orders x1.length).map ints)[k] → Does Tryz.prog 167 [v, u] w (RetO w XR (reo x1 (orders x1.length)[k])) := fun w v u h h' => Reordered_ok w v u x1 _ h (hgo ▸ h') hcp hOrd
      have k4 : ∀ (w : World) (v : Value), ESl Ints w v bs → Does Tryz.prog 62 [v] w (Ret w (str (txt bs))) := fun w v h => by
        have := Yv w v bs h
        rw [if_pos hcb] at this; exact this
      have k5 : ∀ (w : World) (v : Value), ESl Ints w v (reo x1 (orders x1.length)[k]) → Does Tryz.prog 62 [v] w (Ret w (str (txt (reo x1 (orders x1.length)[k])))) := fun w v h => by
        have := Yv w v _ h
        rw [if_pos hcrp] at this; exact this
      have hstep : ((orders x1.length).take (k + 1)).foldl (fun best o => lstep x1 best (reo x1 o)) x1 = lstep x1 bs (reo x1 (orders x1.length)[k]) := by rw [Vl _ _ hlt, List.foldl_append, ← hbs]; rfl
      focus
        have szE3 := E3.size; have szE2 := E2.size; have szE1 := E1.size; refine Gt<|Gs<|Gz rfl<|Zh u2 rfl<|Zm Kq rfl r2<|Zo rfl<|Gm<|Gq rfl (fun h2 => ?_) (fun h2 => ?_); refine Gx<|Gt<|Gy<|Gt<|Zl<|Zh u1 rfl<|Zh u2 rfl<|Gz rfl<|Vm Kq Kv Ja rfl (fun _ => rfl) rfl r2 E3 rfl Kf ?_; rintro _ u3 hu1; refine Gu rfl (Vb (a := u1) (b := u3) Tryz.call167 rfl rfl) (k3 _ _ _ ((Mono.mono E3 (Owned.read hO1'))) ((Mono.mono E3 hu1))) ?_; rintro u4 w4 ⟨E4, hO3⟩; have hs3 := E4.size; refine Vn u4 rfl<|Gm<|Gs<|Zh u4 rfl<|Gu rfl (Vh (a := u4) Jm rfl) (k5 _ _ ((Owned.read hO3))) ?_; rintro _ w5 ⟨rfl, E5⟩; have hs4 := E5.size
        refine Zh u rfl<|Gu rfl (Vh (a := u) Jm rfl) (k4 _ _ ((Mono.mono exq (Owned.read hOb)))) ?_; rintro _ w6 ⟨rfl, E6⟩; have hs5 := E6.size; refine Wo rfl (opv_lss_str rfl rfl)<|Gm<|Vv rfl (fun h3 => ?_) (fun h3 => ?_); refine Zl<|Zh u4 rfl<|Vn u4 rfl<|Gm<|Zl<|Gz rfl<|Va rfl<|Zr rfl<|Gm ?_; rotate_left; refine Gx<|Zl<|Gz rfl<|Va rfl<|Zr rfl<|Gm ?_; rotate_left; (exfalso; omega)
      · refine ⟨((k + 1, u4, reo x1 (orders x1.length)[k])), Kg, Kh, ?_, ?_⟩
        · refine ⟨by exact (((E3.trans E4).trans E5).trans E6), Ka, (hO3.ext (by exact (E5.trans E6) : Ext w4 w6)).mono Ka, hcr, ?_⟩
          rw [hstep]
          exact (if_pos Kd).symm
        · simp only; omega
      · refine ⟨((k + 1, u, bs)), Kg, Kh, ?_, ?_⟩
        · refine ⟨by exact (((E3.trans E4).trans E5).trans E6), Ka, by exact (Mono.mono ((E4.trans E5).trans E6) hOb), hCb, ?_⟩
          rw [hstep]
          exact (if_neg (by simp only [Bool.not_eq_true]; assumption)).symm
        · simp only; omega
    · obtain rfl : k = (orders x1.length).length := by omega
      focus
        have szE3 := E3.size; have szE2 := E2.size; have szE1 := E1.size; refine Gt<|Gs<|Gz rfl<|Zh u2 rfl<|Zm Kq rfl r2<|Zo rfl<|Gm<|Gq rfl (fun h2 => ?_) (fun h2 => ?_); (exfalso; omega); refine Ve ?_; refine Zi ?_; refine Gs<|Zh u rfl<|Vn u rfl<|Gm<|Zd ?_; refine ⟨exq, (congrArg (Owned _ _ _ _) ?_).mp (hOb.toB.o.mono Ka)⟩
      rw [hbs, List.take_length]
      exact lst_fold_eq hp.gr hi hC
  · rw [if_neg hz]
    obtain rfl := hy1.2 hz
    have hnil : (([] : List (List Int)).length : Int) = 0 := rfl
    focus
      have szE1 := E1.size; refine Zl<|Zh u1 rfl<|Zm Kq rfl (Owned.read hO1)<|Zs rfl<|Gm<|Gq rfl (fun h1 => ?_) (fun h1 => ?_); refine Gs<|Zh u1 rfl<|Vn u1 rfl<|Gm<|Zd ?_; exact ⟨E1, hO1.toB.o.mono Ka⟩; contradiction
end Go.Proofs.YtbgpppaljpngmaaGreatDoor
namespace Go.Proofs.YtbgpppaljpngmaaGreatDoor
open Go.Hs
set_option maxRecDepth 10000
set_option maxHeartbeats 4000000
set_option linter.unusedVariables false
set_option linter.unusedSimpArgs false
theorem Vk : Flat Tryz.prog 26 [.slice none 0 0, .slice none 0 0] := ⟨_, Tryz.underlying26, fun _ => Kb, fun _ => Kb⟩
theorem spec_DeskNew_ok (w : World) (v : Value) (p : List (List Int)) (h : ESl Ints w v p) (z : Int) : Does Tryz.prog 106 [v, .int .i64 z] w (RetDkB w 23 88 3 (if Nod p z then lst p z.toNat else []) [] (decide (Nod p z))) := by
  refine Qx Tryz.func106 rfl Tryz.results106 Tryz.ntmps106 rfl Ks Ko ?_
  by_cases hz : Nod p z
  · have k1 : ∀ (w : World) (v : Value), ESl Ints w v p → Does Tryz.prog 118 [v, .int .i64 z] w (Ret w (.bool true)) := fun w v h => by
      have := Qw w v p h z
      rw [decide_eq_true hz] at this; exact this
    have k2 : ∀ (w : World) (v : Value), ESl Ints w v p → Does Tryz.prog 126 [v, .int .i64 z] w (RetO w XR (lst p z.toNat)) := fun w v h => by
      have := Qg w v p h z
      rw [if_pos hz] at this; exact this
    rw [if_pos hz, decide_eq_true hz]
    focus
      refine Gs<|Zq rfl Vk ?_; rintro b1 w1 hb1 E1 hB1; have hlb1 := hB1.lt; refine Zc rfl<|Gm<|Gt<|Gs<|Zh v rfl<|Gz rfl<|Gu rfl (Vb (a := v) (b := .int _ _) Gh rfl rfl) (k1 _ _ ((Mono.mono E1 h))) ?_; rintro _ w2 ⟨rfl, E2⟩; have hs2 := E2.size; refine Vt rfl<|Gm<|Vv rfl (fun h1 => ?_) (fun h1 => ?_); contradiction; refine Gx<|Gs<|Zh v rfl<|Gz rfl<|Gu rfl (Vb (a := v) (b := .int _ _) Jx rfl rfl) (k2 _ _ ((Mono.mono exq h))) ?_; rintro u1 w3 ⟨E3, hO1⟩; have ichO1 := OwnedB.isC (Owned.toB hO1); have hs3 := E3.size; refine Wo rfl (opv_buildF0 Vk rfl (OwnedB.isC hO1.toB))<|Yu Ko (hB1.ext (E2.trans E3)) rfl ((E1.trans E2).trans E3) ?_
      rintro w4 E4 hB1 K1 hz1; simp only [List.set] at hB1; have hO1 := hO1.toB.wrote K1 Ka; refine Zc rfl<|Gm<|Zd ?_
    exact ⟨b1, u1, _, rfl, hB1, u1, _, w3.heap.size, rfl, E4, hO1.wide Ka (Nat.le_refl _), Owned.nil, Ka, Ka⟩
  · have k1 : ∀ (w : World) (v : Value), ESl Ints w v p → Does Tryz.prog 118 [v, .int .i64 z] w (Ret w (.bool false)) := fun w v h => by
      have := Qw w v p h z
      rw [decide_eq_false hz] at this; exact this
    rw [if_neg hz, decide_eq_false hz]
    focus
      refine Gs<|Zq rfl Vk ?_; rintro b1 w1 hb1 E1 hB1; refine Zc rfl<|Gm<|Gt<|Gs<|Zh v rfl<|Gz rfl<|Gu rfl (Vb (a := v) (b := .int _ _) Gh rfl rfl) (k1 _ _ ((Mono.mono E1 h))) ?_; rintro _ w2 ⟨rfl, E2⟩; refine Vt rfl<|Gm<|Vv rfl (fun h1 => ?_) (fun h1 => ?_); refine Gs<|Wo rfl (Zn (ps := []) (cs := [_, _]) Vk rfl rfl)<|Yu Ko (hB1.ext E2) rfl (E1.trans E2) ?_; rintro w3 E3 hB1 K1 hz1; refine Zc rfl<|Gm<|Zd ?_; rotate_left; contradiction
    exact ⟨b1, _, _, rfl, hB1, _, _, w.heap.size, rfl, E3, OwnedB.nil, Owned.nil, Nat.le_refl _, E3.size⟩
end Go.Proofs.YtbgpppaljpngmaaGreatDoor
namespace Go.Proofs.YtbgpppaljpngmaaGreatDoor
open Go.Hs
set_option maxRecDepth 10000
set_option maxHeartbeats 4000000
set_option linter.unusedVariables false
set_option linter.unusedSimpArgs false
theorem copyRowsI_ok (w : World) (v : Value) (p : List (List Int)) (h : ESl Ints w v p) (hp : p.length ≤ 100) (hr : ∀ r ∈ p, r.length ≤ 100) : Does Tryz.prog 128 [v] w (RetO w XR p) := by
  refine Zy Tryz.func128 rfl Tryz.results128 Tryz.ntmps128 rfl ?_
  focus
    refine Gs<|Vr rfl<|Gm<|Gs<|Yb (XSl 3 XInt) rfl Ui Kv ?_; rintro b1 w1 hb1 b1lt E1 hO1; refine Vr rfl<|Gm<|Gt<|Gs<|Zh v rfl<|Zm Kq rfl h<|Gz rfl<|Gm<|Gy ?_
  refine Vf [3, 5, 9, 10, 11, 12, 13, 14, 15, 16, 17, 18, 19] (fun ((k, u) : Nat × Value) => [(9, .int .i64 (k : Nat)), (3, u)]) (fun (k, u) w' => Ext w w' ∧ k ≤ p.length ∧ Owned w.heap.size XR w' u (p.take k)) (fun x => p.length - x.1) (0, .slice (some ⟨b1, 0, none⟩) 0 0) Kg ?_ ?_
  · exact ⟨by exact E1, Nat.zero_le _, by simpa using hO1⟩
  clear hO1
  rintro ⟨k, u⟩ ρj w2 ⟨E2, hk, hO1⟩
  have hlt' : (p.take k).length = k := by simp; omega
  by_cases hlt : k < p.length
  · have hrl := hr _ (List.getElem_mem hlt)
    focus
      have szE2 := E2.size; refine Gs<|Zo rfl<|Gm<|Gt<|Gq rfl (fun h1 => ?_) (fun h1 => ?_); refine Gx<|Gt<|Gy<|Gs<|Vm Kq Kv Ja rfl (fun _ => rfl) rfl h E2 rfl Kf ?_; rintro _ u1 hu1; refine Vn u1 rfl<|Gm<|Zl<|Zh u rfl<|Yb XInt rfl Ug Kl ?_; rintro b2 w3 hb2 b2lt E3 hO2; have hs2 := E3.size; refine Zh u1 rfl<|Wo_appS rfl Ug rfl rfl (Mono.mono (E2.trans E3) hu1) hO2.toB Kf Ka Ka (E2.trans E3) Ka ?_; have hT1 := hO2.toB; rintro v1 w4 hO2 E4 M1; have hO1 := (hO1.toB.ext E3).moves M1 hT1 Ka; have szM1 := M1.1.size; refine Ym rfl Kq Kv Jn rfl (OwnedB.isC hO2.toB) rfl ?_; rintro b3 w5 hb3 E6 hB1 hHb3; have hs4 := E6.size
      refine Yf rfl Ui rfl rfl hB1 (hO1.ext E6) (hO2.toB.ext E6).o Ka Kf Ka Ka (E4.trans E6) Ka ?_; rintro v2 w6 hO1 E7 M2; refine Vn v2 rfl<|Gm<|Zl<|Va rfl<|Gz rfl<|Gm ?_; rotate_left; (exfalso; omega)
    refine ⟨((k + 1, v2)), Kg, Kh, ?_, ?_⟩
    · refine ⟨by exact E7, Ka, ?_⟩
      rw [Vl _ _ hlt]
      exact hO1
    · simp only; omega
  · obtain rfl : k = p.length := by omega
    rw [List.take_length] at hO1
    focus
      refine Gs<|Zo rfl<|Gm<|Gt<|Gq rfl (fun h1 => ?_) (fun h1 => ?_); (exfalso; omega); refine Ve ?_; refine Zi ?_; refine Gs<|Zh u rfl<|Vn u rfl<|Gm<|Zd ?_; exact ⟨E2, hO1.toB.o.mono Ka⟩
theorem Ru (w : World) (u1 u2 : Value) (now : List (List Int)) (past : List (List (List Int))) (h1 : ESl Ints w u1 now) (h2 : ESl (ESl Ints) w u2 past) (hn : now.length ≤ 100 ∧ ∀ r ∈ now, r.length ≤ 100) (hpl : past.length ≤ 100) (hp : ∀ p ∈ past, p.length ≤ 100 ∧ ∀ r ∈ p, r.length ≤ 100) :
    Does Tryz.prog 77 [.agg #[u1, u2]] w (RetDk w 23 88 3 now past) := by
  have icu1 : isCell u1 = true := Xu h1
  have icu2 : isCell u2 = true := Xu h2
  have k1 : ∀ (w : World) (v : Value), ESl Ints w v now → Does Tryz.prog 128 [v] w (RetO w XR now) := fun w v h => copyRowsI_ok w v now h hn.1 hn.2
  have k2 : ∀ (k : Nat) (hk : k < past.length) (w : World) (v : Value), ESl Ints w v past[k] → Does Tryz.prog 128 [v] w (RetO w XR past[k]) := fun k hk w v h => copyRowsI_ok w v _ h (hp _ (List.getElem_mem hk)).1 (hp _ (List.getElem_mem hk)).2
  refine fn_of_Wc Tryz.func77 rfl Tryz.results77 Tryz.ntmps77 rfl Ks Ko ?_
  focus
    refine Gs<|Vp rfl rfl rfl ?_; rintro b1 w1 hb1 E1 hB1; have hlb1 := hB1.lt; refine Zq rfl Vk ?_; rintro b2 w2 hb2 E2 hB2; have hlb2 := hB2.lt; have hs2 := E2.size; refine Gm<|Gs<|Zg Kt Kw rfl<|Vs u1 Kz (hB1.ext E2) rfl<|Gu rfl (Vh (a := u1) Tryz.call128 rfl) (k1 _ _ ((Mono.mono exq h1))) ?_; rintro u3 w3 ⟨E3, hO1⟩; have ichO1 := OwnedB.isC (Owned.toB hO1); have hs3 := E3.size; refine Wo rfl (opv_buildF0 Vk rfl (OwnedB.isC hO1.toB))<|Zq rfl Vk ?_; rintro b3 w4 hb3 E4 hB3; have hlb3 := hB3.lt; have hs4 := E4.size; refine Xd rfl Ko rfl rfl Ke Ke hB3 Ka (((E1.trans E2).trans E3).trans E4) ?_; rintro w5 E5 hB3 K1 hz1
    have E6 := ((E2.trans E3).trans E4).wroteAt exq E5 K1 hz1 Ka; have szE6 := E6.size; have E7 := (E3.trans E4).wroteAt exq E5 K1 hz1 Ka; have szE7 := E7.size; have E8 := E4.wroteAt exq E5 K1 hz1 Ka; simp only [List.set] at hB3; have hB1 := (hB1.ext exq).of_heap (K1 _ Ka); have hB2 := (hB2.ext exq).of_heap (K1 _ Ka); have hO1 := (hO1.toB.ext E4).wrote K1 Ka; refine Gm<|Gt<|Gs<|Zg Kt Ky rfl<|Vs u2 Jf hB1 rfl<|Zm Jd rfl h2<|Gz rfl<|Gm<|Gy ?_
  have hO0 : Owned w4.heap.size (XSl 23 XR) w5 (.slice none 0 0) ([] : List (List (List Int))) := Owned.nil
  have hN := hO1
  clear hO1 hB1 hB2 k1
  refine Vf [5, 13, 14, 15, 16, 17, 18, 19, 20, 21, 22, 23, 24] (fun ((k, u) : Nat × Value) => [(13, .int .i64 (k : Nat))]) (fun (k, u) w' => Ext w3 w' ∧ k ≤ past.length ∧ w4.heap.size ≤ w'.heap.size ∧ Blk w' b3 [u3, u] ∧ Owned w4.heap.size (XSl 23 XR) w' u (past.take k) ∧ OwnedB w2.heap.size w3.heap.size XR w' u3 now) (fun x => past.length - x.1) (0, .slice none 0 0) Kg ?_ ?_
  · exact ⟨by exact E8, Nat.zero_le _, Ka, hB3, by simpa using hO0, hN⟩
  clear hO0 hB3 hN
  rintro ⟨k, u⟩ ρj w6 ⟨E6, hk, hsz, hB4, hO1, hN⟩
  have icu : isCell u = true := OwnedB.isC hO1.toB
  have hlt' : (past.take k).length = k := by simp; omega
  by_cases hlt : k < past.length
  · have k2k := k2 k hlt
    have ht := Vl _ _ hlt
    have heldS : w = w := rfl
    focus
      have szE5 := E5.size; have szE4 := E4.size; refine Gt<|Zl<|Zo rfl<|Gm<|Gt<|Gq rfl (fun h3 => ?_) (fun h3 => ?_); refine Gx<|Gt<|Gy<|Gt<|Zl<|Vm Jd Kw Kz rfl (fun _ => rfl) rfl h2 exq rfl Kf ?_; rintro _ u4 hu1; refine Vn u4 rfl<|Gm<|Qb (fun w' => Ext w w') Yn rfl Kb ?_; intro w7 E9 K2 hz2; have hs5 := E9.size; refine Rh 0 Kt Ky rfl rfl exq<|WtmV 2 u4 rfl rfl exq<|Wha [1, 3]<|Gp rfl ?_ ?_; refine Vs u Jf (hB4.ext E9) rfl<|Gm ?_; refine ⟨exq, ?_⟩; refine Wha [3]<|Gp rfl ?_ ?_; refine Gu rfl (Vh (a := u4) Tryz.call128 rfl) (k2k _ _ ((Mono.mono exq hu1))) ?_; rintro u5 w8 ⟨E10, hO2⟩
      have hs6 := E10.size; refine Gm ?_; refine ⟨exq, ?_⟩; refine Wha [4]<|Gp rfl ?_ ?_; refine Ym rfl Jd Kw Ju rfl (OwnedB.isC hO2.toB) rfl ?_; rintro b4 w9 hb4 E11 hB5 hHb4; have hlb4 := hB5.lt; have hs7 := E11.size; refine Gm ?_; refine ⟨exq, ?_⟩; refine Wha [5]<|Gp rfl ?_ ?_; refine Yf rfl el24 rfl rfl hB5 (hO1.toB.ext ((E9.trans E10).trans E11)) (hO2.toB.ext E11).o Ka Kf Ka Ka ((((((E1.trans E2).trans E3).trans E6).trans E9).trans E10).trans E11) Ka ?_; have hT1 := (hO1.toB.ext ((E9.trans E10).trans E11)); rintro v1 w10 hO1 E12 M1; have E15 := M1.ext hT1 (((E6.trans E9).trans E10).trans E11) Ka; have hB4 := (hB4.ext exq).moves M1 hT1 Ka; have hN := (hN.ext exq).moves M1 hT1 Ka
      have szM1 := M1.1.size; refine Gm ?_; refine ⟨E12, ?_⟩; refine Rh 6 Kt Ky rfl rfl E12<|Wha [7]<|Gp rfl ?_ ?_; refine Vz (v := v1) rfl Ky rfl rfl (OwnedB.isC hO1.toB) hB4 Ki Ka E12 ?_; rintro w11 E16 hB4 K3 hz3; have E19 := E15.wroteAt E12 E16 K3 hz3 Ka; simp only [List.set] at hB4; have hO1 := hO1.toB.wrote K3 Ka; have hN := hN.wrote K3 Ka; refine Gm ?_; refine ⟨E16, ?_⟩; refine Vd Kb ?_; refine Zl<|Va rfl<|Gz rfl<|Gm ?_; rotate_left; exact Gv; exact Gv; exact Gv; exact Gv; refine Gp rfl ?_ ?_; refine Gu rfl (Vh (a := u4) Tryz.call128 rfl) (k2k _ _ ((Mono.mono exq hu1))) ?_; rintro u5 w8 ⟨E10, hO2⟩; have hs6 := E10.size; refine Gm ?_; refine ⟨exq, ?_⟩; refine Wha [1, 4] ?_
      refine Gp rfl ?_ ?_; refine Vs u Jf (hB4.ext exq) rfl<|Gm ?_; refine ⟨exq, ?_⟩; refine Wha [4]<|Gp rfl ?_ ?_; refine Ym rfl Jd Kw Ju rfl (OwnedB.isC hO2.toB) rfl ?_; rintro b4 w9 hb4 E11 hB5 hHb4; have hlb4 := hB5.lt; have hs7 := E11.size; refine Gm ?_; refine ⟨exq, ?_⟩; refine Wha [5]<|Gp rfl ?_ ?_; refine Yf rfl el24 rfl rfl hB5 (hO1.toB.ext ((E9.trans E10).trans E11)) (hO2.toB.ext E11).o Ka Kf Ka Ka ((((((E1.trans E2).trans E3).trans E6).trans E9).trans E10).trans E11) Ka ?_; have hT1 := (hO1.toB.ext ((E9.trans E10).trans E11)); rintro v1 w10 hO1 E12 M1; have E15 := M1.ext hT1 (((E6.trans E9).trans E10).trans E11) Ka; have hB4 := (hB4.ext exq).moves M1 hT1 Ka; have hN := (hN.ext exq).moves M1 hT1 Ka
      have szM1 := M1.1.size; refine Gm ?_; refine ⟨E12, ?_⟩; refine Rh 6 Kt Ky rfl rfl E12<|Wha [7]<|Gp rfl ?_ ?_; refine Vz (v := v1) rfl Ky rfl rfl (OwnedB.isC hO1.toB) hB4 Ki Ka E12 ?_; rintro w11 E16 hB4 K3 hz3; have E19 := E15.wroteAt E12 E16 K3 hz3 Ka; simp only [List.set] at hB4; have hO1 := hO1.toB.wrote K3 Ka; have hN := hN.wrote K3 Ka; refine Gm ?_; refine ⟨E16, ?_⟩; refine Vd Kb ?_; refine Zl<|Va rfl<|Gz rfl<|Gm ?_; rotate_left; exact Gv; exact Gv; exact Gv; refine Gp rfl ?_ ?_; refine Ym rfl Jd Kw Ju rfl (OwnedB.isC hO2.toB) rfl ?_; rintro b4 w9 hb4 E11 hB5 hHb4; have hlb4 := hB5.lt; have hs7 := E11.size; refine Gm ?_; refine ⟨exq, ?_⟩; refine Wha [1]<|Gp rfl ?_ ?_
      refine Vs u Jf (hB4.ext exq) rfl<|Gm ?_; refine ⟨exq, ?_⟩; refine Wha [5]<|Gp rfl ?_ ?_; refine Yf rfl el24 rfl rfl hB5 (hO1.toB.ext ((E9.trans E10).trans E11)) (hO2.toB.ext E11).o Ka Kf Ka Ka ((((((E1.trans E2).trans E3).trans E6).trans E9).trans E10).trans E11) Ka ?_; have hT1 := (hO1.toB.ext ((E9.trans E10).trans E11)); rintro v1 w10 hO1 E12 M1; have E15 := M1.ext hT1 (((E6.trans E9).trans E10).trans E11) Ka; have hB4 := (hB4.ext exq).moves M1 hT1 Ka; have hN := (hN.ext exq).moves M1 hT1 Ka; have szM1 := M1.1.size; refine Gm ?_; refine ⟨E12, ?_⟩; refine Rh 6 Kt Ky rfl rfl E12<|Wha [7]<|Gp rfl ?_ ?_; refine Vz (v := v1) rfl Ky rfl rfl (OwnedB.isC hO1.toB) hB4 Ki Ka E12 ?_; rintro w11 E16 hB4 K3 hz3
      have E19 := E15.wroteAt E12 E16 K3 hz3 Ka; simp only [List.set] at hB4; have hO1 := hO1.toB.wrote K3 Ka; have hN := hN.wrote K3 Ka; refine Gm ?_; refine ⟨E16, ?_⟩; refine Vd Kb ?_; refine Zl<|Va rfl<|Gz rfl<|Gm ?_; rotate_left; exact Gv; exact Gv; exact Gv; exact Gv; exact Gv; (exfalso; omega)
    all_goals first
      | (refine ⟨(k + 1, v1), Kg, Kh, ?_, Kj⟩
         refine ⟨Kd, Ka, Ka, hB4, ?_, hN⟩
         rw [ht]; exact hO1.o)
  · obtain rfl : k = past.length := by omega
    rw [List.take_length] at hO1
    focus
      have szE6 := E6.size; have szE4 := E4.size; refine Gt<|Zl<|Zo rfl<|Gm<|Gt<|Gq rfl (fun h3 => ?_) (fun h3 => ?_); (exfalso; omega); refine Ve ?_; refine Zi ?_; refine Gt<|Zl<|Ye Ks Ko hB4 rfl<|Xd rfl Ko rfl rfl Ke Ke (hB2.ext (E3.trans E6)) Ka (((E1.trans E2).trans E3).trans E6) ?_; rintro w7 E9 hB2 K2 hz2; have hN := hN.wrote K2 Ka; have hO1 := hO1.toB.wrote K2 Ka; refine Gm<|Zd ?_
    refine ⟨b2, u3, u, rfl, Kd, u3, u, w3.heap.size, rfl, by exact E9, ?_, hO1.o.mono Ka, Ka, Ka⟩
    exact hN.wide Ka (Nat.le_refl _)
end Go.Proofs.YtbgpppaljpngmaaGreatDoor
namespace Go.Proofs.YtbgpppaljpngmaaGreatDoor
open Go.Hs
set_option maxRecDepth 10000
set_option maxHeartbeats 4000000
set_option linter.unusedVariables false
set_option linter.unusedSimpArgs false
theorem St (w : World) (v : Value) (p : List (List Int)) (h : ESl Ints w v p) (hp : Gr p) (a : Nat) (ha : a < p.length) : Does Tryz.prog 119 [v, .int .i64 (a : Int)] w (RetO w XI (ints (arr p a))) := by
  have hle := h.le
  have hp5 := hp.2.1
  have hrow := hp.row ha
  have har : arr p a = (List.range p.length).filter fun j => decide (p[a].getD j 0 = 1) := by unfold arr arrR; rw [Vg ha, hrow]
  refine Zy Tryz.func119 rfl Tryz.results119 Tryz.ntmps119 rfl ?_
  focus
    refine Gs<|Vr rfl<|Gm<|Gs<|Yb XInt rfl Ug Kl ?_; rintro b1 w1 hb1 b1lt E1 hO1; refine Vr rfl<|Gm<|Gt<|Gs<|Zr rfl<|Gm<|Gy ?_
  refine Vf [5, 6, 8, 9, 10, 11, 12, 13, 14, 15, 16, 17, 18, 19, 20, 21, 22, 23, 24, 25] (fun ((k, u) : Nat × Value) => [(6, .int .i64 (k : Nat)), (5, u)]) (fun (k, u) w' => Ext w w' ∧ k ≤ p.length ∧ Owned w.heap.size XI w' u (ints ((List.range k).filter fun j => decide (p[a].getD j 0 = 1)))) (fun x => p.length - x.1) (0, .slice (some ⟨b1, 0, none⟩) 0 0) Kg ?_ ?_
  · exact ⟨by exact E1, Nat.zero_le _, hO1⟩
  clear hO1
  rintro ⟨k, u⟩ ρj w2 ⟨E2, hk, hO1⟩
  have hfl : (ints ((List.range k).filter fun j => decide (p[a].getD j 0 = 1))).length ≤ 11 := by
    rw [Yg]; exact Nat.le_trans (List.length_filter_le _ _) (by rw [List.length_range]; omega)
  by_cases hlt : k < p.length
  · have hg : p[a].getD k 0 = p[a][k] := Vg Ka
    by_cases hc : p[a][k] = 1
    · focus
        have szE2 := E2.size; refine Gt<|Gs<|Gz rfl<|Zh v rfl<|Zm Kq rfl h<|Zo rfl<|Gm<|Gq rfl (fun h1 => ?_) (fun h1 => ?_); refine Gx<|Gt<|Gy<|Gt<|Zl<|Zh v rfl<|Gz rfl<|Vm Kq Kv Ja rfl (fun _ => rfl) rfl h E2 rfl Kf ?_; rintro _ u1 hu1; refine Gz rfl<|Vm Kn Kl Km rfl (fun _ => rfl) rfl hu1 E2 rfl Kf ?_; rintro _ _ rfl; refine Zs rfl<|Gm<|Gq rfl (fun h2 => ?_) (fun h2 => ?_); refine Zl<|Zh u rfl<|Gz rfl<|Zw (ps := [(0, .int _ _)]) (cs := [_]) rfl Kn Kl Jg rfl rfl rfl rfl ?_; rintro b2 w3 hb2 E3 hB1 hHb2; have hs2 := E3.size
        refine Yf rfl Ug rfl rfl hB1 (hO1.toB.ext E3) Owned.int (Nat.le_refl _) Kf Ka Ka (E2.trans E3) Ka ?_; rintro v1 w4 hO1 E4 M1; refine Vn v1 rfl<|Gm<|Zl<|Gz rfl<|Va rfl<|Zr rfl<|Gm ?_; rotate_left; contradiction; (exfalso; omega)
      refine ⟨((k + 1, v1)), Kg, Kh, ?_, ?_⟩
      · refine ⟨by exact E4, Ka, ?_⟩
        rw [Xl, hg, decide_eq_true hc, ints_append]
        exact hO1
      · simp only; omega
    · focus
        refine Gt<|Gs<|Gz rfl<|Zh v rfl<|Zm Kq rfl h<|Zo rfl<|Gm<|Gq rfl (fun h1 => ?_) (fun h1 => ?_); refine Gx<|Gt<|Gy<|Gt<|Zl<|Zh v rfl<|Gz rfl<|Vm Kq Kv Ja rfl (fun _ => rfl) rfl h E2 rfl Kf ?_; rintro _ u1 hu1; refine Gz rfl<|Vm Kn Kl Km rfl (fun _ => rfl) rfl hu1 E2 rfl Kf ?_; rintro _ _ rfl; refine Zs rfl<|Gm<|Gq rfl (fun h2 => ?_) (fun h2 => ?_); contradiction; refine Gx<|Zl<|Gz rfl<|Va rfl<|Zr rfl<|Gm ?_; rotate_left; (exfalso; omega)
      refine ⟨((k + 1, u)), Kg, Kh, ?_, ?_⟩
      · refine ⟨by exact E2, Ka, ?_⟩
        rw [Xl, hg, decide_eq_false hc]
        simp only [Bool.false_eq_true, if_false, List.append_nil]
        exact hO1
      · simp only; omega
  · obtain rfl : k = p.length := by omega
    focus
      refine Gt<|Gs<|Gz rfl<|Zh v rfl<|Zm Kq rfl h<|Zo rfl<|Gm<|Gq rfl (fun h1 => ?_) (fun h1 => ?_); (exfalso; omega); refine Ve ?_; refine Zi ?_; refine Gt<|Zl<|Zh u rfl<|Vn u rfl<|Gm<|Zd ?_; refine ⟨E2, (congrArg (Owned _ _ _ _) ?_).mp (hO1.toB.o.mono Ka)⟩
    rw [har]
open Classical in
theorem spec_SameSet_ok (w : World) (v u : Value) (p q : List (List Int)) (h : ESl Ints w v p) (h' : ESl Ints w u q) (a b : Int) (ha : Nod p a) (hb : Nod q b) : Does Tryz.prog 121 [v, .int .i64 a, u, .int .i64 b] w (Ret w (.bool (decide (Bis p a.toNat q b.toNat)))) := by
  have la : a.toNat < p.length := by have := ha.2; omega
  have lb : b.toNat < q.length := by have := hb.2; omega
  have hx := lst_pic ha.1 la
  have hy := lst_pic hb.1 lb
  have hx1 := hx.1
  have k1 : ∀ (w : World) (v : Value), ESl Ints w v p → Does Tryz.prog 126 [v, .int .i64 a] w (RetO w XR (lst p a.toNat)) := fun w v h => by
    have := Qg w v p h a
    rwa [if_pos ha] at this
  have k2 : ∀ (w : World) (v : Value), ESl Ints w v q → Does Tryz.prog 126 [v, .int .i64 b] w (RetO w XR (lst q b.toNat)) := fun w v h => by
    have := Qg w v q h b
    rwa [if_pos hb] at this
  have k3 : ∀ (w : World) (v : Value), ESl Ints w v (lst p a.toNat) → Does Tryz.prog 62 [v] w (Ret w (str (txt (lst p a.toNat)))) := fun w v h => by
    have := Yv w v _ h
    rwa [if_pos hx] at this
  have k4 : ∀ (w : World) (v : Value), ESl Ints w v (lst q b.toNat) → Does Tryz.prog 62 [v] w (Ret w (str (txt (lst q b.toNat)))) := fun w v h => by
    have := Yv w v _ h
    rwa [if_pos hy] at this
  have key : (lst p a.toNat = lst q b.toNat) ↔ Bis p a.toNat q b.toNat := lst_same ha.1.gr hb.1.gr la lb
  have key2 : txt (lst p a.toNat) = txt (lst q b.toNat) → lst p a.toNat = lst q b.toNat := txt_inj hx.gr hy.gr
  refine Zy Tryz.func121 rfl Tryz.results121 Tryz.ntmps121 rfl ?_
  generalize lst p a.toNat = x at *
  generalize lst q b.toNat = y at *
  focus
    refine Gs<|Zc rfl<|Gm<|Gs<|Zh v rfl<|Gz rfl<|Gu rfl (Vb (a := v) (b := .int _ _) Jx rfl rfl) (k1 _ _ (h)) ?_; rintro u1 w1 ⟨E1, hO1⟩; refine Vn u1 rfl<|Gm<|Gs<|Zh u rfl<|Gz rfl<|Gu rfl (Vb (a := u) (b := .int _ _) Jx rfl rfl) (k2 _ _ ((Mono.mono E1 h'))) ?_; rintro u2 w2 ⟨E2, hO2⟩; refine Vn u2 rfl<|Gm<|Gt<|Zl<|Zh u1 rfl<|Zm Kq rfl (Owned.read hO1)<|Yt rfl<|Zp rfl (fun h1 => ?_) (fun h1 => ?_); refine Zh u1 rfl<|Zm Kq rfl (Owned.read hO1)<|Zh u2 rfl<|Zm Kq rfl (Owned.read hO2)<|Zs rfl<|Vw rfl<|Zp rfl (fun h2 => ?_) (fun h2 => ?_); refine Zh u1 rfl<|Gu rfl (Vh (a := u1) Jm rfl) (k3 _ _ ((Mono.mono E2 (Owned.read hO1)))) ?_
    rintro _ w3 ⟨rfl, E3⟩; refine Zh u2 rfl<|Gu rfl (Vh (a := u2) Jm rfl) (k4 _ _ ((Mono.mono E3 (Owned.read hO2)))) ?_; rintro _ w4 ⟨rfl, E4⟩; refine Wo rfl (Vo rfl rfl)<|Vw rfl<|Zc rfl<|Gm<|Zd ?_; refine Zk (v := .bool _) rfl ?_; refine ⟨congrArg Value.bool ?_, exq⟩; rotate_left; refine Gn rfl<|Gn rfl<|Gn rfl<|Gn rfl<|Gn rfl<|Vc rfl<|Zc rfl<|Gm<|Zd ?_; refine Zk (v := .bool _) rfl ?_; refine ⟨congrArg Value.bool ?_, exq⟩; rotate_left; (exfalso; omega)
  · exact decide_eq_decide.2 ⟨fun e => key.1 (key2 e), fun e => by rw [key.2 e]⟩
  · exact (decide_eq_false fun hb => by have e := congrArg List.length (key.2 hb); omega).symm
open Classical in
theorem Rj (w : World) (v : Value) (p : List (List Int)) (h : ESl Ints w v p) : Does Tryz.prog 73 [v] w (Ret w (.bool (decide (LeastP p)))) := by
  have hle := h.le
  by_cases hp : Pic p
  · have hn : Nod p 0 := ⟨hp, Ka, by have := hp.1; omega⟩
    have hx := lst_pic hp (a := 0) (by have := hp.1; omega)
    have hx1 := hx.1
    have k1 : ∀ (w : World) (v : Value), ESl Ints w v p → Does Tryz.prog 126 [v, .int .i64 0] w (RetO w XR (lst p 0)) := fun w v h => by
      have := Qg w v p h 0
      rwa [if_pos hn] at this
    have k3 : ∀ (w : World) (v : Value), ESl Ints w v (lst p 0) → Does Tryz.prog 62 [v] w (Ret w (str (txt (lst p 0)))) := fun w v h => by
      have := Yv w v _ h
      rwa [if_pos hx] at this
    have k4 : ∀ (w : World) (v : Value), ESl Ints w v p → Does Tryz.prog 62 [v] w (Ret w (str (txt p))) := fun w v h => by
      have := Yv w v _ h
      rwa [if_pos hp] at this
    refine Zy Tryz.func73 rfl Tryz.results73 Tryz.ntmps73 rfl ?_
    have key : LeastP p ↔ lst p 0 = p := ⟨fun h => h.2, fun h => ⟨hp, h⟩⟩
    have key2 : txt (lst p 0) = txt p → lst p 0 = p := txt_inj hx.gr hp.gr
    generalize lst p 0 = x at *
    focus
      refine Gs<|Zc rfl<|Gm<|Gs<|Zh v rfl<|Gu rfl (Vb (a := v) (b := .int _ _) Jx rfl rfl) (k1 _ _ (h)) ?_; rintro u1 w1 ⟨E1, hO1⟩; refine Vn u1 rfl<|Gm<|Gt<|Zl<|Zh u1 rfl<|Zm Kq rfl (Owned.read hO1)<|Yt rfl<|Zp rfl (fun h1 => ?_) (fun h1 => ?_); refine Zh u1 rfl<|Zm Kq rfl (Owned.read hO1)<|Zh v rfl<|Zm Kq rfl h<|Zs rfl<|Vw rfl<|Zp rfl (fun h2 => ?_) (fun h2 => ?_); refine Zh u1 rfl<|Gu rfl (Vh (a := u1) Jm rfl) (k3 _ _ ((Owned.read hO1))) ?_; rintro _ w2 ⟨rfl, E2⟩; refine Zh v rfl<|Gu rfl (Vh (a := v) Jm rfl) (k4 _ _ ((Mono.mono exq h))) ?_; rintro _ w3 ⟨rfl, E3⟩
      refine Wo rfl (Vo rfl rfl)<|Vw rfl<|Zc rfl<|Gm<|Zd ?_; refine Zk (v := .bool _) rfl ?_; refine ⟨congrArg Value.bool ?_, exq⟩; rotate_left; refine Gn rfl<|Gn rfl<|Gn rfl<|Gn rfl<|Gn rfl<|Vc rfl<|Zc rfl<|Gm<|Zd ?_; refine Zk (v := .bool _) rfl ?_; refine ⟨congrArg Value.bool ?_, E1⟩; rotate_left; (exfalso; omega)
    · exact decide_eq_decide.2 ⟨fun e => key.2 (key2 e), fun e => by rw [key.1 e]⟩
    · exact (decide_eq_false fun hb => by have e := congrArg List.length (key.1 hb); omega).symm
  · have hn : ¬ Nod p 0 := fun h => hp h.1
    have k1 : ∀ (w : World) (v : Value), ESl Ints w v p → Does Tryz.prog 126 [v, .int .i64 0] w (RetO w XR []) := fun w v h => by
      have := Qg w v p h 0
      rwa [if_neg hn] at this
    have hnil : (([] : List (List Int)).length : Int) = 0 := rfl
    refine Zy Tryz.func73 rfl Tryz.results73 Tryz.ntmps73 rfl ?_
    focus
      refine Gs<|Zc rfl<|Gm<|Gs<|Zh v rfl<|Gu rfl (Vb (a := v) (b := .int _ _) Jx rfl rfl) (k1 _ _ (h)) ?_; rintro u1 w1 ⟨E1, hO1⟩; refine Vn u1 rfl<|Gm<|Gt<|Zl<|Zh u1 rfl<|Zm Kq rfl (Owned.read hO1)<|Yt rfl<|Zp rfl (fun h1 => ?_) (fun h1 => ?_); contradiction; refine Gn rfl<|Gn rfl<|Gn rfl<|Gn rfl<|Gn rfl<|Vc rfl<|Vq rfl<|Gn rfl<|Gn rfl<|Gn rfl<|Gn rfl<|Gn rfl<|Vc rfl<|Zc rfl<|Gm<|Zd ?_; refine Zk (v := .bool _) rfl ?_; refine ⟨congrArg Value.bool ?_, E1⟩
    exact (decide_eq_false fun hb => hp hb.1).symm
open Classical in
theorem Qi (w : World) (u1 u2 : Value) (d : Dsk) (h1 : ESl Ints w u1 d.now) (h2 : ESl (ESl Ints) w u2 d.past) : Does Tryz.prog 16 [.agg #[u1, u2]] w (Ret w (.bool (decide (DkOk d)))) := by
  obtain ⟨p, pp⟩ := d
  have hle := h2.le
  simp only at h1 h2 hle
  have icu1 : isCell u1 = true := by obtain ⟨_, _, rfl, _⟩ := h1; rfl
  have icu2 : isCell u2 = true := by obtain ⟨_, _, rfl, _⟩ := h2; rfl
  refine Zy Tryz.func16 rfl Tryz.results16 Tryz.ntmps16 rfl ?_
  focus
    refine Gs<|Vp rfl rfl rfl ?_; rintro b1 w1 hb1 E1 hB1; refine Zc rfl<|Gm<|Gt<|Gs<|Zr rfl<|Gm<|Gy ?_
  refine Vf [2, 3, 4, 5, 6, 7, 8, 9, 10, 11, 12, 13, 14, 15, 16, 17] (fun (k : Nat) => [(3, .int .i64 (k : Nat))]) (fun k w' => Ext w1 w' ∧ k ≤ pp.length ∧ ∀ q ∈ pp.take k, LeastP q) (fun x => pp.length - x) 0 Kg ?_ ?_
  · exact ⟨Ext.refl _, Nat.zero_le _, Ki⟩
  rintro k ρj w2 ⟨E2, hk, hall⟩
  by_cases hlt : k < pp.length
  · by_cases hq : LeastP pp[k]
    · have kq : ∀ (w : World) (v : Value), ESl Ints w v pp[k] → Does Tryz.prog 73 [v] w (Ret w (.bool true)) := fun w v h => by
        have := Rj w v _ h
        rwa [decide_eq_true hq] at this
      focus
        refine Gt<|Gs<|Gz rfl<|Zg Kt Ky rfl<|Vs u2 Jf (hB1.ext E2) rfl<|Zm Jd rfl h2<|Zo rfl<|Gm<|Gq rfl (fun h3 => ?_) (fun h3 => ?_); refine Gx<|Gt<|Gy<|Gs<|Zg Kt Ky rfl<|Vs u2 Jf (hB1.ext E2) rfl<|Gz rfl<|Vm Jd Kw Kz rfl (fun _ => rfl) rfl h2 exq rfl Kf ?_; rintro _ u3 hu1; refine Gu rfl (Vh (a := u3) Gi rfl) (kq _ _ ((Mono.mono exq hu1))) ?_; rintro _ w3 ⟨rfl, E3⟩; refine Vt rfl<|Gm<|Vv rfl (fun h4 => ?_) (fun h4 => ?_); contradiction; refine Gx<|Zl<|Gz rfl<|Va rfl<|Zr rfl<|Gm ?_; rotate_left; (exfalso; omega)
      refine ⟨(k + 1), Kg, Kh, ?_, ?_⟩
      · refine ⟨by exact (E2.trans E3), Ka, fun q hq' => ?_⟩
        rw [Vl _ _ hlt] at hq'
        rcases List.mem_append.1 hq' with h | h
        · exact hall q h
        · rw [List.mem_singleton.1 h]; exact hq
      · omega
    · have kq : ∀ (w : World) (v : Value), ESl Ints w v pp[k] → Does Tryz.prog 73 [v] w (Ret w (.bool false)) := fun w v h => by
        have := Rj w v _ h
        rwa [decide_eq_false hq] at this
      focus
        refine Gt<|Gs<|Gz rfl<|Zg Kt Ky rfl<|Vs u2 Jf (hB1.ext E2) rfl<|Zm Jd rfl h2<|Zo rfl<|Gm<|Gq rfl (fun h3 => ?_) (fun h3 => ?_); refine Gx<|Gt<|Gy<|Gs<|Zg Kt Ky rfl<|Vs u2 Jf (hB1.ext E2) rfl<|Gz rfl<|Vm Jd Kw Kz rfl (fun _ => rfl) rfl h2 exq rfl Kf ?_; rintro _ u3 hu1; refine Gu rfl (Vh (a := u3) Gi rfl) (kq _ _ ((Mono.mono exq hu1))) ?_; rintro _ w3 ⟨rfl, E3⟩; refine Vt rfl<|Gm<|Vv rfl (fun h4 => ?_) (fun h4 => ?_); refine Gs<|Zc rfl<|Gm<|Zd ?_; refine Zk (v := .bool _) rfl ?_; refine ⟨congrArg Value.bool ?_, exq⟩; rotate_left; contradiction; (exfalso; omega)
      exact (decide_eq_false fun h => hq (h.2.2 _ (List.getElem_mem hlt))).symm
  · obtain rfl : k = pp.length := by omega
    rw [List.take_length] at hall
    by_cases hq : LeastP p
    · have kq : ∀ (w : World) (v : Value), ESl Ints w v p → Does Tryz.prog 73 [v] w (Ret w (.bool true)) := fun w v h => by
        have := Rj w v _ h
        rwa [decide_eq_true hq] at this
      focus
        refine Gt<|Gs<|Gz rfl<|Zg Kt Ky rfl<|Vs u2 Jf (hB1.ext E2) rfl<|Zm Jd rfl h2<|Zo rfl<|Gm<|Gq rfl (fun h3 => ?_) (fun h3 => ?_); (exfalso; omega); refine Ve ?_; refine Zi ?_; refine Gs<|Zg Kt Kw rfl<|Vs u1 Kz (hB1.ext E2) rfl<|Gu rfl (Vh (a := u1) Gi rfl) (kq _ _ ((Mono.mono exq h1))) ?_; rintro _ w3 ⟨rfl, E3⟩; refine Vq rfl<|Zg Kt Ky rfl<|Vs u2 Jf (hB1.ext exq) rfl<|Zm Jd rfl h2<|Wsleq rfl<|Vw rfl<|Zc rfl<|Gm<|Zd ?_; refine Zk (v := .bool _) rfl ?_; refine ⟨congrArg Value.bool ?_, exq⟩
      exact decide_eq_decide.2 ⟨fun h => ⟨hq, show pp.length ≤ 8 by omega, hall⟩, fun h => by have : pp.length ≤ 8 := h.2.1; omega⟩
    · have kq : ∀ (w : World) (v : Value), ESl Ints w v p → Does Tryz.prog 73 [v] w (Ret w (.bool false)) := fun w v h => by
        have := Rj w v _ h
        rwa [decide_eq_false hq] at this
      focus
        refine Gt<|Gs<|Gz rfl<|Zg Kt Ky rfl<|Vs u2 Jf (hB1.ext E2) rfl<|Zm Jd rfl h2<|Zo rfl<|Gm<|Gq rfl (fun h3 => ?_) (fun h3 => ?_); (exfalso; omega); refine Ve ?_; refine Zi ?_; refine Gs<|Zg Kt Kw rfl<|Vs u1 Kz (hB1.ext E2) rfl<|Gu rfl (Vh (a := u1) Gi rfl) (kq _ _ ((Mono.mono exq h1))) ?_; rintro _ w3 ⟨rfl, E3⟩; refine Vq rfl<|Gn rfl<|Gn rfl<|Gn rfl<|Gn rfl<|Vc rfl<|Zc rfl<|Gm<|Zd ?_; refine Zk (v := .bool _) rfl ?_; refine ⟨congrArg Value.bool ?_, exq⟩
      exact (decide_eq_false fun h => hq h.1).symm
end Go.Proofs.YtbgpppaljpngmaaGreatDoor
namespace Go.Proofs.YtbgpppaljpngmaaGreatDoor
open Go.Hs
set_option maxRecDepth 10000
set_option maxHeartbeats 4000000
set_option linter.unusedVariables false
set_option linter.unusedSimpArgs false
theorem EqualI_ok (w : World) (v u : Value) (xs ys : List Int) (h : Ints w v xs) (h' : Ints w u ys) : Does Tryz.prog 140 [v, u] w (Ret w (.bool (decide (xs = ys)))) := by
  have hle := h.le
  have hle' := h'.le
  refine Zy Tryz.func140 rfl Tryz.results140 Tryz.ntmps140 rfl ?_
  focus
    refine Gs<|Zc rfl<|Gm<|Gt<|Gs<|Zh v rfl<|Zm Kn rfl h<|Zh u rfl<|Zm Kn rfl h'<|Uc rfl<|Gm<|Zx rfl (fun h1 => ?_) (fun h1 => ?_); refine Gs<|Zc rfl<|Gm<|Zd ?_; refine Zk (v := .bool _) rfl ?_; refine ⟨congrArg Value.bool ?_, (Ext.refl _)⟩; rotate_left; refine Gx<|Gt<|Gs<|Zh v rfl<|Zm Kn rfl h<|Gz rfl<|Gm<|Gy ?_; rotate_left
  · exact (decide_eq_false (fun e => by subst e; omega)).symm
  refine Vf [4, 5, 13, 14, 15, 16, 17, 18, 19, 20, 21, 22, 23, 24, 25] (fun (k : Nat) => [(13, .int .i64 (k : Nat))]) (fun k w' => Ext w w' ∧ k ≤ xs.length ∧ xs.take k = ys.take k) (fun x => xs.length - x) 0 Kg ?_ ?_
  · exact ⟨Ext.refl _, Nat.zero_le _, Ki⟩
  rintro k ρj w1 ⟨E1, hk, he⟩
  focus
    refine Gs<|Zo rfl<|Gm<|Gt<|Gq rfl (fun h2 => ?_) (fun h2 => ?_); refine Gx<|Gt<|Gy<|Gs<|Gz rfl<|Zr rfl<|Gm<|Gt<|Yr Yn Kb rfl ?_; refine Um v rfl<|Qc rfl<|Xk Kn Kl Km rfl (fun _ => rfl) rfl h E1 rfl Kf ?_; rintro _ _ rfl; refine Um u rfl<|Qc rfl<|Xk Kn Kl Km rfl (fun _ => rfl) rfl h' E1 rfl Kf ?_; rintro _ _ rfl; refine Wqneq rfl<|Yp (fun w2 E2 => ?_); refine Zx rfl (fun h3 => ?_) (fun h3 => ?_); refine Gs<|Zc rfl<|Gm<|Zd ?_; refine Zk (v := .bool _) rfl ?_; refine ⟨congrArg Value.bool ?_, exq⟩; rotate_left; refine Gx<|Zl ?_
    refine Va rfl<|Gz rfl<|Gm ?_; rotate_left; refine Ve ?_; refine Zi ?_; refine Gs<|Zc rfl<|Gm<|Zd ?_; refine Zk (v := .bool _) rfl ?_; refine ⟨congrArg Value.bool ?_, E1⟩; rotate_left
  · exact (decide_eq_false (ne_at (k := k) Ka Ka Kd)).symm
  · refine ⟨(k + 1), Kg, Kh, ?_, ?_⟩
    · exact ⟨E1.trans E2, Ka, (Ql Ka Ka).2 ⟨he, Kd⟩⟩
    · omega
  · obtain rfl : k = xs.length := by omega
    exact (decide_eq_true (Tc Ka he)).symm
theorem Tf (w : World) (v u : Value) (xs ys : List (List Int)) (h : ESl Ints w v xs) (h' : ESl Ints w u ys) (hc : ∀ args w, Sem.run Tryz.prog (callFunc 140 args) w = .ok (.enter 140 args) w) :
    Does Tryz.prog 139 [v, u, .func (.func 140) [].toArray [].toArray] w (Ret w (.bool (decide (xs = ys)))) := by
  have hle := h.le
  have hle' := h'.le
  refine Zy Tryz.func139 rfl Tryz.results139 Tryz.ntmps139 rfl ?_
  focus
    refine Gs<|Zc rfl<|Gm<|Gt<|Gs<|Zh v rfl<|Zm Kq rfl h<|Zh u rfl<|Zm Kq rfl h'<|Uc rfl<|Gm<|Zx rfl (fun h1 => ?_) (fun h1 => ?_); refine Gs<|Zc rfl<|Gm<|Zd ?_; refine Zk (v := .bool _) rfl ?_; refine ⟨congrArg Value.bool ?_, (Ext.refl _)⟩; rotate_left; refine Gx<|Gt<|Gs<|Zh v rfl<|Zm Kq rfl h<|Gz rfl<|Gm<|Gy ?_; rotate_left
  · exact (decide_eq_false (fun e => by subst e; omega)).symm
  refine Vf [6, 7, 8, 9, 17, 18, 19, 20, 21, 22, 23, 24, 25, 26, 27, 28, 29, 30, 31] (fun (k : Nat) => [(17, .int .i64 (k : Nat))]) (fun k w' => Ext w w' ∧ k ≤ xs.length ∧ xs.take k = ys.take k) (fun x => xs.length - x) 0 Kg ?_ ?_
  · exact ⟨Ext.refl _, Nat.zero_le _, Ki⟩
  rintro k ρj w1 ⟨E1, hk, he⟩
  focus
    refine Gs<|Zo rfl<|Gm<|Gt<|Gq rfl (fun h2 => ?_) (fun h2 => ?_); refine Gx<|Gt<|Gy<|Gs<|Gz rfl<|Vm Kq Kv Ja rfl (fun _ => rfl) rfl h E1 rfl Kf ?_; rintro _ u1 hu1; refine Zr rfl<|Vn u1 rfl<|Gm<|Gs<|Zh u rfl<|Gz rfl<|Vm Kq Kv Ja rfl (fun _ => rfl) rfl h' E1 rfl Kf ?_; rintro _ u2 hu2; refine Vn u2 rfl<|Gm<|Gt<|Zl<|Zh (.func _ _ _) rfl<|Zh u1 rfl<|Zh u2 rfl<|Gu rfl (opc_val2 Tryz.call140 rfl rfl rfl) (EqualI_ok _ _ _ _ _ ((Mono.mono E1 hu1)) ((Mono.mono E1 hu2))) ?_; rintro _ w2 ⟨rfl, E2⟩; refine Vt rfl<|Gm ?_
    refine Zx rfl (fun h3 => ?_) (fun h3 => ?_); refine Gs<|Zc rfl<|Gm<|Zd ?_; refine Zk (v := .bool _) rfl ?_; refine ⟨congrArg Value.bool ?_, exq⟩; rotate_left; refine Gx<|Zl<|Va rfl<|Gz rfl<|Gm ?_; rotate_left; refine Ve ?_; refine Zi ?_; refine Gs<|Zc rfl<|Gm<|Zd ?_; refine Zk (v := .bool _) rfl ?_; refine ⟨congrArg Value.bool ?_, E1⟩; rotate_left
  · exact (decide_eq_false (ne_at (k := k) Ka Ka Kd)).symm
  · refine ⟨(k + 1), Kg, Kh, ?_, ?_⟩
    · exact ⟨E1.trans E2, Ka, (Ql Ka Ka).2 ⟨he, Kd⟩⟩
    · omega
  · obtain rfl : k = xs.length := by omega
    exact (decide_eq_true (Tc Ka he)).symm
theorem IndexFuncP_ok (w : World) (v : Value) (xs : List (List (List Int))) (h : ESl (ESl Ints) w v xs) (fid : FuncId) (cap : List Value) (g : List (List Int) → Bool) (hc : ∀ args w, Sem.run Tryz.prog (callFunc fid args) w = .ok (.enter fid args) w)
    (hf : ∀ (x : List (List Int)) (u : Value) (w' : World), ESl Ints w' u x → Ext w w' → Does Tryz.prog fid (u :: cap) w' (Ret w' (.bool (g x)))) :
    Does Tryz.prog 154 [v, .func (.func fid) [].toArray cap.toArray] w (RetX w (Value.int .i64) (fun n _ => (n = -1 ∧ xs.any g = false) ∨ (0 ≤ n ∧ xs.any g = true))) := by
  have hle := h.le
  refine Zy Tryz.func154 rfl Tryz.results154 Tryz.ntmps154 rfl ?_
  focus
    refine Gs<|Zr rfl<|Gm<|Gt<|Gs<|Zh v rfl<|Zm Jd rfl h<|Gz rfl<|Gm<|Gy ?_
  refine Vf [4, 5, 8, 9, 10, 11, 12, 13, 14, 15, 16, 17, 18] (fun (k : Nat) => [(8, .int .i64 (k : Nat))]) (fun k w' => Ext w w' ∧ k ≤ xs.length ∧ (xs.take k).any g = false) (fun x => xs.length - x) 0 Kg ?_ ?_
  · exact ⟨Ext.refl _, Nat.zero_le _, Ki⟩
  rintro k ρj w1 ⟨E1, hk, hg⟩
  by_cases hlt : k < xs.length
  · have hmem := List.getElem_mem hlt
    have hf' := hf xs[k]
    focus
      refine Gs<|Zo rfl<|Gm<|Gt<|Gq rfl (fun h1 => ?_) (fun h1 => ?_); refine Gx<|Gt<|Gy<|Gs<|Gz rfl<|Zr rfl<|Gm<|Gs<|Zh (.func _ _ _) rfl<|Zh v rfl<|Gz rfl<|Vm Jd Kw Kz rfl (fun _ => rfl) rfl h E1 rfl Kf ?_; rintro _ u1 hu1; refine Gu rfl (opc_val1 (a := u1) Kd rfl rfl) (hf' _ _ ((Mono.mono E1 hu1)) (E1)) ?_; rintro _ w2 ⟨rfl, E2⟩; refine Gm<|Vv rfl (fun h2 => ?_) (fun h2 => ?_); refine Gt<|Zl<|Gz rfl<|Zr rfl<|Gm<|Zd ?_; refine Zk (v := .int _ _) rfl ?_; refine ⟨exq, _, rfl, ?_⟩; (try dsimp only); rotate_left; refine Gx<|Zl<|Va rfl<|Gz rfl<|Gm ?_; rotate_left; (exfalso; omega)
    · right
      refine ⟨Ka, List.any_eq_true.2 ⟨_, hmem, Kd⟩⟩
    · refine ⟨(k + 1), Kg, Kh, ?_, ?_⟩
      · refine ⟨E1.trans E2, Ka, ?_⟩
        rw [Vl _ _ hlt, List.any_append, hg]
        simpa using by assumption
      · omega
  · obtain rfl : k = xs.length := by omega
    focus
      refine Gs<|Zo rfl<|Gm<|Gt<|Gq rfl (fun h1 => ?_) (fun h1 => ?_); (exfalso; omega); refine Ve ?_; refine Zi ?_; refine Gs<|Zr rfl<|Gm<|Zd ?_; refine Zk (v := .int _ _) rfl ?_; refine ⟨E1, _, rfl, ?_⟩; (try dsimp only)
    exact .inl ⟨rfl, by simpa using hg⟩
theorem ContainsFuncP_ok (w : World) (v : Value) (xs : List (List (List Int))) (h : ESl (ESl Ints) w v xs) (fid : FuncId) (cap : List Value) (g : List (List Int) → Bool) (hc : ∀ args w, Sem.run Tryz.prog (callFunc fid args) w = .ok (.enter fid args) w)
    (hf : ∀ (x : List (List Int)) (u : Value) (w' : World), ESl Ints w' u x → Ext w w' → Does Tryz.prog fid (u :: cap) w' (Ret w' (.bool (g x)))) :
    Does Tryz.prog 110 [v, .func (.func fid) [].toArray cap.toArray] w (Ret w (.bool (xs.any g))) := by
  have hi := IndexFuncP_ok w v xs h fid cap g hc hf
  refine Zy Tryz.func110 rfl Tryz.results110 Tryz.ntmps110 rfl ?_
  focus
    refine Gs<|Zc rfl<|Gm<|Gs<|Zh v rfl<|Zh (.func _ _ _) rfl<|Gu rfl (Vb (a := v) (b := .func _ _ _) Tryz.call154 rfl rfl) (hi) ?_; rintro _ w1 ⟨E1, y1, rfl, hy1⟩; refine Wsgeq rfl<|Zc rfl<|Gm<|Zd ?_; refine Zk (v := .bool _) rfl ?_; refine ⟨congrArg Value.bool ?_, E1⟩
  rcases hy1 with ⟨rfl, h9⟩ | ⟨h8, h9⟩
  · rw [h9]; rfl
  · rw [h9]; exact decide_eq_true h8
open Classical in
theorem isLeast_ok (w : World) (v : Value) (p : List (List Int)) (h : ESl Ints w v p) (hp : Pic p) : Does Tryz.prog 109 [v] w (Ret w (.bool (decide (LeastP p)))) := by
  have hl := lst_pic hp (a := 0) (by have := hp.1; omega)
  have e : (LeastP p) = (lst p 0 = p) := propext ⟨fun h => h.2, fun h => ⟨hp, h⟩⟩
  have k1 : ∀ (w : World) (v : Value), ESl Ints w v p → Does Tryz.prog 153 [v, .int .i64 0] w (RetOB w XR (lst p 0) true) := fun w v h => by
    have := leastOf_ok w v p h hp.gr 0 (by have := hp.1; omega)
    rwa [if_pos hl.2.1, decide_eq_true hl.2.1] at this
  have k2 := fun (w : World) (v u : Value) (h : ESl Ints w v (lst p 0)) (h' : ESl Ints w u p) => Tf w v u (lst p 0) p h h' Tryz.call140
  rw [show decide (LeastP p) = decide (lst p 0 = p) from decide_eq_decide.2 (iff_of_eq e)]
  refine Zy Tryz.func109 rfl Tryz.results109 Tryz.ntmps109 rfl ?_
  focus
    refine Gs<|Zc rfl<|Gm<|Gs<|Zh v rfl<|Gu rfl (Vb (a := v) (b := .int _ _) Tryz.call153 rfl rfl) (k1 _ _ (h)) ?_; rintro _ w1 ⟨u1, rfl, E1, hO1⟩; refine Xf rfl<|Xo u1 rfl<|Yz rfl<|Vn u1 rfl<|Zc rfl<|Gm<|Gs<|Zh u1 rfl<|Zh v rfl<|Gu rfl (Sy (a := u1) (b := v) (c := .func _ _ _) Tryz.call139 rfl rfl rfl) (k2 _ _ _ ((Owned.read hO1)) ((Mono.mono E1 h))) ?_; rintro _ w2 ⟨rfl, E2⟩; refine Zc rfl<|Gm<|Zd ?_; exact ⟨rfl, exq⟩
open Classical in
theorem isDesk1_ok (w : World) (v : Value) (p : List (List Int)) (h : ESl Ints w v p) : Does Tryz.prog 111 [v] w (Ret w (.bool (!decide (LeastP p)))) := by
  by_cases hp : Pic p
  · have k0 : ∀ (w : World) (v : Value), ESl Ints w v p → Does Tryz.prog 78 [v] w (Ret w (.bool true)) := fun w v h => by
      have := Rf w v p h; rwa [decide_eq_true hp] at this
    have k1 : ∀ (w : World) (v : Value), ESl Ints w v p → Does Tryz.prog 109 [v] w (Ret w (.bool (decide (LeastP p)))) := fun w v h => isLeast_ok w v p h hp
    refine Zy Tryz.func111 rfl Tryz.results111 Tryz.ntmps111 rfl ?_
    focus
      refine Gs<|Zc rfl<|Gm<|Gs<|Zh v rfl<|Gu rfl (Vh (a := v) Tryz.call78 rfl) (k0 _ _ (h)) ?_; rintro _ w1 ⟨rfl, E1⟩; refine Vt rfl<|Vx rfl (Zt (v := .bool _) rfl) (fun h1 => ?_) (fun h1 => ?_); contradiction; refine Zh v rfl<|Gu rfl (Vh (a := v) Tryz.call109 rfl) (k1 _ _ ((Mono.mono E1 h))) ?_; rintro _ w2 ⟨rfl, E2⟩; refine Vt rfl<|Vc rfl<|Zc rfl<|Gm<|Zd ?_; exact ⟨rfl, exq⟩
  · have hd : decide (LeastP p) = false := decide_eq_false fun h => hp h.1
    rw [hd]
    have k0 : ∀ (w : World) (v : Value), ESl Ints w v p → Does Tryz.prog 78 [v] w (Ret w (.bool false)) := fun w v h => by
      have := Rf w v p h; rwa [decide_eq_false hp] at this
    refine Zy Tryz.func111 rfl Tryz.results111 Tryz.ntmps111 rfl ?_
    focus
      refine Gs<|Zc rfl<|Gm<|Gs<|Zh v rfl<|Gu rfl (Vh (a := v) Tryz.call78 rfl) (k0 _ _ (h)) ?_; rintro _ w1 ⟨rfl, E1⟩; refine Vt rfl<|Vx rfl (Zt (v := .bool _) rfl) (fun h1 => ?_) (fun h1 => ?_); refine Gn rfl<|Gn rfl<|Gn rfl<|Vw rfl<|Zc rfl<|Gm<|Zd ?_; exact ⟨rfl, E1⟩; contradiction
open Classical in
theorem isDesk_ok (w : World) (u1 u2 : Value) (d : Dsk) (h1 : ESl Ints w u1 d.now) (h2 : ESl (ESl Ints) w u2 d.past) : Does Tryz.prog 58 [.agg #[u1, u2]] w (Ret w (.bool (decide (DkOk d)))) := by
  obtain ⟨p, pp⟩ := d
  have hle := h2.le
  simp only at h1 h2 hle
  have icu1 : isCell u1 = true := Xu h1
  have icu2 : isCell u2 = true := Xu h2
  refine Zy Tryz.func58 rfl Tryz.results58 Tryz.ntmps58 rfl ?_
  have k2 := fun (w : World) (v : Value) (h : ESl (ESl Ints) w v pp) => ContainsFuncP_ok w v pp h 111 [] (fun x => !decide (LeastP x)) Tryz.call111 (fun x u w' h e => isDesk1_ok w' u x h)
  by_cases hp : Pic p
  · have k0 : ∀ (w : World) (v : Value), ESl Ints w v p → Does Tryz.prog 78 [v] w (Ret w (.bool true)) := fun w v h => by
      have := Rf w v p h; rwa [decide_eq_true hp] at this
    have k1 : ∀ (w : World) (v : Value), ESl Ints w v p → Does Tryz.prog 109 [v] w (Ret w (.bool (decide (LeastP p)))) := fun w v h => isLeast_ok w v p h hp
    focus
      refine Gs<|Vp rfl rfl rfl ?_; rintro b1 w1 hb1 E1 hB1; refine Zc rfl<|Gm<|Gt<|Gs<|Zg Kt Kw rfl<|Vs u1 Kz hB1 rfl<|Gu rfl (Vh (a := u1) Tryz.call78 rfl) (k0 _ _ ((Mono.mono E1 h1))) ?_; rintro _ w2 ⟨rfl, E2⟩; refine Vt rfl<|Vx rfl (Zt (v := .bool _) rfl) (fun h3 => ?_) (fun h3 => ?_); contradiction; refine Zg Kt Kw rfl<|Vs u1 Kz (hB1.ext E2) rfl<|Gu rfl (Vh (a := u1) Tryz.call109 rfl) (k1 _ _ ((Mono.mono exq h1))) ?_; rintro _ w3 ⟨rfl, E3⟩; refine Vt rfl<|Vc rfl<|Xv rfl (fun h4 => ?_) (fun h4 => ?_); refine Gn rfl<|Gn rfl<|Gn rfl<|Gn rfl<|Vw rfl<|Gm<|Vj rfl ?_; refine Gs ?_
      refine Zc rfl<|Gm<|Zd ?_; refine Zk (v := .bool _) rfl ?_; refine ⟨congrArg Value.bool ?_, exq⟩; rotate_left; refine Zg Kt Ky rfl<|Vs u2 Jf (hB1.ext exq) rfl<|Zm Jd rfl h2<|Yt rfl<|Vc rfl<|Gm<|Gq rfl (fun h5 => ?_) (fun h5 => ?_); refine Gs<|Zc rfl<|Gm<|Zd ?_; refine Zk (v := .bool _) rfl ?_; refine ⟨congrArg Value.bool ?_, exq⟩; rotate_left; refine Gx<|Gt<|Zl<|Zg Kt Ky rfl<|Vs u2 Jf (hB1.ext exq) rfl<|Gu rfl (Vb (a := u2) (b := .func _ _ _) Tryz.call110 rfl rfl) (k2 _ _ ((Mono.mono exq h2))) ?_; rintro _ w4 ⟨rfl, E4⟩; refine Vt rfl<|Zc rfl<|Gm<|Zd ?_; refine Zk (v := .bool _) rfl ?_; refine ⟨congrArg Value.bool ?_, exq⟩; rotate_left
    · exact (decide_eq_false fun h => absurd h.1 Kd).symm
    · exact (decide_eq_false fun h => by have := h.2.1; simp only at this; omega).symm
    · rw [Bool.eq_iff_iff, decide_eq_true_iff, Bool.not_eq_true', List.any_eq_false]
      unfold DkOk
      simp only
      constructor
      · intro h9
        exact ⟨Kd, Ka, fun q hq => by simpa using h9 q hq⟩
      · rintro ⟨_, _, h9⟩ q hq
        simpa using h9 q hq
  · have hd : decide (DkOk ⟨p, pp⟩) = false := decide_eq_false fun h => hp h.1.1
    rw [hd]
    have k0 : ∀ (w : World) (v : Value), ESl Ints w v p → Does Tryz.prog 78 [v] w (Ret w (.bool false)) := fun w v h => by
      have := Rf w v p h; rwa [decide_eq_false hp] at this
    focus
      refine Gs<|Vp rfl rfl rfl ?_; rintro b1 w1 hb1 E1 hB1; refine Zc rfl<|Gm<|Gt<|Gs<|Zg Kt Kw rfl<|Vs u1 Kz hB1 rfl<|Gu rfl (Vh (a := u1) Tryz.call78 rfl) (k0 _ _ ((Mono.mono E1 h1))) ?_; rintro _ w2 ⟨rfl, E2⟩; refine Vt rfl<|Vx rfl (Zt (v := .bool _) rfl) (fun h3 => ?_) (fun h3 => ?_); refine Gn rfl<|Gn rfl<|Gn rfl<|Gn rfl<|Vw rfl<|Vq rfl<|Gn rfl<|Gn rfl<|Gn rfl<|Gn rfl<|Vw rfl<|Gm<|Vj rfl ?_; refine Gs<|Zc rfl<|Gm<|Zd ?_; exact ⟨rfl, exq⟩; contradiction
end Go.Proofs.YtbgpppaljpngmaaGreatDoor
namespace Go.Proofs.YtbgpppaljpngmaaGreatDoor
open Go.Hs
set_option maxRecDepth 10000
set_option maxHeartbeats 4000000
set_option linter.unusedVariables false
set_option linter.unusedSimpArgs false
theorem doV_none {d : Dsk} {a : Deed} (h1 : ¬ isBack d a) (h2 : nextV d.now a = none) : doV d a = (d, false) := by
  unfold doV; rw [if_neg h1, h2]
theorem madeV_t {p : List (List Int)} {k n : Int} {t : List UInt8} (h : ¬ (k = 1 ∨ k = 2 ∨ t = [])) : madeV p ⟨k, t, n⟩ = none := by
  simp only [madeV]
  rw [if_neg (fun e => h (.inr (.inr e.2.1))), if_neg (fun e => h (.inl e.1)), if_neg (fun e => h (.inr (.inl e.1))), if_neg (fun e => h (.inr (.inr e.2.1)))]
theorem madeV_n {p : List (List Int)} {k n : Int} {t : List UInt8} (h : ¬ (k = 3 ∨ n = 0)) : madeV p ⟨k, t, n⟩ = none := by
  simp only [madeV]
  rw [if_neg (fun e => h (.inr e.2.2)), if_neg (fun e => h (.inr e.2)), if_neg (fun e => h (.inr e.2)), if_neg (fun e => h (.inl e.1))]
open Classical in
theorem deskDo_ok (w : World) (hM : EMx gMx w (.bool true) ()) (u1 u2 : Value) (d : Dsk) (h1 : ESl Ints w u1 d.now) (h2 : ESl (ESl Ints) w u2 d.past) (hd : DkOk d) (k n : Int) (t : List UInt8) (ht : t.length ≤ 1048576) :
    Does Tryz.prog 92 [.agg #[u1, u2], .agg #[.int .i64 k, str t, .int .i64 n]] w (RetDkB w 23 88 3 (doV d ⟨k, t, n⟩).1.now (doV d ⟨k, t, n⟩).1.past (doV d ⟨k, t, n⟩).2) := by
  obtain ⟨p, pp⟩ := d
  have hle := h2.le
  have i1 : isCell u1 = true := Xu h1
  have i2 : isCell u2 = true := Xu h2
  simp only at h1 h2 hle
  have hpp : Pic p := hd.1.1
  have hppl : pp.length ≤ 8 := hd.2.1
  have bnd : ∀ q, Pic q → q.length ≤ 100 ∧ ∀ r ∈ q, r.length ≤ 100 := fun q hq => ⟨by have := hq.2.1; omega, fun r hr => by rw [(hq.2.2 r hr).1]; have := hq.2.1; omega⟩
  have hb2 : ∀ q ∈ pp, q.length ≤ 100 ∧ ∀ r ∈ q, r.length ≤ 100 := fun q hq => bnd q (hd.2.2 q hq).1
  have k1 : ∀ w, ESl Ints w u1 p → ESl (ESl Ints) w u2 pp → Does Tryz.prog 77 [.agg #[u1, u2]] w (RetDk w 23 88 3 p pp) := fun w h1 h2 => Ru w u1 u2 p pp h1 h2 (bnd p hpp) Ka hb2
  refine Qx Tryz.func92 rfl Tryz.results92 Tryz.ntmps92 rfl Ks Ko ?_
  by_cases hA : k = 1 ∨ k = 2 ∨ t = []
  · by_cases hB : k = 3 ∨ n = 0
    · by_cases h4 : k = 4
      · subst h4
        have et : t = [] := by rcases hA with h | h | h; exact absurd h Kc; exact absurd h Kc; exact h
        have en : n = 0 := by rcases hB with h | h; exact absurd h Kc; exact h
        subst et en
        by_cases hpl : pp = []
        · have hdo : doV ⟨p, pp⟩ ⟨4, [], 0⟩ = (⟨p, pp⟩, false) := doV_none (fun h => h.2 hpl) (by simp [nextV, madeV])
          have hpl0 : pp.length = 0 := by rw [hpl]; rfl
          rw [hdo]
          focus
            refine Gs<|Vp rfl rfl rfl ?_; rintro b1 w1 hb1 E1 hB1; have hlb1 := hB1.lt; refine Vp rfl rfl rfl ?_; rintro b2 w2 hb3 E2 hB2; have hlb2 := hB2.lt; refine Zq rfl Vk ?_; rintro b3 w3 hb4 E3 hB3; have hlb3 := hB3.lt; have hs3 := E3.size; refine Zc rfl<|Gm<|Gs<|Ye Ks Ko (hB1.ext exq) rfl<|Gu rfl (Vh (a := .agg _) Ge rfl) (k1 _ ((Mono.mono exq h1)) ((Mono.mono exq h2))) ?_; rintro _ w4 ⟨u3, q1, m1, rfl, E4, hO1, hQ1, hm1, hn1⟩; have icu3 := OwnedB.isC hO1; have icq1 := OwnedB.isC (Owned.toB hQ1); have hs4 := E4.size; refine Zq rfl Vk ?_; rintro b4 w5 hb5 E5 hB4; have hlb4 := hB4.lt; refine Xd rfl Ko rfl rfl Ke Ke hB4 Ka ((((E1.trans E2).trans E3).trans E4).trans E5) ?_; rintro w6 E6 hB4 K1 hz1
            have hB2 := (hB2.ext exq).of_heap (K1 _ Ka); have hB3 := (hB3.ext exq).of_heap (K1 _ Ka); have hO1 := (hO1.ext E5).wrote K1 Ka; have hQ1 := (hQ1.toB.ext E5).wrote K1 Ka; refine Gm<|Gs<|Zg Kp Kl rfl<|Vi Km hB2 rfl<|Zs rfl<|Zp rfl (fun h3 => ?_) (fun h3 => ?_); contradiction; refine Zg Kp Kl rfl<|Vi Km hB2 rfl<|Zs rfl<|Vc rfl<|Zc rfl<|Gm<|Gt<|Gs<|Vq rfl<|Vt rfl<|Xv rfl (fun h4 => ?_) (fun h4 => ?_); refine Zg Kp Ku rfl<|Xe Kx hB2 rfl<|Wo rfl (Vy rfl rfl)<|Vw rfl<|Xv rfl (fun h5 => ?_) (fun h5 => ?_); contradiction; refine Zg Kp Kl rfl ?_
            refine Vi Km hB2 rfl<|Uc rfl<|Xv rfl (fun h6 => ?_) (fun h6 => ?_); refine Zg Kp Kl rfl<|Vi Km hB2 rfl<|Uc rfl<|Vw rfl<|Vc rfl<|Gm<|Zx rfl (fun h7 => ?_) (fun h7 => ?_); contradiction; refine Gx<|Gt<|Gs<|Zg Kp Kl rfl<|Vi Km hB2 rfl<|Zs rfl<|Gm<|Gq rfl (fun h8 => ?_) (fun h8 => ?_); refine Gt<|Gs<|Zg Kt Ky rfl<|Vs q1 Jf hB4 rfl<|Zm Jd rfl (OwnedB.read hQ1)<|Zs rfl<|Gm<|Gq rfl (fun h9 => ?_) (fun h9 => ?_); refine Gs<|Ye Ks Ko hB4 rfl<|Yu Ko hB3 rfl E6 ?_; rintro w7 E11 hB3 K2 hz2
            have hO1 := hO1.wrote K2 Ka; have hQ1 := hQ1.wrote K2 Ka; refine Zc rfl<|Gm<|Zd ?_; rotate_left; (exfalso; omega); contradiction; contradiction; contradiction
          exact ⟨b3, u3, q1, rfl, hB3, u3, q1, m1, rfl, by exact E11, hO1.wide Ka (Nat.le_refl _), hQ1.o, Ka, Ka⟩
        · have hpl0 : 0 < pp.length := List.length_pos_iff.2 hpl
          have hdo : doV ⟨p, pp⟩ ⟨4, [], 0⟩ = (⟨pp.getLastD [], pp.dropLast⟩, true) := by unfold doV; rw [if_pos ⟨rfl, hpl⟩]
          rw [hdo]
          simp only
          have stop8 : True := trivial
          focus
            refine Gs<|Vp rfl rfl rfl ?_; rintro b1 w1 hb1 E1 hB1; have hlb1 := hB1.lt; refine Vp rfl rfl rfl ?_; rintro b2 w2 hb3 E2 hB2; have hlb2 := hB2.lt; refine Zq rfl Vk ?_; rintro b3 w3 hb4 E3 hB3; have hlb3 := hB3.lt; refine Zc rfl<|Gm<|Gs<|Ye Ks Ko (hB1.ext exq) rfl<|Gu rfl (Vh (a := .agg _) Ge rfl) (k1 _ ((Mono.mono exq h1)) ((Mono.mono exq h2))) ?_; rintro _ w4 ⟨u3, q1, m1, rfl, E4, hO1, hQ1, hm1, hn1⟩; have icu3 := OwnedB.isC hO1; have icq1 := OwnedB.isC (Owned.toB hQ1); have cpq1 := OwnedB.capOk (Owned.toB hQ1); have hs4 := E4.size; refine Zq rfl Vk ?_; rintro b4 w5 hb5 E5 hB4; have hlb4 := hB4.lt; refine Xd rfl Ko rfl rfl Ke Ke hB4 Ka ((((E1.trans E2).trans E3).trans E4).trans E5) ?_; rintro w6 E6 hB4 K1 hz1
            have E7 := (((E2.trans E3).trans E4).trans E5).wroteAt exq E6 K1 hz1 Ka; have E8 := ((E3.trans E4).trans E5).wroteAt exq E6 K1 hz1 Ka; have E9 := (E4.trans E5).wroteAt exq E6 K1 hz1 Ka; have szE9 := E9.size; have E10 := E5.wroteAt exq E6 K1 hz1 Ka; have szE10 := E10.size; have hB1 := (hB1.ext exq).of_heap (K1 _ Ka); have hB2 := (hB2.ext exq).of_heap (K1 _ Ka); have hB3 := (hB3.ext exq).of_heap (K1 _ Ka); have hO1 := (hO1.ext E5).wrote K1 Ka; have hQ1 := (hQ1.toB.ext E5).wrote K1 Ka; refine Gm<|Gs<|Zg Kp Kl rfl<|Vi Km hB2 rfl<|Zs rfl<|Zp rfl (fun h3 => ?_) (fun h3 => ?_); contradiction; refine Zg Kp Kl rfl<|Vi Km hB2 rfl<|Zs rfl<|Vc rfl<|Zc rfl<|Gm ?_
            refine Gt<|Gs<|Vq rfl<|Vt rfl<|Xv rfl (fun h4 => ?_) (fun h4 => ?_); refine Zg Kp Ku rfl<|Xe Kx hB2 rfl<|Wo rfl (Vy rfl rfl)<|Vw rfl<|Xv rfl (fun h5 => ?_) (fun h5 => ?_); contradiction; refine Zg Kp Kl rfl<|Vi Km hB2 rfl<|Uc rfl<|Xv rfl (fun h6 => ?_) (fun h6 => ?_); refine Zg Kp Kl rfl<|Vi Km hB2 rfl<|Uc rfl<|Vw rfl<|Vc rfl<|Gm<|Zx rfl (fun h7 => ?_) (fun h7 => ?_); contradiction; refine Gx<|Gt<|Gs<|Zg Kp Kl rfl<|Vi Km hB2 rfl<|Zs rfl<|Gm<|Gq rfl (fun h8 => ?_) (fun h8 => ?_); refine Gt<|Gs<|Zg Kt Ky rfl ?_
            refine Vs q1 Jf hB4 rfl<|Zm Jd rfl (OwnedB.read hQ1)<|Zs rfl<|Gm<|Gq rfl (fun h9 => ?_) (fun h9 => ?_); (exfalso; omega); refine Gx<|Gt ?_; rotate_left; contradiction; contradiction; contradiction
          clear stop8 k1
          obtain ⟨qb, qc, ur, rfl, hqc, hcl, icr, hqb, hqb2, hDk⟩ := hQ1.backDk hpl0 Ka
          have hel := hDk.dkNow
          have hpa := hDk.dkPast
          have hcl : w6.cell? ⟨qb, 0 + ((pp.length : Int) - 1).toNat, none⟩ = some ur := by rw [Nat.zero_add, show ((pp.length : Int) - 1).toNat = pp.length - 1 by omega]; exact hcl
          have hlast : pp.getLastD [] = pp[pp.length - 1] := by rw [List.getLastD_eq_getLast?, List.getLast?_eq_getElem?, List.getElem?_eq_getElem Ka]; rfl
          rw [hlast, List.dropLast_eq_take]
          have hbl := hd.2.2 _ (List.getElem_mem (show pp.length - 1 < pp.length by omega))
          have k2 : ∀ (w : World), OwnedB m1 w4.heap.size (XRd (ESl Ints)) w ur pp[pp.length - 1] → OwnedB m1 w4.heap.size (XRd (ESl (ESl Ints))) w (.slice (some ⟨qb, 0, none⟩) (pp.length - 1) qc) (pp.take (pp.length - 1)) → Does Tryz.prog 77 [.agg #[ur, .slice (some ⟨qb, 0, none⟩) ((pp.length : Int) - 1).toNat qc]] w (RetDk w 23 88 3 pp[pp.length - 1] (pp.take (pp.length - 1))) := fun w h1 h2 => by
            rw [show ((pp.length : Int) - 1).toNat = pp.length - 1 by omega]
            exact Ru w _ _ _ _ h1.read h2.read (bnd _ hbl.1) (by simp; omega) (fun q hq => hb2 q (List.mem_of_mem_take hq))
          clear hDk hQ1 hO1
          focus
            have szE6 := E6.size; refine Zl<|Zg Kt Ky rfl<|Uj Jf hB4 rfl<|Zg Kt Ky rfl<|Uj Jf hB4 rfl<|Zm Jd rfl (Owned.read hQ1)<|Qk rfl<|Wo rfl (Xa Jd Kw rfl rfl Ka) ?_; refine Wo rfl (Zv Kz rfl Kd) ?_; refine Zg Kt Kw rfl<|Vz (v := ur) rfl Kw rfl rfl Kd hB4 (by first | decide | simp) Ka E6 ?_; rintro w7 E11 hB4 K2 hz2; have E12 := E7.wroteAt E6 E11 K2 hz2 Ka; have E13 := E8.wroteAt E6 E11 K2 hz2 Ka; simp only [List.set] at hB4; have hB3 := hB3.of_heap (K2 _ Ka); have hQ1 := (hQ1.toB.ext E10).wrote K2 Ka; have hel := hel.wrote K2 Ka; have hpa := hpa.wrote K2 Ka; refine Gm ?_
            refine Gs<|Zg Kt Ky rfl<|Uj Jf hB4 rfl<|Zg Kt Ky rfl<|Uj Jf hB4 rfl<|Zm Jd rfl (OwnedB.read hQ1)<|Qk rfl<|Wo rfl (Uo Jd Kw rfl rfl Ka) ?_; refine Zg Kt Ky rfl<|Vz (v := .slice _ _ _) rfl Ky rfl rfl rfl hB4 Ki Ka E11 ?_; rintro w8 E16 hB4 K3 hz3; simp only [List.set] at hB4; have hB3 := hB3.of_heap (K3 _ Ka); have hel := hel.wrote K3 Ka; have hpa := hpa.wrote K3 Ka; refine Gm<|Gs<|Ye Ks Ko hB4 rfl<|Gu rfl (Vh (a := .agg _) Ge rfl) (k2 _ (hel) (hpa)) ?_; rintro _ w9 ⟨u4, q1, m2, rfl, E21, hO2, hQ2, hm2, hn2⟩; have icu4 := OwnedB.isC hO2
            have icq1 := OwnedB.isC (Owned.toB hQ2); refine Yu Ko (hB3.ext E21) rfl (E16.trans E21) ?_; rintro w10 E22 hB3 K4 hz4; have hO2 := hO2.wrote K4 Ka; have hQ2 := hQ2.toB.wrote K4 Ka; refine Zc rfl<|Gm<|Zd ?_
          exact ⟨b3, u4, q1, rfl, hB3, u4, q1, m2, rfl, by exact E22, hO2.wide Ka (Nat.le_refl _), hQ2.o, Ka, Ka⟩
      · have hnb : ¬ isBack ⟨p, pp⟩ ⟨k, t, n⟩ := fun h => h4 (by have := h.1; injection this)
        have kN : ∀ (w : World), EMx gMx w (.bool true) () → ESl Ints w u1 p → Does Tryz.prog 138 [u1, .agg #[.int .i64 k, str t, .int .i64 n]] w (RetOB w XR (og (madeV p ⟨k, t, n⟩)) (madeV p ⟨k, t, n⟩).isSome) := fun w hM h => nextSet_ok w hM u1 p h hpp k n t ht hA hB
        have stop2 : True := trivial
        focus
          refine Gs<|Vp rfl rfl rfl ?_; rintro b1 w1 hb1 E1 hB1; have hlb1 := hB1.lt; have hs1 := E1.size; refine Vp rfl rfl rfl ?_; rintro b2 w2 hb3 E2 hB2; have hlb2 := hB2.lt; have hs2 := E2.size; refine Zq rfl Vk ?_; rintro b3 w3 hb4 E3 hB3; have hlb3 := hB3.lt; have hs3 := E3.size; refine Zc rfl<|Gm<|Gs<|Ye Ks Ko (hB1.ext exq) rfl<|Gu rfl (Vh (a := .agg _) Ge rfl) (k1 _ ((Mono.mono exq h1)) ((Mono.mono exq h2))) ?_; rintro _ w4 ⟨u3, q1, m1, rfl, E4, hO1, hQ1, hm1, hn1⟩; have icu3 := OwnedB.isC hO1; have cpu3 := OwnedB.capOk hO1; have icq1 := OwnedB.isC (Owned.toB hQ1); have cpq1 := OwnedB.capOk (Owned.toB hQ1); have hs4 := E4.size; refine Zq rfl Vk ?_; rintro b4 w5 hb5 E5 hB4
          have hlb4 := hB4.lt; have hs5 := E5.size; refine Xd rfl Ko rfl rfl Ke Ke hB4 Ka ((((E1.trans E2).trans E3).trans E4).trans E5) ?_; rintro w6 E6 hB4 K1 hz1; have E7 := (((E2.trans E3).trans E4).trans E5).wroteAt exq E6 K1 hz1 Ka; have szE7 := E7.size; have E8 := ((E3.trans E4).trans E5).wroteAt exq E6 K1 hz1 Ka; have szE8 := E8.size; have E9 := (E4.trans E5).wroteAt exq E6 K1 hz1 Ka; have szE9 := E9.size; have E10 := E5.wroteAt exq E6 K1 hz1 Ka; have szE10 := E10.size; have hB1 := (hB1.ext exq).of_heap (K1 _ Ka); have hB2 := (hB2.ext exq).of_heap (K1 _ Ka); have hB3 := (hB3.ext exq).of_heap (K1 _ Ka); have hO1 := (hO1.ext E5).wrote K1 Ka; have hQ1 := (hQ1.toB.ext E5).wrote K1 Ka; refine Gm<|Gt ?_
        clear stop2
        refine W_mid [7, 13, 14, 15, 16, 17, 18, 19, 20] (fun x : Bool => [(7, .bool x)]) (fun x w' => w' = w6 ∧ (x = true ↔ k = 1 ∨ k = 2)) ?_ ?_
        · focus
            refine Zl<|Zg Kp Kl rfl<|Vi Km hB2 rfl<|Zs rfl<|Zp rfl (fun h3 => ?_) (fun h3 => ?_); refine Gn rfl<|Gn rfl<|Gn rfl<|Vw rfl<|Zc rfl<|Gm ?_; rotate_left; refine Zg Kp Kl rfl<|Vi Km hB2 rfl<|Zs rfl<|Vc rfl<|Zc rfl<|Gm ?_; rotate_left
          all_goals exact ⟨_, ⟨rfl, trivial⟩, Kh, rfl, by simp_all⟩
        rintro x ρ6 w6' ⟨e6, hx⟩
        have e6 := e6.symm
        subst e6
        have stop3 : True := trivial
        focus
          have szE10 := E10.size; have szE9 := E9.size; have szE8 := E8.size; have szE7 := E7.size; have szE6 := E6.size; have szE5 := E5.size; have szE4 := E4.size; have szE3 := E3.size; have szE2 := E2.size; have szE1 := E1.size; refine Gt<|Gt ?_
        clear stop3
        refine W_mid [21, 22, 23, 24, 25, 26, 27, 28, 29, 30, 31, 32, 33, 34, 35, 36, 37] (fun _ : Unit => [(37, .bool false)]) (fun _ w' => w' = w6) ?_ ?_
        · focus
            refine Zl<|Vq rfl<|Vt rfl<|Vx rfl (Zt (v := .bool _) rfl) (fun h3 => ?_) (fun h3 => ?_); refine Zg Kp Ku rfl<|Xe Kx hB2 rfl<|Wo rfl (Vy rfl rfl)<|Vw rfl<|Xv rfl (fun h5 => ?_) (fun h5 => ?_); refine Gn rfl<|Gn rfl<|Gn rfl<|Gn rfl<|Gn rfl<|Gn rfl<|Gn rfl<|Gn rfl<|Vw rfl<|Gm ?_; rotate_left; refine Zg Kp Kl rfl<|Vi Km hB2 rfl<|Uc rfl<|Xv rfl (fun h6 => ?_) (fun h6 => ?_); refine Zg Kp Kl rfl<|Vi Km hB2 rfl<|Uc rfl<|Vw rfl<|Vc rfl<|Gm ?_; rotate_left; refine Gn rfl<|Gn rfl<|Gn rfl<|Vc rfl<|Vc rfl<|Gm ?_
            rotate_left; refine Gn rfl<|Gn rfl<|Gn rfl<|Vc rfl<|Vq rfl<|Zg Kp Kl rfl<|Vi Km hB2 rfl<|Uc rfl<|Xv rfl (fun h5 => ?_) (fun h5 => ?_); refine Zg Kp Kl rfl<|Vi Km hB2 rfl<|Uc rfl<|Vw rfl<|Vc rfl<|Gm ?_; rotate_left; refine Gn rfl<|Gn rfl<|Gn rfl<|Vc rfl<|Vc rfl<|Gm ?_; rotate_left
          all_goals first
            | exact ⟨(), ⟨rfl, trivial⟩, Kh, rfl⟩
            | exact ⟨(), ⟨congrArg Value.bool (by simpa using (hB.resolve_left Kd)), trivial⟩, Kh, rfl⟩
            | (exfalso; simp_all)
        rintro ⟨⟩ ρ7 w7 e7
        have e7 := e7.symm
        subst e7
        have stop11 : True := trivial
        focus
          have szE10 := E10.size; have szE9 := E9.size; have szE8 := E8.size; have szE7 := E7.size; have szE6 := E6.size; have szE5 := E5.size; have szE4 := E4.size; have szE3 := E3.size; have szE2 := E2.size; have szE1 := E1.size; refine Za rfl ?_; refine Gx<|Gt<|Gs<|Zg Kp Kl rfl<|Vi Km hB2 rfl<|Zs rfl<|Gm<|Gq rfl (fun h3 => ?_) (fun h3 => ?_); contradiction; refine Gx<|Gt ?_
        clear stop11
        cases hmv : madeV p ⟨k, t, n⟩ with
        | none =>
          rw [hmv, show og none = [] from rfl, show (none : Option (List (List Int))).isSome = false from rfl] at kN
          rw [doV_none hnb (by unfold nextV; rw [hmv])]
          focus
            refine Zl<|Zg Kt Kw rfl<|Vs u1 Kz hB1 rfl<|Xq Jb Kr hB2 rfl<|Gu rfl (Vb (a := u1) (b := .agg _) Tryz.call138 rfl rfl) (kN _ ((Mono.mono E6 hM)) ((Mono.mono E6 h1))) ?_; rintro _ w7 ⟨u4, rfl, E11, hO2⟩; have hs6 := E11.size; refine Xf rfl<|Xo u4 rfl<|Yz rfl<|Vn u4 rfl<|Zc rfl<|Gm<|Gt<|Gs<|Vq rfl<|Vt rfl<|Vx rfl (Zt (v := .bool _) rfl) (fun h5 => ?_) (fun h5 => ?_); refine Gn rfl<|Gn rfl<|Gn rfl<|Gn rfl<|Vw rfl<|Gm<|Vj rfl ?_; refine Gs<|Ye Ks Ko (hB4.ext E11) rfl<|Yu Ko (hB3.ext E11) rfl (E6.trans E11) ?_; rintro w8 E12 hB3 K2 hz2; have hO1 := (hO1.ext E11).wrote K2 Ka
            have hQ1 := (hQ1.ext E11).wrote K2 Ka; refine Zc rfl<|Gm<|Zd ?_; rotate_left; contradiction
          exact ⟨b3, u3, q1, rfl, hB3, u3, q1, m1, rfl, by exact E12, hO1.wide Ka (Nat.le_refl _), hQ1.o, Ka, Ka⟩
        | some c =>
          rw [hmv, show og (some c) = c from rfl, show (some c).isSome = true from rfl] at kN
          have hc : LeastP c := Sr hpp hmv
          have hcp := hc.1
          by_cases hcq : c = p
          · have kE : ∀ (w : World) (v u : Value), ESl Ints w v c → ESl Ints w u p → Does Tryz.prog 139 [v, u, .func (.func 140) [].toArray [].toArray] w (Ret w (.bool true)) := fun w v u h h' => by
              have := Tf w v u c p h h' Tryz.call140
              rwa [decide_eq_true hcq] at this
            have hnx : nextV p ⟨k, t, n⟩ = none := by unfold nextV; rw [hmv]; simp [hcq]
            rw [doV_none hnb hnx]
            focus
              refine Zl<|Zg Kt Kw rfl<|Vs u1 Kz hB1 rfl<|Xq Jb Kr hB2 rfl<|Gu rfl (Vb (a := u1) (b := .agg _) Tryz.call138 rfl rfl) (kN _ ((Mono.mono E6 hM)) ((Mono.mono E6 h1))) ?_; rintro _ w7 ⟨u4, rfl, E11, hO2⟩; have hs6 := E11.size; refine Xf rfl<|Xo u4 rfl<|Yz rfl<|Vn u4 rfl<|Zc rfl<|Gm<|Gt<|Gs<|Vq rfl<|Vt rfl<|Vx rfl (Zt (v := .bool _) rfl) (fun h5 => ?_) (fun h5 => ?_); contradiction; refine Zh u4 rfl<|Zg Kt Kw rfl<|Vs u1 Kz (hB1.ext E11) rfl<|Gu rfl (Sy (a := u4) (b := u1) (c := .func _ _ _) Tryz.call139 rfl rfl rfl) (kE _ _ _ ((Owned.read hO2)) ((Mono.mono exq h1))) ?_; rintro _ w8 ⟨rfl, E12⟩; have hs7 := E12.size
              refine Vc rfl<|Gm<|Vj rfl ?_; refine Gs<|Ye Ks Ko (hB4.ext exq) rfl<|Yu Ko (hB3.ext (E11.trans E12)) rfl ((E6.trans E11).trans E12) ?_; rintro w9 E13 hB3 K2 hz2; have hO1 := (hO1.ext exq).wrote K2 Ka; have hQ1 := (hQ1.ext exq).wrote K2 Ka; refine Zc rfl<|Gm<|Zd ?_
            exact ⟨b3, u3, q1, rfl, hB3, u3, q1, m1, rfl, by exact E13, hO1.wide Ka (Nat.le_refl _), hQ1.o, Ka, Ka⟩
          · have kE : ∀ (w : World) (v u : Value), ESl Ints w v c → ESl Ints w u p → Does Tryz.prog 139 [v, u, .func (.func 140) [].toArray [].toArray] w (Ret w (.bool false)) := fun w v u h h' => by
              have := Tf w v u c p h h' Tryz.call140
              rwa [decide_eq_false hcq] at this
            have hnx : nextV p ⟨k, t, n⟩ = some c := by unfold nextV; rw [hmv]; simp [hcq]
            have hdo : doV ⟨p, pp⟩ ⟨k, t, n⟩ = (⟨c, last8 (pp ++ [p])⟩, true) := by unfold doV; rw [if_neg hnb]; simp only; rw [hnx]
            rw [hdo]
            simp only
            have stop15 : True := trivial
            have hQ0 := hQ1
            focus
              refine Zl<|Zg Kt Kw rfl<|Vs u1 Kz hB1 rfl<|Xq Jb Kr hB2 rfl<|Gu rfl (Vb (a := u1) (b := .agg _) Tryz.call138 rfl rfl) (kN _ ((Mono.mono E6 hM)) ((Mono.mono E6 h1))) ?_; rintro _ w7 ⟨u4, rfl, E11, hO2⟩; have ichO2 := OwnedB.isC (Owned.toB hO2); have hs6 := E11.size; refine Xf rfl<|Xo u4 rfl<|Yz rfl<|Vn u4 rfl<|Zc rfl<|Gm<|Gt<|Gs<|Vq rfl<|Vt rfl<|Vx rfl (Zt (v := .bool _) rfl) (fun h5 => ?_) (fun h5 => ?_); contradiction; refine Zh u4 rfl<|Zg Kt Kw rfl<|Vs u1 Kz (hB1.ext E11) rfl<|Gu rfl (Sy (a := u4) (b := u1) (c := .func _ _ _) Tryz.call139 rfl rfl rfl) (kE _ _ _ ((Owned.read hO2)) ((Mono.mono exq h1))) ?_; rintro _ w8 ⟨rfl, E12⟩; have hs7 := E12.size
              refine Vc rfl<|Gm<|Za rfl ?_; refine Gx<|Gs<|Zg Kt Ky rfl<|Vs q1 Jf (hB4.ext exq) rfl<|Zg Kt Kw rfl<|Vs u3 Kz (hB4.ext exq) rfl<|Ym rfl Jd Kw Ju rfl (OwnedB.isC (hO1.ext exq)) rfl ?_; rintro b5 w9 hb6 E13 hB5 hHb5; have hlb5 := hB5.lt; have hs8 := E13.size; refine Wo_app1r rfl el24 rfl rfl hB5 (hQ0.ext ((E11.trans E12).trans E13)) (hO1.ext ((E11.trans E12).trans E13)) Kf Ka Ka (((E6.trans E11).trans E12).trans E13) Ka ?_; have hT1 := (hQ0.ext ((E11.trans E12).trans E13)); rintro v1 w10 hQ0 E14 M1; have E17 := M1.ext hT1 (((E9.trans E11).trans E12).trans E13) Ka; have szE17 := E17.size
              have hB3 := (hB3.ext exq).moves M1 hT1 Ka; have hO2 := (hO2.toB.ext exq).moves M1 hT1 Ka; have szM1 := M1.1.size; have icv1 := OwnedB.isC (Owned.toB hQ0); refine Vn v1 rfl<|Gm<|Gt<|Gt ?_
            clear stop15
            obtain ⟨nb, nc, rfl, hnc⟩ := hQ0.lit Ki
            have hnl : (pp ++ [p]).length = pp.length + 1 := Ki
            rw [hnl] at hQ0 hnc ⊢
            have hR : ESl (ESl Ints) w10 (.slice (some ⟨nb, 0, none⟩) (pp.length + 1) nc) (pp ++ [p]) := hQ0.read
            have hbn : ∀ q ∈ pp ++ [p], q.length ≤ 100 ∧ ∀ r ∈ q, r.length ≤ 100 := fun q hq => by
              rcases List.mem_append.1 hq with hq | hq
              · exact hb2 q hq
              · rw [List.mem_singleton.1 hq]; exact bnd p hpp
            clear hQ0 hQ1 kN kE k1 M1 hT1 icv1
            by_cases hl8 : pp.length + 1 ≤ 8
            · have kC : ∀ (w : World), ESl Ints w u4 c → ESl (ESl Ints) w (.slice (some ⟨nb, 0, none⟩) (pp.length + 1) nc) (pp ++ [p]) → Does Tryz.prog 77 [.agg #[u4, .slice (some ⟨nb, 0, none⟩) (pp.length + 1) nc]] w (RetDk w 23 88 3 c (last8 (pp ++ [p]))) := fun w h1 h2 => by
                rw [show last8 (pp ++ [p]) = pp ++ [p] from if_neg Ka]
                exact Ru w _ _ _ _ h1 h2 (bnd c hcp) Ka hbn
              focus
                have szE14 := E14.size; refine Zl<|Xj rfl<|Zm Jd rfl hR<|Yt rfl<|Gm<|Gq rfl (fun h6 => ?_) (fun h6 => ?_); (exfalso; omega); refine Gx<|Gs<|Zh u4 rfl<|Xj rfl<|Wo rfl (opv_build2 Vk rfl (by first | assumption | rfl) (by first | assumption | rfl)) ?_; refine Gu rfl (Vh (a := .agg _) Ge rfl) (kC _ ((OwnedB.read hO2)) (hR)) ?_; rintro _ w11 ⟨u5, q2, m2, rfl, E18, hO3, hQ2, hm2, hn2⟩; have icu5 := OwnedB.isC hO3; have icq2 := OwnedB.isC (Owned.toB hQ2); refine Yu Ko (hB3.ext E18) rfl (E14.trans E18) ?_; rintro w12 E19 hB3 K2 hz2; have hO3 := hO3.wrote K2 Ka; have hQ2 := hQ2.toB.wrote K2 Ka; refine Zc rfl<|Gm<|Zd ?_
              exact ⟨b3, _, _, rfl, hB3, _, _, m2, rfl, by exact E19, hO3.wide Ka (Nat.le_refl _), hQ2.o, Ka, Ka⟩
            · have kC : ∀ (w : World), ESl Ints w u4 c → ESl (ESl Ints) w (.slice (some ⟨nb, 0, none⟩) (pp.length + 1) nc) (pp ++ [p]) → Does Tryz.prog 77 [.agg #[u4, .slice (some ⟨nb, 0 + (1 : Int).toNat, none⟩) (pp.length + 1 - (1 : Int).toNat) (nc - (1 : Int).toNat)]] w (RetDk w 23 88 3 c (last8 (pp ++ [p]))) := fun w h1 h2 => by
                rw [show last8 (pp ++ [p]) = (pp ++ [p]).drop 1 from if_pos Ka]
                exact Ru w _ _ _ _ h1 (h2.dropS (k := 1) Ka) (bnd c hcp) (by simp; omega) (fun q hq => hbn q (List.mem_of_mem_drop hq))
              focus
                have szE14 := E14.size; refine Zl<|Xj rfl<|Zm Jd rfl hR<|Yt rfl<|Gm<|Gq rfl (fun h6 => ?_) (fun h6 => ?_); refine Zl<|Xj rfl<|Wo rfl (Ue Jd Kw rfl rfl Ka) ?_; refine Vr rfl<|Gm<|Gs<|Zh u4 rfl<|Xj rfl<|Wo rfl (opv_build2 Vk rfl (by first | assumption | rfl) (by first | assumption | rfl)) ?_; refine Gu rfl (Vh (a := .agg _) Ge rfl) (kC _ ((OwnedB.read hO2)) (hR)) ?_; rintro _ w11 ⟨u5, q2, m2, rfl, E18, hO3, hQ2, hm2, hn2⟩; have icu5 := OwnedB.isC hO3; have icq2 := OwnedB.isC (Owned.toB hQ2); refine Yu Ko (hB3.ext E18) rfl (E14.trans E18) ?_; rintro w12 E19 hB3 K2 hz2; have hO3 := hO3.wrote K2 Ka; have hQ2 := hQ2.toB.wrote K2 Ka; refine Zc rfl<|Gm<|Zd ?_; rotate_left; (exfalso; omega)
              exact ⟨b3, _, _, rfl, hB3, _, _, m2, rfl, by exact E19, hO3.wide Ka (Nat.le_refl _), hQ2.o, Ka, Ka⟩
    · have hdo : doV ⟨p, pp⟩ ⟨k, t, n⟩ = (⟨p, pp⟩, false) := doV_none (fun h => hB (.inr (by have := h.1; injection this))) (by unfold nextV; rw [madeV_n hB])
      have hk3 : ¬ k = 3 := fun h => hB (.inl h)
      have hn0 : ¬ n = 0 := fun h => hB (.inr h)
      rw [hdo]
      focus
        refine Gs<|Vp rfl rfl rfl ?_; rintro b1 w1 hb1 E1 hB1; have hlb1 := hB1.lt; refine Vp rfl rfl rfl ?_; rintro b2 w2 hb3 E2 hB2; have hlb2 := hB2.lt; refine Zq rfl Vk ?_; rintro b3 w3 hb4 E3 hB3; have hlb3 := hB3.lt; have hs3 := E3.size; refine Zc rfl<|Gm<|Gs<|Ye Ks Ko (hB1.ext exq) rfl<|Gu rfl (Vh (a := .agg _) Ge rfl) (k1 _ ((Mono.mono exq h1)) ((Mono.mono exq h2))) ?_; rintro _ w4 ⟨u3, q1, m1, rfl, E4, hO1, hQ1, hm1, hn1⟩; have icu3 := OwnedB.isC hO1; have icq1 := OwnedB.isC (Owned.toB hQ1); have hs4 := E4.size; refine Zq rfl Vk ?_; rintro b4 w5 hb5 E5 hB4; have hlb4 := hB4.lt; refine Xd rfl Ko rfl rfl Ke Ke hB4 Ka ((((E1.trans E2).trans E3).trans E4).trans E5) ?_; rintro w6 E6 hB4 K1 hz1
        have hB2 := (hB2.ext exq).of_heap (K1 _ Ka); have hB3 := (hB3.ext exq).of_heap (K1 _ Ka); have hO1 := (hO1.ext E5).wrote K1 Ka; have hQ1 := (hQ1.toB.ext E5).wrote K1 Ka; refine Gm<|Gs<|Zg Kp Kl rfl<|Vi Km hB2 rfl<|Zs rfl<|Zp rfl (fun h3 => ?_) (fun h3 => ?_); refine Gn rfl<|Gn rfl<|Gn rfl<|Vw rfl<|Zc rfl<|Gm<|Gt<|Gs<|Vq rfl<|Vt rfl<|Vx rfl (Zt (v := .bool _) rfl) (fun h4 => ?_) (fun h4 => ?_); contradiction; refine Gn rfl<|Gn rfl<|Gn rfl<|Vc rfl<|Vq rfl<|Zg Kp Kl rfl<|Vi Km hB2 rfl<|Uc rfl<|Xv rfl (fun h5 => ?_) (fun h5 => ?_); refine Zg Kp Kl rfl ?_
        refine Vi Km hB2 rfl<|Uc rfl<|Vw rfl<|Vc rfl<|Gm<|Zx rfl (fun h6 => ?_) (fun h6 => ?_); refine Gs<|Ye Ks Ko hB4 rfl<|Yu Ko hB3 rfl E6 ?_; rintro w7 E11 hB3 K2 hz2; have hO1 := hO1.wrote K2 Ka; have hQ1 := hQ1.wrote K2 Ka; refine Zc rfl<|Gm<|Zd ?_; rotate_left; contradiction; contradiction; refine Zg Kp Kl rfl<|Vi Km hB2 rfl<|Zs rfl<|Vc rfl<|Zc rfl<|Gm<|Gt<|Gs<|Vq rfl<|Vt rfl<|Xv rfl (fun h4 => ?_) (fun h4 => ?_); refine Zg Kp Ku rfl<|Xe Kx hB2 rfl<|Wo rfl (Vy rfl rfl)<|Vw rfl ?_
        refine Xv rfl (fun h5 => ?_) (fun h5 => ?_); refine Gn rfl<|Gn rfl<|Gn rfl<|Gn rfl<|Gn rfl<|Gn rfl<|Gn rfl<|Gn rfl<|Vw rfl<|Gm<|Vj rfl ?_; refine Gs<|Ye Ks Ko hB4 rfl<|Yu Ko hB3 rfl E6 ?_; rintro w7 E11 hB3 K2 hz2; have hO1 := hO1.wrote K2 Ka; have hQ1 := hQ1.wrote K2 Ka; refine Zc rfl<|Gm<|Zd ?_; rotate_left; refine Zg Kp Kl rfl<|Vi Km hB2 rfl<|Uc rfl<|Xv rfl (fun h6 => ?_) (fun h6 => ?_); refine Zg Kp Kl rfl<|Vi Km hB2 rfl<|Uc rfl<|Vw rfl<|Vc rfl<|Gm<|Zx rfl (fun h7 => ?_) (fun h7 => ?_); refine Gs<|Ye Ks Ko hB4 rfl ?_
        refine Yu Ko hB3 rfl E6 ?_; rintro w7 E11 hB3 K2 hz2; have hO1 := hO1.wrote K2 Ka; have hQ1 := hQ1.wrote K2 Ka; refine Zc rfl<|Gm<|Zd ?_; rotate_left; contradiction; contradiction; refine Gn rfl<|Gn rfl<|Gn rfl<|Vc rfl<|Vq rfl<|Zg Kp Kl rfl<|Vi Km hB2 rfl<|Uc rfl<|Xv rfl (fun h5 => ?_) (fun h5 => ?_); refine Zg Kp Kl rfl<|Vi Km hB2 rfl<|Uc rfl<|Vw rfl<|Vc rfl<|Gm<|Zx rfl (fun h6 => ?_) (fun h6 => ?_); refine Gs<|Ye Ks Ko hB4 rfl<|Yu Ko hB3 rfl E6 ?_; rintro w7 E11 hB3 K2 hz2; have hO1 := hO1.wrote K2 Ka; have hQ1 := hQ1.wrote K2 Ka; refine Zc rfl<|Gm<|Zd ?_; rotate_left; contradiction; contradiction
      all_goals exact ⟨b3, u3, q1, rfl, hB3, u3, q1, m1, rfl, Kd, hO1.wide Ka (Nat.le_refl _), hQ1.o, Ka, Ka⟩
  · have hdo : doV ⟨p, pp⟩ ⟨k, t, n⟩ = (⟨p, pp⟩, false) := doV_none (fun h => hA (.inr (.inr (by have := h.1; injection this)))) (by unfold nextV; rw [madeV_t hA])
    have hA1 : ¬ k = 1 := fun h => hA (.inl h)
    have hA2 : ¬ k = 2 := fun h => hA (.inr (.inl h))
    have hA3 : ¬ t = [] := fun h => hA (.inr (.inr h))
    rw [hdo]
    focus
      refine Gs<|Vp rfl rfl rfl ?_; rintro b1 w1 hb1 E1 hB1; have hlb1 := hB1.lt; refine Vp rfl rfl rfl ?_; rintro b2 w2 hb3 E2 hB2; have hlb2 := hB2.lt; refine Zq rfl Vk ?_; rintro b3 w3 hb4 E3 hB3; have hlb3 := hB3.lt; have hs3 := E3.size; refine Zc rfl<|Gm<|Gs<|Ye Ks Ko (hB1.ext exq) rfl<|Gu rfl (Vh (a := .agg _) Ge rfl) (k1 _ ((Mono.mono exq h1)) ((Mono.mono exq h2))) ?_; rintro _ w4 ⟨u3, q1, m1, rfl, E4, hO1, hQ1, hm1, hn1⟩; have icu3 := OwnedB.isC hO1; have icq1 := OwnedB.isC (Owned.toB hQ1); have hs4 := E4.size; refine Zq rfl Vk ?_; rintro b4 w5 hb5 E5 hB4; have hlb4 := hB4.lt; refine Xd rfl Ko rfl rfl Ke Ke hB4 Ka ((((E1.trans E2).trans E3).trans E4).trans E5) ?_; rintro w6 E6 hB4 K1 hz1
      have hB2 := (hB2.ext exq).of_heap (K1 _ Ka); have hB3 := (hB3.ext exq).of_heap (K1 _ Ka); have hO1 := (hO1.ext E5).wrote K1 Ka; have hQ1 := (hQ1.toB.ext E5).wrote K1 Ka; refine Gm<|Gs<|Zg Kp Kl rfl<|Vi Km hB2 rfl<|Zs rfl<|Zp rfl (fun h3 => ?_) (fun h3 => ?_); contradiction; refine Zg Kp Kl rfl<|Vi Km hB2 rfl<|Zs rfl<|Vc rfl<|Zc rfl<|Gm<|Gt<|Gs<|Vq rfl<|Vt rfl<|Xv rfl (fun h4 => ?_) (fun h4 => ?_); refine Zg Kp Ku rfl<|Xe Kx hB2 rfl<|Wo rfl (Vy rfl rfl)<|Vw rfl<|Xv rfl (fun h5 => ?_) (fun h5 => ?_); refine Gn rfl<|Gn rfl<|Gn rfl<|Gn rfl ?_
      refine Gn rfl<|Gn rfl<|Gn rfl<|Gn rfl<|Vw rfl<|Gm<|Vj rfl ?_; refine Gs<|Ye Ks Ko hB4 rfl<|Yu Ko hB3 rfl E6 ?_; rintro w7 E11 hB3 K2 hz2; have hO1 := hO1.wrote K2 Ka; have hQ1 := hQ1.wrote K2 Ka; refine Zc rfl<|Gm<|Zd ?_; rotate_left; contradiction; contradiction
    exact ⟨b3, u3, q1, rfl, hB3, u3, q1, m1, rfl, by exact E11, hO1.wide Ka (Nat.le_refl _), hQ1.o, Ka, Ka⟩
end Go.Proofs.YtbgpppaljpngmaaGreatDoor
namespace Go.Proofs.YtbgpppaljpngmaaGreatDoor
open Go.Hs
set_option maxRecDepth 10000
set_option maxHeartbeats 4000000
set_option linter.unusedVariables false
set_option linter.unusedSimpArgs false
theorem Sb (w : World) (s : List UInt8) (hs : s.length ≤ 1048576) : Does Tryz.prog 122 [str s] w (RetOB w XR ((rdP s).getD []) (rdP s).isSome) := by
  obtain ⟨ps, hps⟩ : ∃ ps, ps = cutB 47 s := ⟨_, rfl⟩
  have k1 : ∀ w, Does Tryz.prog 70 [str s, .int .u8 47] w (RetO w XS ps) := fun w => hps ▸ l1Cut_ok w s 47 hs
  have hpl : ps.length ≤ 1048577 := by rw [hps, cutB_len]; have := List.count_le_length (a := (47 : UInt8)) (l := s); omega
  have hpe : ∀ (k : Nat) (hk : k < ps.length), ps[k].length ≤ 1048576 := fun k hk => by
    have : ps[k] ∈ cutB 47 s := hps ▸ List.getElem_mem hk
    have := Sf s.length s (Nat.le_refl _) _ this; omega
  refine Ul Tryz.func122 rfl Tryz.results122 Tryz.ntmps122 rfl ?_
  focus
    refine Gs<|Vr rfl<|Zc rfl<|Gm<|Gs<|Yb (XSl 3 XInt) rfl Ui Kv ?_; rintro b1 w1 hb1 b1lt E1 hO1; refine Vr rfl<|Gm<|Gs<|Yd rfl<|Gu rfl (Vb (a := .string _) (b := .int _ _) Tryz.call70 rfl rfl) (k1 _) ?_; rintro u1 w2 ⟨E2, hO2⟩; refine Vn u1 rfl<|Gm<|Gt<|Gs<|Zr rfl<|Gm<|Gy ?_
  have hBe : Besides (Value.ownBlock (.slice (some ⟨b1, 0, none⟩) 0 0)) Strs w2 u1 ps := Besides.start hO1 hO2.above
  refine Vf [2, 3, 4, 6, 7, 8, 9, 13, 14, 15, 16, 17, 18, 19, 20, 21, 22, 23, 24, 25, 26, 27, 28, 29, 30, 31, 32, 33, 34, 35, 36, 37, 38, 39, 40, 41, 42, 43, 44, 45, 46, 47, 48, 49, 50, 51, 52] (fun (k, u) => [(6, .int .i64 (k : Nat)), (4, u)]) (fun (k, u) w' => Ext w w' ∧ k ≤ ps.length ∧ Owned w.heap.size XR w' u ((ps.take k).map (rowB ps.length)) ∧ Besides u.ownBlock Strs w' u1 ps ∧ ∀ x ∈ ps.take k, inR ps.length x) (fun x => ps.length - x.1) (0, .slice (some ⟨b1, 0, none⟩) 0 0) Kg ?_ ?_
  · exact ⟨E1.trans E2, Nat.zero_le _, hO1.ext E2, hBe, Ki⟩
  clear hO1 hO2 hBe
  rintro ⟨k, u⟩ ρj w3 ⟨E3, hk, hO3, hBe, hin⟩
  by_cases hkl : k < ps.length
  · have hpk := hpe k hkl
    focus
      have szE3 := E3.size; refine Gt<|Gs<|Gz rfl<|Zh u1 rfl<|Zm Jh rfl (Besides.here hBe)<|Zo rfl<|Gm<|Gq rfl (fun h1 => ?_) (fun h1 => ?_); refine Gx<|Gt<|Gy<|Gs<|Zh u1 rfl<|Zm Jh rfl (Besides.here hBe)<|Sk rfl Ug rfl Ka ?_; rintro b2 w4 hb2 b2lt E4 hO1; refine Vr rfl<|Gm<|Gt<|Gs<|Zr rfl<|Gm<|Gy ?_; rotate_left; (exfalso; omega)
    refine Vf [2, 3, 8, 9, 22, 23, 24, 25, 26, 27, 28, 29, 30, 31, 32, 33, 34, 35, 36, 37, 38, 39, 40, 41, 42, 43, 44, 45, 46, 47, 48] (fun (j : Nat) => [(8, .int .i64 (j : Nat))]) (fun j w' => Ext w3 w' ∧ j ≤ ps[k].length ∧ Owned w3.heap.size XI w' (.slice (some ⟨b2, 0, none⟩) ps.length ps.length) (rowB ps.length (ps[k].take j)) ∧ inR ps.length (ps[k].take j)) (fun j => ps[k].length - j) 0 Kg ?_ ?_
    · refine ⟨Kd, Nat.zero_le _, ?_, fun c hc => by cases hc⟩
      rw [List.take_zero, rowB_nil]
      simpa using hO1
    clear hO1
    rintro j ρk w5 ⟨E5, hj, hO5, hir⟩
    have hrl : (rowB ps.length (ps[k].take j)).length = ps.length := Rr
    by_cases hjl : j < ps[k].length
    · have hc8 : (ps[k].getD j 0).toNat < 256 := UInt8.toNat_lt _
      have hcd : ps[k].getD j 0 = ps[k][j] := Vg hjl
      have hts : ps[k].take (j + 1) = ps[k].take j ++ [ps[k].getD j 0] := by rw [hcd]; exact List.take_succ_eq_append_getElem hjl
      have hmem : ps[k] ∈ cutB 47 s := hps ▸ List.getElem_mem hkl
      have hnl : (ps.length : Int) = (cutB 47 s).length := by rw [hps]
      by_cases hr : 48 ≤ (ps[k].getD j 0).toNat ∧ (ps[k].getD j 0).toNat < 48 + ps.length
      · focus
          have szE5 := E5.size; refine Gt<|Gs<|Gz rfl<|Zh u1 rfl<|Gz rfl<|Vm Jh Ku Kx rfl (fun _ => rfl) rfl (Besides.here hBe) E5 rfl Kf ?_; rintro _ _ ⟨rfl, -⟩; refine Wo rfl (Yh Je rfl)<|Zo rfl<|Gm<|Gq rfl (fun h2 => ?_) (fun h2 => ?_); refine Gx<|Gt<|Gy<|Gs<|Zh u1 rfl<|Gz rfl<|Vm Jh Ku Kx rfl (fun _ => rfl) rfl (Besides.here hBe) E5 rfl Kf ?_; rintro _ _ ⟨rfl, -⟩; refine Gz rfl<|Wo rfl (Yl Je rfl rfl Ka) ?_; refine Wo rfl (Xz Jt Jy rfl Ka) ?_; refine Qk rfl<|Zr rfl<|Gm<|Gt<|Gs<|Gz rfl<|Zh u1 rfl ?_
          refine Zm Jh rfl (Besides.here hBe)<|Qk rfl<|Gu rfl (Sy (a := .int _ _) (b := .int _ _) (c := .int _ _) Jr rfl rfl rfl) (Qe _ _ _ _) ?_; rintro _ w6 ⟨rfl, E6⟩; refine Vt rfl<|Gm<|Zx rfl (fun h3 => ?_) (fun h3 => ?_); (exfalso; omega); refine Gx<|Zl<|Xj rfl<|Gz rfl<|Wo rfl (Xa Kn Kl rfl rfl Ka) ?_; refine Wo_set rfl Kl rfl rfl (hO5.toB.ext E6) Kf Owned.int (Nat.le_refl _) Ka ?_; rintro w7 hO5 On1 K1 hz1; have E7 := On1.ext1 ((E3.trans E5).trans E6) Ka; have E8 := On1.ext1 (E5.trans E6) Ka; have szE8 := E8.size; have hO3 := (hO3.toB.ext exq).wrote K1 Ka; have hs5 := On1.size; refine Gm<|Zl<|Gz rfl<|Va rfl<|Zr rfl<|Gm ?_; rotate_left
          (exfalso; omega)
        · refine ⟨(j + 1), Kg, Kh, ?_, ?_⟩
          · refine ⟨Kd, Ka, ?_, ?_⟩
            · rw [rowB_set (c := ps[k].getD j 0) Ka Ka, ← hts] at hO5
              exact hO5
            · rw [hts]
              intro c hc
              rcases List.mem_append.1 hc with hc | hc
              · exact hir c hc
              · obtain rfl := List.mem_singleton.1 hc; exact hr
          · omega
        all_goals omega
      · rw [rd_no1 hmem (List.getElem_mem hjl) (fun h => hr (by rw [hcd]; omega))]
        focus
          have szE5 := E5.size; refine Gt<|Gs<|Gz rfl<|Zh u1 rfl<|Gz rfl<|Vm Jh Ku Kx rfl (fun _ => rfl) rfl (Besides.here hBe) E5 rfl Kf ?_; rintro _ _ ⟨rfl, -⟩; refine Wo rfl (Yh Je rfl)<|Zo rfl<|Gm<|Gq rfl (fun h2 => ?_) (fun h2 => ?_); refine Gx<|Gt<|Gy<|Gs<|Zh u1 rfl<|Gz rfl<|Vm Jh Ku Kx rfl (fun _ => rfl) rfl (Besides.here hBe) E5 rfl Kf ?_; rintro _ _ ⟨rfl, -⟩; refine Gz rfl<|Wo rfl (Yl Je rfl rfl Ka) ?_; refine Wo rfl (Xz Jt Jy rfl Ka) ?_; refine Qk rfl<|Zr rfl<|Gm<|Gt<|Gs<|Gz rfl<|Zh u1 rfl ?_
          refine Zm Jh rfl (Besides.here hBe)<|Qk rfl<|Gu rfl (Sy (a := .int _ _) (b := .int _ _) (c := .int _ _) Jr rfl rfl rfl) (Qe _ _ _ _) ?_; rintro _ w6 ⟨rfl, E6⟩; have hs4 := E6.size; refine Vt rfl<|Gm<|Zx rfl (fun h3 => ?_) (fun h3 => ?_); refine Gs<|Yb (XSl 3 XInt) rfl Ui Kv ?_; rintro b3 w7 hb3 b3lt E7 hO1; refine Vr rfl<|Zc rfl<|Gm<|Zd ?_; refine Zk (v := .tuple #[.slice _ _ _, .bool _]) rfl ?_; exact ⟨_, rfl, exq, hO1.toB.o.mono Ka⟩; (exfalso; omega); (exfalso; omega)
        all_goals omega
    · obtain rfl : j = ps[k].length := by omega
      rw [List.take_length] at hO5 hir
      focus
        have szE5 := E5.size; have szE3 := E3.size; refine Gt<|Gs<|Gz rfl<|Zh u1 rfl<|Gz rfl<|Vm Jh Ku Kx rfl (fun _ => rfl) rfl (Besides.here hBe) E5 rfl Kf ?_; rintro _ _ ⟨rfl, -⟩; refine Wo rfl (Yh Je rfl)<|Zo rfl<|Gm<|Gq rfl (fun h2 => ?_) (fun h2 => ?_); (exfalso; omega); refine Ve ?_; refine Zi ?_; refine Zl<|Zh u rfl<|Xj rfl<|Yc (ps := [(0, .slice _ _ _)]) (cs := [_]) rfl Kq Kv Jn rfl rfl rfl rfl ?_; rintro b3 w6 hb3 E6 hB1; have hs4 := E6.size; refine Yf rfl Ui rfl rfl hB1 (hO3.toB.ext (E5.trans E6)) (hO5.toB.ext E6).o Ka Kf Ka Ka ((E3.trans E5).trans E6) Ka ?_
        rintro v1 w7 hO3 E7 M1; have hBe := (hBe.ext exq).moves M1; refine Wo rfl (Yj (v := v1) rfl)<|Gm<|Xm rfl<|Wo rfl (Zt (v := .int _ _) rfl)<|Wo rfl (Yk rfl rfl Ka) ?_; refine Wo rfl (Yj (v := .int _ _) rfl)<|Gm ?_
      refine ⟨((k + 1, v1)), Kg, Kh, ?_, ?_⟩
      · have hts : ps.take (k + 1) = ps.take k ++ [ps[k]] := List.take_succ_eq_append_getElem hkl
        refine ⟨Kd, Ka, ?_, Kd, ?_⟩
        · rw [hts, List.map_append]; exact hO3
        · rw [hts]
          intro x hx
          rcases List.mem_append.1 hx with hx | hx
          · exact hin x hx
          · obtain rfl := List.mem_singleton.1 hx; exact hir
      · simp only; omega
  · obtain rfl : k = ps.length := by omega
    have eM : ps.map (rowB ps.length) = rdM s := by rw [hps]; rfl
    rw [List.take_length, eM] at hO3
    clear k1
    by_cases hP : Pic (rdM s)
    · by_cases hT : txt (rdM s) = s
      · rw [rd_yes hP hT]
        have k2 : ∀ w v, ESl Ints w v (rdM s) → Does Tryz.prog 115 [v] w (Ret w (.bool true)) := fun w v h => by
          have := Xi w v _ h
          rwa [decide_eq_true hP] at this
        have k3 : ∀ w v, ESl Ints w v (rdM s) → Does Tryz.prog 62 [v] w (Ret w (str s)) := fun w v h => by
          have := Yv w v _ h
          rwa [if_pos hP, hT] at this
        focus
          refine Gt<|Gs<|Gz rfl<|Zh u1 rfl<|Zm Jh rfl (Besides.here hBe)<|Zo rfl<|Gm<|Gq rfl (fun h1 => ?_) (fun h1 => ?_); (exfalso; omega); refine Ve ?_; refine Zi ?_; refine Gt<|Gs<|Zh u rfl<|Gu rfl (Vh (a := u) Js rfl) (k2 _ _ ((Owned.read hO3))) ?_; rintro _ w4 ⟨rfl, E4⟩; refine Vt rfl<|Vx rfl (Zt (v := .bool _) rfl) (fun h2 => ?_) (fun h2 => ?_); contradiction; refine Zh u rfl<|Gu rfl (Vh (a := u) Jm rfl) (k3 _ _ ((Mono.mono E4 (Owned.read hO3)))) ?_; rintro _ w5 ⟨rfl, E5⟩; refine Yd rfl<|Wo rfl (Vy rfl rfl)<|Vc rfl<|Gm<|Zx rfl (fun h3 => ?_) (fun h3 => ?_); contradiction; refine Gx<|Gs<|Zh u rfl<|Vn u rfl<|Zc rfl<|Gm<|Zd ?_; refine Zk (v := .tuple #[u, .bool _]) rfl ?_
          exact ⟨_, rfl, exq, (hO3.toB.ext exq).o.mono Ka⟩
      · rw [rd_no3 hT]
        have k2 : ∀ w v, ESl Ints w v (rdM s) → Does Tryz.prog 115 [v] w (Ret w (.bool true)) := fun w v h => by
          have := Xi w v _ h
          rwa [decide_eq_true hP] at this
        have k3 : ∀ w v, ESl Ints w v (rdM s) → Does Tryz.prog 62 [v] w (Ret w (str (txt (rdM s)))) := fun w v h => by
          have := Yv w v _ h
          rwa [if_pos hP] at this
        focus
          have szE3 := E3.size; refine Gt<|Gs<|Gz rfl<|Zh u1 rfl<|Zm Jh rfl (Besides.here hBe)<|Zo rfl<|Gm<|Gq rfl (fun h1 => ?_) (fun h1 => ?_); (exfalso; omega); refine Ve ?_; refine Zi ?_; refine Gt<|Gs<|Zh u rfl<|Gu rfl (Vh (a := u) Js rfl) (k2 _ _ ((Owned.read hO3))) ?_; rintro _ w4 ⟨rfl, E4⟩; have hs3 := E4.size; refine Vt rfl<|Vx rfl (Zt (v := .bool _) rfl) (fun h2 => ?_) (fun h2 => ?_); contradiction; refine Zh u rfl<|Gu rfl (Vh (a := u) Jm rfl) (k3 _ _ ((Mono.mono E4 (Owned.read hO3)))) ?_; rintro _ w5 ⟨rfl, E5⟩; have hs4 := E5.size; refine Yd rfl<|Wo rfl (Vy rfl rfl)<|Vc rfl<|Gm<|Zx rfl (fun h3 => ?_) (fun h3 => ?_); refine Gs<|Yb (XSl 3 XInt) rfl Ui Kv ?_
          rintro b2 w6 hb2 b2lt E6 hO1; refine Vr rfl<|Zc rfl<|Gm<|Zd ?_; refine Zk (v := .tuple #[.slice _ _ _, .bool _]) rfl ?_; exact ⟨_, rfl, exq, hO1.toB.o.mono Ka⟩; contradiction
    · rw [rd_no2 hP]
      have k2 : ∀ w v, ESl Ints w v (rdM s) → Does Tryz.prog 115 [v] w (Ret w (.bool false)) := fun w v h => by
        have := Xi w v _ h
        rwa [decide_eq_false hP] at this
      focus
        have szE3 := E3.size; refine Gt<|Gs<|Gz rfl<|Zh u1 rfl<|Zm Jh rfl (Besides.here hBe)<|Zo rfl<|Gm<|Gq rfl (fun h1 => ?_) (fun h1 => ?_); (exfalso; omega); refine Ve ?_; refine Zi ?_; refine Gt<|Gs<|Zh u rfl<|Gu rfl (Vh (a := u) Js rfl) (k2 _ _ ((Owned.read hO3))) ?_; rintro _ w4 ⟨rfl, E4⟩; have hs3 := E4.size; refine Vt rfl<|Vx rfl (Zt (v := .bool _) rfl) (fun h2 => ?_) (fun h2 => ?_); refine Gn rfl<|Gn rfl<|Gn rfl<|Gn rfl<|Vw rfl<|Gm<|Vj rfl ?_; refine Gs<|Yb (XSl 3 XInt) rfl Ui Kv ?_; rintro b2 w5 hb2 b2lt E5 hO1; refine Vr rfl<|Zc rfl<|Gm<|Zd ?_; refine Zk (v := .tuple #[.slice _ _ _, .bool _]) rfl ?_; exact ⟨_, rfl, exq, hO1.toB.o.mono Ka⟩; contradiction
end Go.Proofs.YtbgpppaljpngmaaGreatDoor
namespace Go.Proofs.YtbgpppaljpngmaaGreatDoor
open Go.Hs
set_option maxRecDepth 10000
set_option maxHeartbeats 4000000
set_option linter.unusedVariables false
set_option linter.unusedSimpArgs false
theorem Zz : Flat Tryz.prog 48 [.int .i64 0, str [], .int .i64 0] := ⟨_, Tryz.underlying48, fun _ => Kb, fun _ => Kb⟩
theorem Qs {ρ : Env} {w : World} {x y : Operand} {t' ty : TypeId} {k n k' n' : Int} {a b : List UInt8} (hx : evalE ρ x = .agg #[.int .i64 k, str a, .int .i64 n]) (hy : evalE ρ y = .agg #[.int .i64 k', str b, .int .i64 n']) :
    OpV Tryz.prog (.binOp .eql 48 x y t') ty ρ w (.bool (decide ((⟨k, a, n⟩ : Deed) = ⟨k', b, n'⟩))) := by
  have u3 := Tryz.underlying3
  have a3 := Tryz.isAgg3
  have z3 := Tryz.sizeOf3
  have u9 := Tryz.underlying9
  have a9 := Tryz.isAgg9
  have z9 := Tryz.sizeOf9
  have hS : Tryz.prog.underlying 48 = some (.struct (Tryz.prog.fieldsOf 48)) := Kb
  have hp : Tryz.prog.stoodInHeld 48 = false := Kb
  have hg : Tryz.prog.eqGuardType Tryz.prog.depth 48 = false := Kb
  have e : ((binOp .eql 48 (.agg #[.int .i64 k, str a, .int .i64 n]) (.agg #[.int .i64 k', str b, .int .i64 n'])).run Tryz.prog w) = .ok (.bool (decide ((⟨k, a, n⟩ : Deed) = ⟨k', b, n'⟩))) w := by
    rw [run_eql_struct, show (10000 : Nat) = 9999 + 1 from rfl, run_equalIn_agg w 9999 48 _ _ hS hp]
    simp only [Program.fieldsOf, Tryz.underlying48]
    go_simp
    by_cases h1 : k = k' <;> by_cases h2 : a = b <;> by_cases h3 : n = n' <;> simp [h1, h2, h3]
  simp [OpV, execOp, hx, hy, run_eqGuard_agg, hg, e]
theorem Rn (w : World) (k n : Int) (t : List UInt8) (ht : t.length ≤ 1048576) :
    Does Tryz.prog 108 [.agg #[.int .i64 k, str t, .int .i64 n]] w (Ret w (str (dtV ⟨k, t, n⟩))) := by
  obtain ⟨B, hB⟩ : ∃ B, B = (rdP t).isSome := ⟨_, rfl⟩
  have k1 : ∀ w, Does Tryz.prog 122 [str t] w (RetOB w XR ((rdP t).getD []) B) := fun w => hB ▸ Sb w t ht
  refine Zy Tryz.func108 rfl Tryz.results108 Tryz.ntmps108 rfl ?_
  have k2 : ∀ w, 0 ≤ n ∧ n ≤ 9 → Does Tryz.prog 64 [.int .i64 n] w (Ret w (str [dig n.toNat])) := fun w h => by
    obtain ⟨d, rfl⟩ := Int.eq_ofNat_of_zero_le h.1
    exact l1Number_ok w d Ka
  focus
    refine Gs<|Vp rfl rfl rfl ?_; rintro b1 w1 hb1 E1 hB1; have hlb1 := hB1.lt; have hs1 := E1.size; refine Yo rfl<|Gm<|Gt<|Zl<|Zg Kp Ku rfl<|Xe Kx hB1 rfl<|Gu rfl (Vh (a := .string _) Jo rfl) (k1 _) ?_; rintro _ w2 ⟨u1, rfl, E2, hO1⟩; have hs2 := E2.size; refine Xf rfl<|Xo u1 rfl<|Yz rfl<|Vn u1 rfl<|Zc rfl<|Gm<|Gt<|Gy<|Gt<|Zl<|Xq Jb Kr (hB1.ext E2) rfl<|Wo rfl (Zn (ps := [(0, .int _ _)]) (cs := [_, _, _]) Zz rfl rfl)<|Wo rfl (Qs rfl rfl)<|Zc rfl<|Gm<|Gq rfl (fun h1 => ?_) (fun h1 => ?_); refine Gs<|Yo rfl<|Gm<|Zd ?_; refine Zk (v := .string _) rfl ?_; refine ⟨congrArg str ?_, exq⟩; rotate_left; refine Gs ?_
    refine Xq Jb Kr (hB1.ext E2) rfl<|Wo rfl (Zn (ps := [(0, .int _ _)]) (cs := [_, _, _]) Zz rfl rfl)<|Wo rfl (Qs rfl rfl)<|Zc rfl<|Gm<|Gq rfl (fun h2 => ?_) (fun h2 => ?_); refine Gs<|Yo rfl<|Gm<|Zd ?_; refine Zk (v := .string _) rfl ?_; refine ⟨congrArg str ?_, exq⟩; rotate_left; refine Gs<|Zg Kp Kl rfl<|Vi Km (hB1.ext E2) rfl<|Zs rfl<|Zp rfl (fun h3 => ?_) (fun h3 => ?_); refine Zg Kp Kl rfl<|Vi Km (hB1.ext E2) rfl<|Zs rfl<|Vw rfl<|Zp rfl (fun h4 => ?_) (fun h4 => ?_); refine Vq rfl<|Vw rfl<|Zc rfl<|Gm<|Vv rfl (fun h5 => ?_) (fun h5 => ?_); refine Gs ?_
    refine Zg Kp Ku rfl<|Xe Kx (hB1.ext E2) rfl<|Wo rfl (Yq rfl rfl (by simp <;> omega)) ?_; refine Yo rfl<|Gm<|Zd ?_; refine Zk (v := .string _) rfl ?_; refine ⟨congrArg str ?_, exq⟩; rotate_left; refine Gs<|Zg Kp Kl rfl<|Vi Km (hB1.ext E2) rfl<|Zs rfl<|Zp rfl (fun h6 => ?_) (fun h6 => ?_); (exfalso; omega); refine Gn rfl<|Gn rfl<|Gn rfl<|Vc rfl<|Vq rfl<|Gn rfl<|Vc rfl<|Zc rfl<|Gm<|Za rfl ?_; refine Gs<|Zg Kp Kl rfl<|Vi Km (hB1.ext E2) rfl<|Zs rfl<|Zp rfl (fun h7 => ?_) (fun h7 => ?_); (exfalso; omega); refine Gn rfl<|Gn rfl<|Gn rfl ?_
    refine Vc rfl<|Vq rfl<|Gn rfl<|Gn rfl<|Gn rfl<|Vc rfl<|Zc rfl<|Gm<|Za rfl ?_; refine Gx<|Gs<|Yo rfl<|Gm<|Zd ?_; refine Zk (v := .string _) rfl ?_; refine ⟨congrArg str ?_, exq⟩; rotate_left; refine Gn rfl<|Vc rfl<|Zc rfl<|Gm<|Za rfl ?_; refine Gs<|Zg Kp Kl rfl<|Vi Km (hB1.ext E2) rfl<|Zs rfl<|Zp rfl (fun h5 => ?_) (fun h5 => ?_); (exfalso; omega); refine Gn rfl<|Gn rfl<|Gn rfl<|Vc rfl<|Vq rfl<|Gn rfl<|Vc rfl<|Zc rfl<|Gm<|Za rfl ?_; refine Gs<|Zg Kp Kl rfl<|Vi Km (hB1.ext E2) rfl<|Zs rfl ?_
    refine Zp rfl (fun h6 => ?_) (fun h6 => ?_); (exfalso; omega); refine Gn rfl<|Gn rfl<|Gn rfl<|Vc rfl<|Vq rfl<|Gn rfl<|Gn rfl<|Gn rfl<|Vc rfl<|Zc rfl<|Gm<|Za rfl ?_; refine Gx<|Gs<|Yo rfl<|Gm<|Zd ?_; refine Zk (v := .string _) rfl ?_; refine ⟨congrArg str ?_, exq⟩; rotate_left; refine Gn rfl<|Gn rfl<|Gn rfl<|Vc rfl<|Vq rfl<|Gn rfl<|Vc rfl<|Zc rfl<|Gm<|Za rfl ?_; refine Gs<|Zg Kp Kl rfl<|Vi Km (hB1.ext E2) rfl<|Zs rfl<|Zp rfl (fun h4 => ?_) (fun h4 => ?_); refine Zg Kp Kl rfl<|Vi Km (hB1.ext E2) rfl<|Zs rfl<|Vw rfl ?_
    refine Zp rfl (fun h5 => ?_) (fun h5 => ?_); refine Vq rfl<|Vw rfl<|Zc rfl<|Gm<|Vv rfl (fun h6 => ?_) (fun h6 => ?_); refine Gs<|Zg Kp Ku rfl<|Xe Kx (hB1.ext E2) rfl<|Wo rfl (Yq rfl rfl (by simp <;> omega)) ?_; refine Yo rfl<|Gm<|Zd ?_; refine Zk (v := .string _) rfl ?_; refine ⟨congrArg str ?_, exq⟩; rotate_left; refine Gs<|Zg Kp Kl rfl<|Vi Km (hB1.ext E2) rfl<|Zs rfl<|Zp rfl (fun h7 => ?_) (fun h7 => ?_); (exfalso; omega); refine Gn rfl<|Gn rfl<|Gn rfl<|Vc rfl<|Vq rfl<|Gn rfl<|Gn rfl<|Gn rfl<|Vc rfl<|Zc rfl<|Gm<|Za rfl ?_; refine Gx<|Gs<|Yo rfl<|Gm<|Zd ?_; refine Zk (v := .string _) rfl ?_
    refine ⟨congrArg str ?_, exq⟩; rotate_left; refine Gn rfl<|Vc rfl<|Zc rfl<|Gm<|Za rfl ?_; refine Gs<|Zg Kp Kl rfl<|Vi Km (hB1.ext E2) rfl<|Zs rfl<|Zp rfl (fun h6 => ?_) (fun h6 => ?_); (exfalso; omega); refine Gn rfl<|Gn rfl<|Gn rfl<|Vc rfl<|Vq rfl<|Gn rfl<|Gn rfl<|Gn rfl<|Vc rfl<|Zc rfl<|Gm<|Za rfl ?_; refine Gx<|Gs<|Yo rfl<|Gm<|Zd ?_; refine Zk (v := .string _) rfl ?_; refine ⟨congrArg str ?_, exq⟩; rotate_left; refine Gn rfl<|Gn rfl<|Gn rfl<|Vc rfl<|Vq rfl<|Gn rfl<|Vc rfl<|Zc rfl<|Gm<|Za rfl ?_; refine Gs<|Zg Kp Kl rfl<|Vi Km (hB1.ext E2) rfl ?_
    refine Zs rfl<|Zp rfl (fun h5 => ?_) (fun h5 => ?_); refine Zg Kp Ku rfl<|Xe Kx (hB1.ext E2) rfl<|Wo rfl (Vo rfl rfl)<|Vw rfl<|Zp rfl (fun h6 => ?_) (fun h6 => ?_); refine Zg Kp Kl rfl<|Vi Km (hB1.ext E2) rfl<|Gu rfl (Sy (a := .int _ _) (b := .int _ _) (c := .int _ _) Jr rfl rfl rfl) (Qe _ _ _ _) ?_; rintro _ w3 ⟨rfl, E3⟩; refine Vw rfl<|Zc rfl<|Gm<|Gq rfl (fun h7 => ?_) (fun h7 => ?_); refine Gt<|Zl<|Zg Kp Kl rfl<|Vi Km (hB1.ext exq) rfl<|Gu rfl (Vh (a := .int _ _) Tryz.call64 rfl) (k2 _ Kd) ?_; rintro _ w4 ⟨rfl, E4⟩; refine Wo rfl (Yq rfl rfl (by simp <;> omega)) ?_
    refine Yo rfl<|Gm<|Zd ?_; refine Zk (v := .string _) rfl ?_; refine ⟨congrArg str ?_, exq⟩; rotate_left; refine Gx<|Gs<|Yo rfl<|Gm<|Zd ?_; refine Zk (v := .string _) rfl ?_; refine ⟨congrArg str ?_, exq⟩; rotate_left; refine Gn rfl<|Gn rfl<|Gn rfl<|Vc rfl<|Zc rfl<|Gm<|Za rfl ?_; refine Gx<|Gs<|Yo rfl<|Gm<|Zd ?_; refine Zk (v := .string _) rfl ?_; refine ⟨congrArg str ?_, exq⟩; rotate_left; refine Gn rfl<|Gn rfl<|Gn rfl<|Vc rfl<|Vq rfl<|Gn rfl<|Gn rfl<|Gn rfl<|Vc rfl<|Zc rfl<|Gm<|Za rfl ?_; refine Gx<|Gs<|Yo rfl<|Gm<|Zd ?_; refine Zk (v := .string _) rfl ?_; refine ⟨congrArg str ?_, exq⟩; rotate_left
  all_goals (unfold dtV; simp only [Deed.mk.injEq] at *)
  all_goals (try subst hB)
  all_goals try (simp_all [sSingle, sBack, sAdd, sDrop, sInto]; done)
  all_goals (repeat' split)
  all_goals first
    | rfl
    | (simp_all [sSingle, sBack, sAdd, sDrop, sInto]; done)
    | (exfalso; simp_all; omega)
end Go.Proofs.YtbgpppaljpngmaaGreatDoor
namespace Go.Proofs.YtbgpppaljpngmaaGreatDoor
open Go.Hs
set_option maxRecDepth 10000
set_option maxHeartbeats 4000000
set_option linter.unusedVariables false
set_option linter.unusedSimpArgs false
theorem Qn (w : World) (k n : Int) (t : List UInt8) (hM : EMx gMx w (.bool true) ()) (ht : t.length ≤ 1048576) :
    Does Tryz.prog 104 [.agg #[.int .i64 k, str t, .int .i64 n]] w (Ret w (str (dtV ⟨k, t, n⟩))) := by
  obtain ⟨B, hB⟩ : ∃ B, B = (rdP t).isSome := ⟨_, rfl⟩
  have k1 : ∀ w, EMx gMx w (.bool true) () → Does Tryz.prog 150 [str t] w (RetOB w XR ((rdP t).getD []) B) := fun w hM => hB ▸ readPicture_ok w t hM ht
  have k2 : ∀ w, 0 ≤ n → n ≤ 9 → Does Tryz.prog 131 [.int .i64 n] w (Ret w (str [dig n.toNat])) := fun w h h' => by
    obtain ⟨d, rfl⟩ := Int.eq_ofNat_of_zero_le h
    exact Itoa_ok w d Ka
  refine Zy Tryz.func104 rfl Tryz.results104 Tryz.ntmps104 rfl ?_
  focus
    refine Gs<|Vp rfl rfl rfl ?_; rintro b1 w1 hb1 E1 hB1; have hlb1 := hB1.lt; have hs1 := E1.size; refine Yo rfl<|Gm<|Gt<|Gy<|Gs<|Zg Kp Kl rfl<|Vi Km hB1 rfl<|Zs rfl<|Zp rfl (fun h1 => ?_) (fun h1 => ?_); refine Zg Kp Ku rfl<|Xe Kx hB1 rfl<|Wo rfl (Vo rfl rfl)<|Vw rfl<|Zp rfl (fun h2 => ?_) (fun h2 => ?_); refine Zg Kp Kl rfl<|Vi Km hB1 rfl<|Zs rfl<|Vw rfl<|Zc rfl<|Gm<|Gq rfl (fun h3 => ?_) (fun h3 => ?_); refine Gs<|Yo rfl<|Gm<|Zd ?_; refine Zk (v := .string _) rfl ?_; refine ⟨congrArg str ?_, E1⟩; rotate_left; refine Gs<|Zg Kp Kl rfl ?_
    refine Vi Km hB1 rfl<|Zs rfl<|Zp rfl (fun h4 => ?_) (fun h4 => ?_); (exfalso; omega); refine Gn rfl<|Gn rfl<|Gn rfl<|Vc rfl<|Vq rfl<|Gn rfl<|Gn rfl<|Gn rfl<|Vc rfl<|Zc rfl<|Gm<|Za rfl ?_; refine Gs<|Zg Kp Kl rfl<|Vi Km hB1 rfl<|Zs rfl<|Zp rfl (fun h5 => ?_) (fun h5 => ?_); (exfalso; omega); refine Gn rfl<|Gn rfl<|Gn rfl<|Vc rfl<|Vq rfl<|Gn rfl<|Gn rfl<|Gn rfl<|Vc rfl<|Vq rfl<|Gn rfl<|Gn rfl<|Gn rfl<|Vc rfl<|Zc rfl<|Gm<|Za rfl ?_; refine Gx<|Gt<|Gs<|Zg Kp Ku rfl<|Xe Kx hB1 rfl ?_
    refine Gu rfl (Vh (a := .string _) Jw rfl) (k1 _ ((Mono.mono E1 hM))) ?_; rintro _ w2 ⟨u1, rfl, E2, hO1⟩; refine Xf rfl<|Xo u1 rfl<|Yz rfl<|Vn u1 rfl<|Zc rfl<|Gm<|Gs<|Vq rfl<|Vt rfl<|Vx rfl (Zt (v := .bool _) rfl) (fun h6 => ?_) (fun h6 => ?_); refine Gn rfl<|Gn rfl<|Gn rfl<|Vw rfl<|Gm<|Vj rfl ?_; refine Gs<|Yo rfl<|Gm<|Zd ?_; refine Zk (v := .string _) rfl ?_; refine ⟨congrArg str ?_, exq⟩; rotate_left; refine Zg Kp Kl rfl<|Vi Km (hB1.ext E2) rfl<|Uc rfl<|Vc rfl<|Gm<|Zx rfl (fun h7 => ?_) (fun h7 => ?_); refine Gs<|Yo rfl ?_
    refine Gm<|Zd ?_; refine Zk (v := .string _) rfl ?_; refine ⟨congrArg str ?_, exq⟩; rotate_left; contradiction; refine Gn rfl<|Gn rfl<|Gn rfl<|Vc rfl<|Zc rfl<|Gm<|Za rfl ?_; refine Gs<|Zg Kp Kl rfl<|Vi Km hB1 rfl<|Zs rfl<|Zp rfl (fun h3 => ?_) (fun h3 => ?_); (exfalso; omega); refine Gn rfl<|Gn rfl<|Gn rfl<|Vc rfl<|Vq rfl<|Gn rfl<|Gn rfl<|Gn rfl<|Vc rfl<|Zc rfl<|Gm<|Za rfl ?_; refine Gs<|Zg Kp Kl rfl<|Vi Km hB1 rfl<|Zs rfl<|Zp rfl (fun h4 => ?_) (fun h4 => ?_); (exfalso; omega); refine Gn rfl<|Gn rfl<|Gn rfl<|Vc rfl<|Vq rfl<|Gn rfl<|Gn rfl ?_
    refine Gn rfl<|Vc rfl<|Vq rfl<|Gn rfl<|Gn rfl<|Gn rfl<|Vc rfl<|Zc rfl<|Gm<|Za rfl ?_; refine Gx<|Gt<|Gs<|Zg Kp Ku rfl<|Xe Kx hB1 rfl<|Gu rfl (Vh (a := .string _) Jw rfl) (k1 _ ((Mono.mono E1 hM))) ?_; rintro _ w2 ⟨u1, rfl, E2, hO1⟩; refine Xf rfl<|Xo u1 rfl<|Yz rfl<|Vn u1 rfl<|Zc rfl<|Gm<|Gs<|Vq rfl<|Vt rfl<|Vx rfl (Zt (v := .bool _) rfl) (fun h5 => ?_) (fun h5 => ?_); refine Gn rfl<|Gn rfl<|Gn rfl<|Vw rfl<|Gm<|Vj rfl ?_; refine Gs<|Yo rfl<|Gm<|Zd ?_; refine Zk (v := .string _) rfl ?_; refine ⟨congrArg str ?_, exq⟩; rotate_left
    refine Zg Kp Kl rfl<|Vi Km (hB1.ext E2) rfl<|Uc rfl<|Vc rfl<|Gm<|Zx rfl (fun h6 => ?_) (fun h6 => ?_); refine Gs<|Yo rfl<|Gm<|Zd ?_; refine Zk (v := .string _) rfl ?_; refine ⟨congrArg str ?_, exq⟩; rotate_left; refine Gx<|Gt<|Gs<|Zg Kp Kl rfl<|Vi Km (hB1.ext E2) rfl<|Gm<|Gy<|Gt<|Zl<|Zs rfl<|Zc rfl<|Gm<|Gq rfl (fun h7 => ?_) (fun h7 => ?_); (exfalso; omega); refine Gt<|Zl<|Zs rfl<|Zc rfl<|Gm<|Gq rfl (fun h8 => ?_) (fun h8 => ?_); (exfalso; omega); refine Gx<|Gt<|Zl<|Yo rfl<|Gm<|Zd ?_; refine Zk (v := .string _) rfl ?_; refine ⟨congrArg str ?_, exq⟩; rotate_left; refine Gn rfl ?_
    refine Gn rfl<|Gn rfl<|Vc rfl<|Vq rfl<|Gn rfl<|Gn rfl<|Gn rfl<|Vc rfl<|Zc rfl<|Gm<|Za rfl ?_; refine Gs<|Zg Kp Kl rfl<|Vi Km hB1 rfl<|Zs rfl<|Zp rfl (fun h2 => ?_) (fun h2 => ?_); refine Zg Kp Ku rfl<|Xe Kx hB1 rfl<|Wo rfl (Vo rfl rfl)<|Vw rfl<|Zp rfl (fun h3 => ?_) (fun h3 => ?_); refine Zg Kp Kl rfl<|Vi Km hB1 rfl<|Zs rfl<|Vw rfl<|Zc rfl<|Gm<|Gq rfl (fun h4 => ?_) (fun h4 => ?_); refine Gs<|Yo rfl<|Gm<|Zd ?_; refine Zk (v := .string _) rfl ?_; refine ⟨congrArg str ?_, E1⟩; rotate_left; refine Gs<|Zg Kp Kl rfl ?_
    refine Vi Km hB1 rfl<|Zs rfl<|Zp rfl (fun h5 => ?_) (fun h5 => ?_); (exfalso; omega); refine Gn rfl<|Gn rfl<|Gn rfl<|Vc rfl<|Vq rfl<|Gn rfl<|Gn rfl<|Gn rfl<|Vc rfl<|Vq rfl<|Gn rfl<|Gn rfl<|Gn rfl<|Vc rfl<|Zc rfl<|Gm<|Za rfl ?_; refine Gx<|Gt<|Gs<|Zg Kp Ku rfl<|Xe Kx hB1 rfl<|Gu rfl (Vh (a := .string _) Jw rfl) (k1 _ ((Mono.mono E1 hM))) ?_; rintro _ w2 ⟨u1, rfl, E2, hO1⟩; refine Xf rfl<|Xo u1 rfl<|Yz rfl<|Vn u1 rfl<|Zc rfl<|Gm<|Gs<|Vq rfl<|Vt rfl<|Vx rfl (Zt (v := .bool _) rfl) (fun h6 => ?_) (fun h6 => ?_); refine Gn rfl ?_
    refine Gn rfl<|Gn rfl<|Vw rfl<|Gm<|Vj rfl ?_; refine Gs<|Yo rfl<|Gm<|Zd ?_; refine Zk (v := .string _) rfl ?_; refine ⟨congrArg str ?_, exq⟩; rotate_left; refine Zg Kp Kl rfl<|Vi Km (hB1.ext E2) rfl<|Uc rfl<|Vc rfl<|Gm<|Zx rfl (fun h7 => ?_) (fun h7 => ?_); refine Gs<|Yo rfl<|Gm<|Zd ?_; refine Zk (v := .string _) rfl ?_; refine ⟨congrArg str ?_, exq⟩; rotate_left; contradiction; refine Gn rfl<|Gn rfl<|Gn rfl<|Vc rfl<|Zc rfl<|Gm<|Za rfl ?_; refine Gs<|Zg Kp Kl rfl<|Vi Km hB1 rfl<|Zs rfl<|Zp rfl (fun h4 => ?_) (fun h4 => ?_); (exfalso; omega); refine Gn rfl<|Gn rfl<|Gn rfl<|Vc rfl ?_
    refine Vq rfl<|Gn rfl<|Gn rfl<|Gn rfl<|Vc rfl<|Vq rfl<|Gn rfl<|Gn rfl<|Gn rfl<|Vc rfl<|Zc rfl<|Gm<|Za rfl ?_; refine Gx<|Gt<|Gs<|Zg Kp Ku rfl<|Xe Kx hB1 rfl<|Gu rfl (Vh (a := .string _) Jw rfl) (k1 _ ((Mono.mono E1 hM))) ?_; rintro _ w2 ⟨u1, rfl, E2, hO1⟩; refine Xf rfl<|Xo u1 rfl<|Yz rfl<|Vn u1 rfl<|Zc rfl<|Gm<|Gs<|Vq rfl<|Vt rfl<|Vx rfl (Zt (v := .bool _) rfl) (fun h5 => ?_) (fun h5 => ?_); refine Gn rfl<|Gn rfl<|Gn rfl<|Vw rfl<|Gm<|Vj rfl ?_; refine Gs<|Yo rfl<|Gm<|Zd ?_; refine Zk (v := .string _) rfl ?_; refine ⟨congrArg str ?_, exq⟩; rotate_left
    refine Zg Kp Kl rfl<|Vi Km (hB1.ext E2) rfl<|Uc rfl<|Vc rfl<|Gm<|Zx rfl (fun h6 => ?_) (fun h6 => ?_); refine Gs<|Yo rfl<|Gm<|Zd ?_; refine Zk (v := .string _) rfl ?_; refine ⟨congrArg str ?_, exq⟩; rotate_left; refine Gx<|Gt<|Gs<|Zg Kp Kl rfl<|Vi Km (hB1.ext E2) rfl<|Gm<|Gy<|Gt<|Zl<|Zs rfl<|Zc rfl<|Gm<|Gq rfl (fun h7 => ?_) (fun h7 => ?_); (exfalso; omega); refine Gt<|Zl<|Zs rfl<|Zc rfl<|Gm<|Gq rfl (fun h8 => ?_) (fun h8 => ?_); (exfalso; omega); refine Gx<|Gt<|Zl<|Yo rfl<|Gm<|Zd ?_; refine Zk (v := .string _) rfl ?_; refine ⟨congrArg str ?_, exq⟩; rotate_left; refine Gn rfl ?_
    refine Gn rfl<|Gn rfl<|Vc rfl<|Vq rfl<|Gn rfl<|Gn rfl<|Gn rfl<|Vc rfl<|Zc rfl<|Gm<|Za rfl ?_; refine Gs<|Zg Kp Kl rfl<|Vi Km hB1 rfl<|Zs rfl<|Zp rfl (fun h3 => ?_) (fun h3 => ?_); refine Zg Kp Ku rfl<|Xe Kx hB1 rfl<|Wo rfl (Vo rfl rfl)<|Vw rfl<|Zp rfl (fun h4 => ?_) (fun h4 => ?_); refine Zg Kp Kl rfl<|Vi Km hB1 rfl<|Wsgeq rfl<|Vw rfl<|Zp rfl (fun h5 => ?_) (fun h5 => ?_); refine Zg Kp Kl rfl<|Vi Km hB1 rfl<|Wsleq rfl<|Vw rfl<|Zc rfl<|Gm ?_
    refine Gq rfl (fun h6 => ?_) (fun h6 => ?_); refine Gs<|Zg Kp Kl rfl<|Vi Km hB1 rfl<|Gu rfl (Vh (a := .int _ _) Tryz.call131 rfl) (k2 _ Kd Kd) ?_; rintro _ w2 ⟨rfl, E2⟩; refine Wo rfl (Yq rfl rfl (by simp <;> omega)) ?_; refine Yo rfl<|Gm<|Zd ?_; refine Zk (v := .string _) rfl ?_; refine ⟨congrArg str ?_, exq⟩; rotate_left; refine Gx<|Gt<|Gs<|Zg Kp Ku rfl<|Xe Kx hB1 rfl<|Gu rfl (Vh (a := .string _) Jw rfl) (k1 _ ((Mono.mono E1 hM))) ?_; rintro _ w2 ⟨u1, rfl, E2, hO1⟩; refine Xf rfl<|Xo u1 rfl<|Yz rfl<|Vn u1 rfl<|Zc rfl<|Gm<|Gs<|Vq rfl<|Vt rfl ?_
    refine Vx rfl (Zt (v := .bool _) rfl) (fun h7 => ?_) (fun h7 => ?_); refine Gn rfl<|Gn rfl<|Gn rfl<|Vw rfl<|Gm<|Vj rfl ?_; refine Gs<|Yo rfl<|Gm<|Zd ?_; refine Zk (v := .string _) rfl ?_; refine ⟨congrArg str ?_, exq⟩; rotate_left; refine Zg Kp Kl rfl<|Vi Km (hB1.ext E2) rfl<|Uc rfl<|Vc rfl<|Gm<|Zx rfl (fun h8 => ?_) (fun h8 => ?_); refine Gs<|Yo rfl<|Gm<|Zd ?_; refine Zk (v := .string _) rfl ?_; refine ⟨congrArg str ?_, exq⟩; rotate_left; (exfalso; omega); refine Gn rfl<|Gn rfl<|Gn rfl<|Vc rfl<|Zc rfl<|Gm<|Za rfl ?_; refine Gx<|Gt<|Gs<|Zg Kp Ku rfl<|Xe Kx hB1 rfl ?_
    refine Gu rfl (Vh (a := .string _) Jw rfl) (k1 _ ((Mono.mono E1 hM))) ?_; rintro _ w2 ⟨u1, rfl, E2, hO1⟩; have hs2 := E2.size; refine Xf rfl<|Xo u1 rfl<|Yz rfl<|Vn u1 rfl<|Zc rfl<|Gm<|Gs<|Vq rfl<|Vt rfl<|Vx rfl (Zt (v := .bool _) rfl) (fun h6 => ?_) (fun h6 => ?_); refine Gn rfl<|Gn rfl<|Gn rfl<|Vw rfl<|Gm<|Vj rfl ?_; refine Gs<|Yo rfl<|Gm<|Zd ?_; refine Zk (v := .string _) rfl ?_; refine ⟨congrArg str ?_, exq⟩; rotate_left; refine Zg Kp Kl rfl<|Vi Km (hB1.ext E2) rfl<|Uc rfl<|Vc rfl<|Gm<|Zx rfl (fun h7 => ?_) (fun h7 => ?_); refine Gs<|Yo rfl ?_
    refine Gm<|Zd ?_; refine Zk (v := .string _) rfl ?_; refine ⟨congrArg str ?_, exq⟩; rotate_left; (exfalso; omega); refine Gn rfl<|Gn rfl<|Gn rfl<|Vc rfl<|Vq rfl<|Gn rfl<|Gn rfl<|Gn rfl<|Vc rfl<|Zc rfl<|Gm<|Za rfl ?_; refine Gx<|Gt<|Gs<|Zg Kp Ku rfl<|Xe Kx hB1 rfl<|Gu rfl (Vh (a := .string _) Jw rfl) (k1 _ ((Mono.mono E1 hM))) ?_; rintro _ w2 ⟨u1, rfl, E2, hO1⟩; refine Xf rfl<|Xo u1 rfl<|Yz rfl<|Vn u1 rfl<|Zc rfl<|Gm<|Gs<|Vq rfl<|Vt rfl<|Vx rfl (Zt (v := .bool _) rfl) (fun h5 => ?_) (fun h5 => ?_); refine Gn rfl<|Gn rfl<|Gn rfl<|Vw rfl<|Gm<|Vj rfl ?_; refine Gs ?_
    refine Yo rfl<|Gm<|Zd ?_; refine Zk (v := .string _) rfl ?_; refine ⟨congrArg str ?_, exq⟩; rotate_left; refine Zg Kp Kl rfl<|Vi Km (hB1.ext E2) rfl<|Uc rfl<|Vc rfl<|Gm<|Zx rfl (fun h6 => ?_) (fun h6 => ?_); refine Gs<|Yo rfl<|Gm<|Zd ?_; refine Zk (v := .string _) rfl ?_; refine ⟨congrArg str ?_, exq⟩; rotate_left; refine Gx<|Gt<|Gs<|Zg Kp Kl rfl<|Vi Km (hB1.ext E2) rfl<|Gm<|Gy<|Gt<|Zl<|Zs rfl<|Zc rfl<|Gm<|Gq rfl (fun h7 => ?_) (fun h7 => ?_); (exfalso; omega); refine Gt<|Zl<|Zs rfl<|Zc rfl<|Gm<|Gq rfl (fun h8 => ?_) (fun h8 => ?_); (exfalso; omega); refine Gx<|Gt ?_
    refine Zl<|Yo rfl<|Gm<|Zd ?_; refine Zk (v := .string _) rfl ?_; refine ⟨congrArg str ?_, exq⟩; rotate_left; refine Gn rfl<|Gn rfl<|Gn rfl<|Vc rfl<|Vq rfl<|Gn rfl<|Gn rfl<|Gn rfl<|Vc rfl<|Vq rfl<|Gn rfl<|Gn rfl<|Gn rfl<|Vc rfl<|Zc rfl<|Gm<|Za rfl ?_; refine Gx<|Gt<|Gs<|Zg Kp Ku rfl<|Xe Kx hB1 rfl<|Gu rfl (Vh (a := .string _) Jw rfl) (k1 _ ((Mono.mono E1 hM))) ?_; rintro _ w2 ⟨u1, rfl, E2, hO1⟩; refine Xf rfl<|Xo u1 rfl<|Yz rfl<|Vn u1 rfl<|Zc rfl<|Gm<|Gs<|Vq rfl<|Vt rfl<|Vx rfl (Zt (v := .bool _) rfl) (fun h4 => ?_) (fun h4 => ?_); refine Gn rfl ?_
    refine Gn rfl<|Gn rfl<|Vw rfl<|Gm<|Vj rfl ?_; refine Gs<|Yo rfl<|Gm<|Zd ?_; refine Zk (v := .string _) rfl ?_; refine ⟨congrArg str ?_, exq⟩; rotate_left; refine Zg Kp Kl rfl<|Vi Km (hB1.ext E2) rfl<|Uc rfl<|Vc rfl<|Gm<|Zx rfl (fun h5 => ?_) (fun h5 => ?_); refine Gs<|Yo rfl<|Gm<|Zd ?_; refine Zk (v := .string _) rfl ?_; refine ⟨congrArg str ?_, exq⟩; rotate_left; refine Gx<|Gt<|Gs<|Zg Kp Kl rfl<|Vi Km (hB1.ext E2) rfl<|Gm<|Gy<|Gt<|Zl<|Zs rfl<|Zc rfl<|Gm<|Gq rfl (fun h6 => ?_) (fun h6 => ?_); refine Gs ?_
    refine Zg Kp Ku rfl<|Xe Kx (hB1.ext E2) rfl<|Wo rfl (Yq rfl rfl (by simp <;> omega)) ?_; refine Yo rfl<|Gm<|Zd ?_; refine Zk (v := .string _) rfl ?_; refine ⟨congrArg str ?_, exq⟩; rotate_left; refine Gs<|Zs rfl<|Zc rfl<|Gm<|Gq rfl (fun h7 => ?_) (fun h7 => ?_); refine Gs<|Zg Kp Ku rfl<|Xe Kx (hB1.ext E2) rfl<|Wo rfl (Yq rfl rfl (by simp <;> omega)) ?_; refine Yo rfl<|Gm<|Zd ?_; refine Zk (v := .string _) rfl ?_; refine ⟨congrArg str ?_, exq⟩; rotate_left; refine Gx<|Gt<|Zl<|Yo rfl<|Gm<|Zd ?_; refine Zk (v := .string _) rfl ?_; refine ⟨congrArg str ?_, exq⟩; rotate_left
  all_goals (unfold dtV; simp only [Deed.mk.injEq] at *)
  all_goals (try subst hB)
  all_goals try (simp_all [sSingle, sBack, sAdd, sDrop, sInto]; done)
  all_goals (repeat' split)
  all_goals first
    | rfl
    | (simp_all [sSingle, sBack, sAdd, sDrop, sInto]; done)
    | (exfalso; simp_all; omega)
theorem impl_DeedText_ok (w : World) (k n : Int) (t : List UInt8) (hM : EMx gMx w (.bool true) ()) (ht : t.length ≤ 1048576) :
    Does Tryz.prog 53 [.agg #[.int .i64 k, str t, .int .i64 n]] w (Ret w (str (dtV ⟨k, t, n⟩))) := by
  refine Zy Tryz.func53 rfl Tryz.results53 Tryz.ntmps53 rfl ?_
  focus
    refine Gs<|Vp rfl rfl rfl ?_; rintro b1 w1 hb1 E1 hB1; refine Yo rfl<|Gm<|Gt<|Zl<|Xq Jb Kr hB1 rfl<|Gu rfl (Vh (a := .agg _) Jq rfl) (Qn _ _ _ _ ((Mono.mono E1 hM)) Kd) ?_; rintro _ w2 ⟨rfl, E2⟩; refine Yo rfl<|Gm<|Zd ?_; exact ⟨rfl, exq⟩
end Go.Proofs.YtbgpppaljpngmaaGreatDoor
