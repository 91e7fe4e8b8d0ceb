/- Lemmas for FnDeskLine. -/
import Derived.Test.YtbgpppaljpngmaaGreatDoorMFnDeskLine7
namespace Go.Proofs.YtbgpppaljpngmaaGreatDoor
open Go.Hs
set_option maxRecDepth 10000
set_option maxHeartbeats 4000000
set_option linter.unusedVariables false
set_option linter.unusedSimpArgs false
open Classical in
theorem l11Made_ok (w:World) (v:Value) (p:List (List Int)) (h:ESl Ints w v p) (hp:Pic p) (k n:Int) (t:List UInt8) (ht:t.length≤1048576) :
  Dz 93 [v,.agg #[.int .i64 k,str t,.int .i64 n]] w (RetOB w XR (og (madeV p ⟨k,t,n⟩)) (madeV p ⟨k,t,n⟩).isSome):=by
 have hle:=h.le
 have I1:=hp.1
 have I5:=hp.2.1
 have hN:Nod p (0:Nat):=⟨hp,Kj,Kh⟩
 obtain ⟨Q,hQ⟩ : ∃ Q,Q=(rdP t).getD []:=⟨_,rfl⟩
 obtain ⟨B,hB⟩ : ∃ B,B=(rdP t).isSome:=⟨_,rfl⟩
 obtain ⟨M,hM⟩ : ∃ M,M=madeV p ⟨k,t,n⟩:=⟨_,rfl⟩
 rw [← hM]
 have k0 : ∀ w,Dz 122 [str t] w (RetOB w XR Q B):=fun w=>hQ ▸ hB ▸ Tl w t ht
 refine Uy Tryz.func93 Z Tryz.results93 Tryz.ntmps93 Z ?_
 by_cases e0:k=0
 ·subst e0
  by_cases e:t=[]∧n=0
  ·obtain ⟨rfl,rfl⟩:=e
   have hm:M=pairV p 0 p 0:=hM.trans (by simp [madeV])
   rw [hm]
   have k1 : ∀ (w:World) (v u:Value),ESl Ints w v p→ESl Ints w u p→Dz 141 [v,.int .i64 0,u,.int .i64 0] w (RetOB w XR (og (pairV p 0 p 0)) (pairV p 0 p 0).isSome):=fun w v u h1 h2=>PairOf_ok w v u p p h1 h2 0 0 hN hN
   focus
    refine Vr<|Xu Z Z Z ?_;rintro b1 w1 H1 E1 B1;have:=B1.lt;refine Uj Z<|Ya Z<|Vp<|Vr<|Yl Jn Jo Z<|Qx Jp B1 Z<|Vs Z (Xh (a:=.string _) Gn Z) (k0 _) ?_;rintro _ w2 ⟨u1,rfl,E2,O1⟩;have:=E2.Z;refine Ut Z<|Ra u1 Z<|Uz Z<|Uc u1 Z<|Ya Z<|Vp<|Vt<|Yb<|Vr<|Yl Jn Ji Z<|Xx Jk (B1.J E2) Z<|Yo Z<|Xi Z (fun h1=>?_) (fun h1=>?_);refine Yl Jn Jo Z<|Qx Jp (B1.J E2) Z<|Wo Z (Yi Z Z)<|Xy Z<|Xi Z (fun h2=>?_) (fun h2=>?_)
    refine Yl Jn Ji Z<|Xx Jk (B1.J E2) Z<|Yo Z<|Xy Z<|Ya Z<|Vp<|Vu Z (fun h3=>?_) (fun h3=>?_);refine Vr<|Yj v Z<|Yj v Z<|Vs Z (Ss (a:=v) (b:=.int _ _) (c:=v) (d:=.int _ _) Tryz.call141 Z Z Z Z) (k1 _ _ _ (Ku exq h) (Ku exq h)) ?_;rintro _ w3 ⟨u2,rfl,E3,O2⟩;refine Ra u2 Z<|Uz Z<|Uc u2 Z<|Ya Z<|Vp<|Vy ?_;refine Yh (v:=.tuple #[u2,.bool _]) Z ?_;exact ⟨_,rfl,exq,O2.toB.o.mono Kh⟩;exact Ks;exact Ks;exact Ks
  ·have hm:M=none:=hM.trans (by simp only [madeV];rw [if_neg (fun h=>e ⟨h.2.1,h.2.2⟩),if_neg (fun h=>absurd h.1 Kj),if_neg (fun h=>absurd h.1 Kj),if_neg (fun h=>absurd h.1 Kj)])
   rw [hm,show og none=[] from rfl,show (none:Option (List (List Int))).isSome=false from rfl]
   by_cases et:t=[]
   ·have en : ¬n=0:=fun h=>e ⟨et,h⟩
    subst et
    focus
     refine Vr<|Xu Z Z Z ?_;rintro b1 w1 H1 E1 B1;have:=B1.lt;refine Uj Z<|Ya Z<|Vp<|Vr<|Yl Jn Jo Z<|Qx Jp B1 Z<|Vs Z (Xh (a:=.string _) Gn Z) (k0 _) ?_;rintro _ w2 ⟨u1,rfl,E2,O1⟩;have:=E2.Z;refine Ut Z<|Ra u1 Z<|Uz Z<|Uc u1 Z<|Ya Z<|Vp<|Vt<|Yb<|Vr<|Yl Jn Ji Z<|Xx Jk (B1.J E2) Z<|Yo Z<|Xi Z (fun h1=>?_) (fun h1=>?_);refine Yl Jn Jo Z<|Qx Jp (B1.J E2) Z<|Wo Z (Yi Z Z)<|Xy Z<|Xi Z (fun h2=>?_) (fun h2=>?_);refine Yl Jn Ji Z<|Xx Jk (B1.J E2) Z<|Yo Z<|Xy Z<|Ya Z<|Vp<|Yt Z fun h3=>?_
     refine Vr<|Yl Jn Ji Z<|Xx Jk (B1.J E2) Z<|Yo Z<|Ui Z fun h4=>?_;refine Vq Z<|Xb Z<|Xp Z<|Vq Z<|Vq Z<|Vq Z<|Xb Z<|Ya Z<|Vp<|Vx Z ?_;refine Vr<|Yl Jn Ji Z<|Xx Jk (B1.J E2) Z<|Yo Z<|Ui Z fun h5=>?_;refine Vq Z<|Xb Z<|Xp Z<|Vq Z<|Vq Z<|Vq Z<|Xb Z<|Ya Z<|Vp<|Vx Z ?_;refine Vt<|Qe mixed Ki Z ?_;refine Qu Jn Ji Z<|Uq (v:=.int _ _) Z (fun w' hw'=>Xd Jk Z (((B1.J E2).J hw').cell Z)) ?_;refine St Z<|Rh Z (fun h6=>?_) (fun h6=>?_);exact Ks
     refine Yd Z<|Yd Z<|Yd Z<|Sl Z<|Tb Z<|Yd Z<|Yd Z<|Yd Z<|Yd Z<|Yd Z<|Yd Z<|Sl Z<|Tb Z<|Yd Z<|Yd Z<|Yd Z<|Yd Z<|Yd Z<|Yd Z<|Yd Z<|Yd Z<|Sl Z<|Nx Z<|Ux (fun w3 E3=>?_);have:=E3.Z;refine Vx Z ?_;refine Vw<|Vr<|Un (XSl 3 XInt) Z Sk Jw ?_;rintro b2 w4 H2 b2lt E4 O2;refine Uj Z<|Ya Z<|Vp<|Vy ?_;refine Yh (v:=.tuple #[.slice _ _ _,.bool _]) Z ?_;exact ⟨_,rfl,exq,O2.toB.o.mono Kh⟩;exact Ks;exact Ks
   ·focus
     refine Vr<|Xu Z Z Z ?_;rintro b1 w1 H1 E1 B1;have:=B1.lt;refine Uj Z<|Ya Z<|Vp<|Vr<|Yl Jn Jo Z<|Qx Jp B1 Z<|Vs Z (Xh (a:=.string _) Gn Z) (k0 _) ?_;rintro _ w2 ⟨u1,rfl,E2,O1⟩;have:=E2.Z;refine Ut Z<|Ra u1 Z<|Uz Z<|Uc u1 Z<|Ya Z<|Vp<|Vt<|Yb<|Vr<|Yl Jn Ji Z<|Xx Jk (B1.J E2) Z<|Yo Z<|Xi Z (fun h1=>?_) (fun h1=>?_);refine Yl Jn Jo Z<|Qx Jp (B1.J E2) Z<|Wo Z (Yi Z Z)<|Xy Z<|Ui Z fun h2=>?_;refine Vq Z<|Vq Z<|Vq Z<|Xb Z<|Ya Z<|Vp<|Vx Z ?_
     refine Vr<|Yl Jn Ji Z<|Xx Jk (B1.J E2) Z<|Yo Z<|Ui Z fun h3=>?_;refine Vq Z<|Xb Z<|Xp Z<|Vq Z<|Vq Z<|Vq Z<|Xb Z<|Ya Z<|Vp<|Vx Z ?_;refine Vr<|Yl Jn Ji Z<|Xx Jk (B1.J E2) Z<|Yo Z<|Ui Z fun h4=>?_;refine Vq Z<|Xb Z<|Xp Z<|Vq Z<|Vq Z<|Vq Z<|Xb Z<|Ya Z<|Vp<|Vx Z ?_;refine Vt<|Qe mixed Ki Z ?_;refine Qu Jn Ji Z<|Uq (v:=.int _ _) Z (fun w' hw'=>Xd Jk Z (((B1.J E2).J hw').cell Z)) ?_;refine St Z<|Rh Z (fun h5=>?_) (fun h5=>?_);exact Ks
     refine Yd Z<|Yd Z<|Yd Z<|Sl Z<|Tb Z<|Yd Z<|Yd Z<|Yd Z<|Yd Z<|Yd Z<|Yd Z<|Sl Z<|Tb Z<|Yd Z<|Yd Z<|Yd Z<|Yd Z<|Yd Z<|Yd Z<|Yd Z<|Yd Z<|Sl Z<|Nx Z<|Ux (fun w3 E3=>?_);have:=E3.Z;refine Vx Z ?_;refine Vw<|Vr<|Un (XSl 3 XInt) Z Sk Jw ?_;rintro b2 w4 H2 b2lt E4 O2;refine Uj Z<|Ya Z<|Vp<|Vy ?_;refine Yh (v:=.tuple #[.slice _ _ _,.bool _]) Z ?_;exact ⟨_,rfl,exq,O2.toB.o.mono Kh⟩;exact Ks
 by_cases e1:k=1
 ·subst e1
  by_cases en:n=0
  ·subst en
   have hm:M=(rdP t).bind fun q=>(pairV q 0 q 0).bind fun s=>togV p 0 s 0:=hM.trans (by simp only [madeV];rw [if_neg (fun h=>absurd h.1 Kj),if_pos Kp])
   cases hr:rdP t with
   | none =>
     rw [hr] at hm hB hQ
     rw [hm, show og (none.bind fun q => (pairV q 0 q 0).bind fun s => togV p 0 s 0) = [] from rfl, show (none.bind fun q => (pairV q 0 q 0).bind fun s => togV p 0 s 0).isSome = false from rfl]
     rw [hB, show (none : Option (List (List Int))).isSome = false from rfl] at k0
     focus
       refine Vr<|Xu Z Z Z ?_; rintro b1 w1 H1 E1 B1; have := B1.lt; refine Uj Z<|Ya Z<|Vp<|Vr<|Yl Jn Jo Z<|Qx Jp B1 Z<|Vs Z (Xh (a := .string _) Gn Z) (k0 _) ?_; rintro _ w2 ⟨u1, rfl, E2, O1⟩; have := E2.Z; refine Ut Z<|Ra u1 Z<|Uz Z<|Uc u1 Z<|Ya Z<|Vp<|Vt<|Yb<|Vr<|Yl Jn Ji Z<|Xx Jk (B1.J E2) Z<|Yo Z<|Ui Z fun h1 => ?_; refine Vq Z<|Vq Z<|Vq Z<|Xb Z<|Xp Z<|Vq Z<|Vq Z<|Vq Z<|Xb Z<|Ya Z<|Vp<|Vx Z ?_; refine Vr<|Yl Jn Ji Z<|Xx Jk (B1.J E2) Z<|Yo Z<|Xi Z (fun h2 => ?_) (fun h2 => ?_)
       refine Xp Z<|Xy Z<|Xp Z<|Vq Z<|Vq Z<|Vq Z<|Xb Z<|Ya Z<|Vp<|Vx Z ?_; refine Vr<|Yl Jn Ji Z<|Xx Jk (B1.J E2) Z<|Yo Z<|Ui Z fun h3 => ?_; refine Vq Z<|Xb Z<|Xp Z<|Vq Z<|Vq Z<|Vq Z<|Xb Z<|Ya Z<|Vp<|Vx Z ?_; refine Vt<|Qe mixed Ki Z ?_; refine Qu Jn Ji Z<|Uq (v := .int _ _) Z (fun w' hw' => Xd Jk Z (((B1.J E2).J hw').cell Z)) ?_; refine St Z<|Rh Z (fun h4 => ?_) (fun h4 => ?_); exact Ks
       refine Yd Z<|Yd Z<|Yd Z<|Sl Z<|Tb Z<|Yd Z<|Yd Z<|Yd Z<|Yd Z<|Yd Z<|Yd Z<|Sl Z<|Tb Z<|Yd Z<|Yd Z<|Yd Z<|Yd Z<|Yd Z<|Yd Z<|Yd Z<|Yd Z<|Sl Z<|Nx Z<|Ux (fun w3 E3 => ?_); have := E3.Z; refine Vx Z ?_; refine Vw<|Vr<|Un (XSl 3 XInt) Z Sk Jw ?_; rintro b2 w4 H2 b2lt E4 O2; refine Uj Z<|Ya Z<|Vp<|Vy ?_; refine Yh (v := .tuple #[.slice _ _ _, .bool _]) Z ?_; exact ⟨_, rfl, exq, O2.toB.o.mono Kh⟩; exact Ks
   | some q =>
     rw [hr] at hm hB hQ
     rw [hB, hQ, show (some q).isSome = true from rfl, show (some q).getD [] = q from rfl] at k0
     have hq := (Tn hr).1
     have hNq : Nod q (0 : Nat) := ⟨hq, Kj, by have := hq.1; omega⟩
     have k1 : ∀ (w : World) (v u : Value), ESl Ints w v q → ESl Ints w u q → Dz 141 [v, .int .i64 0, u, .int .i64 0] w (RetOB w XR (og (pairV q 0 q 0)) (pairV q 0 q 0).isSome) := fun w v u h1 h2 => PairOf_ok w v u q q h1 h2 0 0 hNq hNq
     rw [hm, show ((some q).bind fun q => (pairV q 0 q 0).bind fun s => togV p 0 s 0) = (pairV q 0 q 0).bind fun s => togV p 0 s 0 from rfl]
     cases hs : pairV q 0 q 0 with
     | none =>
       rw [hs] at k1
       rw [show (none.bind fun s => togV p 0 s 0) = none from rfl]
       rw [show og none = [] from rfl, show (none : Option (List (List Int))).isSome = false from rfl] at k1 ⊢
       focus
         refine Vr<|Xu Z Z Z ?_; rintro b1 w1 H1 E1 B1; have := B1.lt; refine Uj Z<|Ya Z<|Vp<|Vr<|Yl Jn Jo Z<|Qx Jp B1 Z<|Vs Z (Xh (a := .string _) Gn Z) (k0 _) ?_; rintro _ w2 ⟨u1, rfl, E2, O1⟩; have := E2.Z; refine Ut Z<|Ra u1 Z<|Uz Z<|Uc u1 Z<|Ya Z<|Vp<|Vt<|Yb<|Vr<|Yl Jn Ji Z<|Xx Jk (B1.J E2) Z<|Yo Z<|Ui Z fun h1 => ?_; refine Vq Z<|Vq Z<|Vq Z<|Xb Z<|Xp Z<|Vq Z<|Vq Z<|Vq Z<|Xb Z<|Ya Z<|Vp<|Vx Z ?_; refine Vr<|Yl Jn Ji Z<|Xx Jk (B1.J E2) Z<|Yo Z<|Xi Z (fun h2 => ?_) (fun h2 => ?_)
         refine Xp Z<|Xy Z<|Xp Z<|Yl Jn Ji Z<|Xx Jk (B1.J E2) Z<|Yo Z<|Xy Z<|Ya Z<|Vp<|Vu Z (fun h3 => ?_) (fun h3 => ?_); refine Vt<|Ym<|Yj u1 Z<|Yj u1 Z<|Vs Z (Ss (a := u1) (b := .int _ _) (c := u1) (d := .int _ _) Tryz.call141 Z Z Z Z) (k1 _ _ _ (Kv O1) (Kv O1)) ?_; rintro _ w3 ⟨u2, rfl, E3, O2⟩; have := E3.Z; refine Ut Z<|Ra u2 Z<|Uz Z<|Uc u2 Z<|Ya Z<|Vp<|Vt<|Vr<|Xp Z<|Xz Z<|Vp<|Up Z (fun h4 => ?_) (fun h4 => ?_); refine Vr<|Un (XSl 3 XInt) Z Sk Jw ?_; rintro b2 w4 H2 b2lt E4 O3; refine Uj Z<|Ya Z<|Vp<|Vy ?_; refine Yh (v := .tuple #[.slice _ _ _, .bool _]) Z ?_; exact ⟨_, rfl, exq, O3.toB.o.mono Kh⟩
         exact Ks; exact Ks; exact Ks
     | some s =>
       rw [hs] at k1
       rw [show ((some s).bind fun s => togV p 0 s 0) = togV p 0 s 0 from rfl]
       rw [show og (some s) = s from rfl, show (some s).isSome = true from rfl] at k1
       have hsp := (Lr hq hq hs).1
       have hNs : Nod s (0 : Nat) := ⟨hsp, Kj, by have := hsp.1; omega⟩
       have k2 : ∀ (w : World) (v u : Value), ESl Ints w v p → ESl Ints w u s → Dz 142 [v, .int .i64 0, u, .int .i64 0] w (RetOB w XR (og (togV p 0 s 0)) (togV p 0 s 0).isSome) := fun w v u h1 h2 => TogetherOf_ok w v u p s h1 h2 0 0 hN hNs
       focus
         refine Vr<|Xu Z Z Z ?_; rintro b1 w1 H1 E1 B1; have := B1.lt; refine Uj Z<|Ya Z<|Vp<|Vr<|Yl Jn Jo Z<|Qx Jp B1 Z<|Vs Z (Xh (a := .string _) Gn Z) (k0 _) ?_; rintro _ w2 ⟨u1, rfl, E2, O1⟩; have := E2.Z; refine Ut Z<|Ra u1 Z<|Uz Z<|Uc u1 Z<|Ya Z<|Vp<|Vt<|Yb<|Vr<|Yl Jn Ji Z<|Xx Jk (B1.J E2) Z<|Yo Z<|Ui Z fun h1 => ?_; refine Vq Z<|Vq Z<|Vq Z<|Xb Z<|Xp Z<|Vq Z<|Vq Z<|Vq Z<|Xb Z<|Ya Z<|Vp<|Vx Z ?_; refine Vr<|Yl Jn Ji Z<|Xx Jk (B1.J E2) Z<|Yo Z<|Xi Z (fun h2 => ?_) (fun h2 => ?_)
         refine Xp Z<|Xy Z<|Xp Z<|Yl Jn Ji Z<|Xx Jk (B1.J E2) Z<|Yo Z<|Xy Z<|Ya Z<|Vp<|Vu Z (fun h3 => ?_) (fun h3 => ?_); refine Vt<|Ym<|Yj u1 Z<|Yj u1 Z<|Vs Z (Ss (a := u1) (b := .int _ _) (c := u1) (d := .int _ _) Tryz.call141 Z Z Z Z) (k1 _ _ _ (Kv O1) (Kv O1)) ?_; rintro _ w3 ⟨u2, rfl, E3, O2⟩; have := E3.Z; refine Ut Z<|Ra u2 Z<|Uz Z<|Uc u2 Z<|Ya Z<|Vp<|Vt<|Vr<|Xp Z<|Xz Z<|Vp<|Uk Z fun h4 => ?_; refine Vw<|Vr<|Yj v Z<|Yj u2 Z<|Vs Z (Ss (a := v) (b := .int _ _) (c := u2) (d := .int _ _) Tryz.call142 Z Z Z Z) (k2 _ _ _ (Ku exq h) (Kv O2)) ?_; rintro _ w4 ⟨u3, rfl, E4, O3⟩
         refine Ra u3 Z<|Uz Z<|Uc u3 Z<|Ya Z<|Vp<|Vy ?_; refine Yh (v := .tuple #[u3, .bool _]) Z ?_; exact ⟨_, rfl, exq, O3.toB.o.mono Kh⟩; exact Ks; exact Ks
  ·have hm:M=none:=hM.trans (by simp only [madeV];rw [if_neg (fun h=>absurd h.1 Kj),if_neg (fun h=>en h.2),if_neg (fun h=>absurd h.1 Kj),if_neg (fun h=>absurd h.1 Kj)])
   rw [hm,show og none=[] from rfl,show (none:Option (List (List Int))).isSome=false from rfl]
   cases B
   ·focus
     refine Vr<|Xu Z Z Z ?_;rintro b1 w1 H1 E1 B1;have:=B1.lt;refine Uj Z<|Ya Z<|Vp<|Vr<|Yl Jn Jo Z<|Qx Jp B1 Z<|Vs Z (Xh (a:=.string _) Gn Z) (k0 _) ?_;rintro _ w2 ⟨u1,rfl,E2,O1⟩;have:=E2.Z;refine Ut Z<|Ra u1 Z<|Uz Z<|Uc u1 Z<|Ya Z<|Vp<|Vt<|Yb<|Vr<|Yl Jn Ji Z<|Xx Jk (B1.J E2) Z<|Yo Z<|Ui Z fun h1=>?_;refine Vq Z<|Vq Z<|Vq Z<|Xb Z<|Xp Z<|Vq Z<|Vq Z<|Vq Z<|Xb Z<|Ya Z<|Vp<|Vx Z ?_;refine Vr<|Yl Jn Ji Z<|Xx Jk (B1.J E2) Z<|Yo Z<|Xi Z (fun h2=>?_) (fun h2=>?_)
     refine Xp Z<|Xy Z<|Xp Z<|Vq Z<|Vq Z<|Vq Z<|Xb Z<|Ya Z<|Vp<|Vx Z ?_;refine Vr<|Yl Jn Ji Z<|Xx Jk (B1.J E2) Z<|Yo Z<|Ui Z fun h3=>?_;refine Vq Z<|Xb Z<|Xp Z<|Vq Z<|Vq Z<|Vq Z<|Xb Z<|Ya Z<|Vp<|Vx Z ?_;refine Vt<|Qe mixed Ki Z ?_;refine Qu Jn Ji Z<|Uq (v:=.int _ _) Z (fun w' hw'=>Xd Jk Z (((B1.J E2).J hw').cell Z)) ?_;refine St Z<|Rh Z (fun h4=>?_) (fun h4=>?_);exact Ks
     refine Yd Z<|Yd Z<|Yd Z<|Sl Z<|Tb Z<|Yd Z<|Yd Z<|Yd Z<|Yd Z<|Yd Z<|Yd Z<|Sl Z<|Tb Z<|Yd Z<|Yd Z<|Yd Z<|Yd Z<|Yd Z<|Yd Z<|Yd Z<|Yd Z<|Sl Z<|Nx Z<|Ux (fun w3 E3=>?_);have:=E3.Z;refine Vx Z ?_;refine Vw<|Vr<|Un (XSl 3 XInt) Z Sk Jw ?_;rintro b2 w4 H2 b2lt E4 O2;refine Uj Z<|Ya Z<|Vp<|Vy ?_;refine Yh (v:=.tuple #[.slice _ _ _,.bool _]) Z ?_;exact ⟨_,rfl,exq,O2.toB.o.mono Kh⟩;exact Ks
   ·focus
     refine Vr<|Xu Z Z Z ?_;rintro b1 w1 H1 E1 B1;have:=B1.lt;refine Uj Z<|Ya Z<|Vp<|Vr<|Yl Jn Jo Z<|Qx Jp B1 Z<|Vs Z (Xh (a:=.string _) Gn Z) (k0 _) ?_;rintro _ w2 ⟨u1,rfl,E2,O1⟩;have:=E2.Z;refine Ut Z<|Ra u1 Z<|Uz Z<|Uc u1 Z<|Ya Z<|Vp<|Vt<|Yb<|Vr<|Yl Jn Ji Z<|Xx Jk (B1.J E2) Z<|Yo Z<|Ui Z fun h1=>?_;refine Vq Z<|Vq Z<|Vq Z<|Xb Z<|Xp Z<|Vq Z<|Vq Z<|Vq Z<|Xb Z<|Ya Z<|Vp<|Vx Z ?_;refine Vr<|Yl Jn Ji Z<|Xx Jk (B1.J E2) Z<|Yo Z<|Xi Z (fun h2=>?_) (fun h2=>?_)
     refine Xp Z<|Xy Z<|Xp Z<|Yl Jn Ji Z<|Xx Jk (B1.J E2) Z<|Yo Z<|Xy Z<|Ya Z<|Vp<|Yt Z fun h3=>?_;refine Vr<|Yl Jn Ji Z<|Xx Jk (B1.J E2) Z<|Yo Z<|Ui Z fun h4=>?_;refine Vq Z<|Xb Z<|Xp Z<|Vq Z<|Vq Z<|Vq Z<|Xb Z<|Ya Z<|Vp<|Vx Z ?_;refine Vt<|Qe mixed Ki Z ?_;refine Qu Jn Ji Z<|Uq (v:=.int _ _) Z (fun w' hw'=>Xd Jk Z (((B1.J E2).J hw').cell Z)) ?_;refine St Z<|Rh Z (fun h5=>?_) (fun h5=>?_);exact Ks
     refine Yd Z<|Yd Z<|Yd Z<|Sl Z<|Tb Z<|Yd Z<|Yd Z<|Yd Z<|Yd Z<|Yd Z<|Yd Z<|Sl Z<|Tb Z<|Yd Z<|Yd Z<|Yd Z<|Yd Z<|Yd Z<|Yd Z<|Yd Z<|Yd Z<|Sl Z<|Nx Z<|Ux (fun w3 E3=>?_);have:=E3.Z;refine Vx Z ?_;refine Vw<|Vr<|Un (XSl 3 XInt) Z Sk Jw ?_;rintro b2 w4 H2 b2lt E4 O2;refine Uj Z<|Ya Z<|Vp<|Vy ?_;refine Yh (v:=.tuple #[.slice _ _ _,.bool _]) Z ?_;exact ⟨_,rfl,exq,O2.toB.o.mono Kh⟩;exact Ks
 by_cases e2:k=2
 ·subst e2
  by_cases en:n=0
  ·subst en
   have hm:M=(rdP t).bind fun q=>wosV p 0 q 0:=hM.trans (by simp only [madeV];rw [if_neg (fun h=>absurd h.1 Kj),if_neg (fun h=>absurd h.1 Kj),if_pos Kp])
   cases hr:rdP t with
   | none =>
     rw [hr] at hm hB hQ
     rw [hm, show og (none.bind fun q => wosV p 0 q 0) = [] from rfl, show (none.bind fun q => wosV p 0 q 0).isSome = false from rfl]
     rw [hB, show (none : Option (List (List Int))).isSome = false from rfl] at k0
     focus
       refine Vr<|Xu Z Z Z ?_; rintro b1 w1 H1 E1 B1; have := B1.lt; refine Uj Z<|Ya Z<|Vp<|Vr<|Yl Jn Jo Z<|Qx Jp B1 Z<|Vs Z (Xh (a := .string _) Gn Z) (k0 _) ?_; rintro _ w2 ⟨u1, rfl, E2, O1⟩; have := E2.Z; refine Ut Z<|Ra u1 Z<|Uz Z<|Uc u1 Z<|Ya Z<|Vp<|Vt<|Yb<|Vr<|Yl Jn Ji Z<|Xx Jk (B1.J E2) Z<|Yo Z<|Ui Z fun h1 => ?_; refine Vq Z<|Vq Z<|Vq Z<|Xb Z<|Xp Z<|Vq Z<|Vq Z<|Vq Z<|Xb Z<|Ya Z<|Vp<|Vx Z ?_; refine Vr<|Yl Jn Ji Z<|Xx Jk (B1.J E2) Z<|Yo Z<|Ui Z fun h2 => ?_
       refine Vq Z<|Xb Z<|Xp Z<|Vq Z<|Vq Z<|Vq Z<|Xb Z<|Ya Z<|Vp<|Vx Z ?_; refine Vr<|Yl Jn Ji Z<|Xx Jk (B1.J E2) Z<|Yo Z<|Xi Z (fun h3 => ?_) (fun h3 => ?_); refine Xp Z<|Xy Z<|Xp Z<|Vq Z<|Vq Z<|Vq Z<|Xb Z<|Ya Z<|Vp<|Vx Z ?_; refine Vt<|Qe mixed Ki Z ?_; refine Qu Jn Ji Z<|Uq (v := .int _ _) Z (fun w' hw' => Xd Jk Z (((B1.J E2).J hw').cell Z)) ?_; refine St Z<|Rh Z (fun h4 => ?_) (fun h4 => ?_); exact Ks
       refine Yd Z<|Yd Z<|Yd Z<|Sl Z<|Tb Z<|Yd Z<|Yd Z<|Yd Z<|Yd Z<|Yd Z<|Yd Z<|Sl Z<|Tb Z<|Yd Z<|Yd Z<|Yd Z<|Yd Z<|Yd Z<|Yd Z<|Yd Z<|Yd Z<|Sl Z<|Nx Z<|Ux (fun w3 E3 => ?_); have := E3.Z; refine Vx Z ?_; refine Vw<|Vr<|Un (XSl 3 XInt) Z Sk Jw ?_; rintro b2 w4 H2 b2lt E4 O2; refine Uj Z<|Ya Z<|Vp<|Vy ?_; refine Yh (v := .tuple #[.slice _ _ _, .bool _]) Z ?_; exact ⟨_, rfl, exq, O2.toB.o.mono Kh⟩; exact Ks
   | some q =>
     rw [hr] at hm hB hQ
     rw [hB, hQ, show (some q).isSome = true from rfl, show (some q).getD [] = q from rfl] at k0
     have hq := (Tn hr).1
     have hNq : Nod q (0 : Nat) := ⟨hq, Kj, by have := hq.1; omega⟩
     have k1 : ∀ (w : World) (v u : Value), ESl Ints w v p → ESl Ints w u q → Dz 143 [v, .int .i64 0, u, .int .i64 0] w (RetOB w XR (og (wosV p 0 q 0)) (wosV p 0 q 0).isSome) := fun w v u h1 h2 => WithoutSet_ok w v u p q h1 h2 0 0 hN hNq
     rw [hm, show ((some q).bind fun q => wosV p 0 q 0) = wosV p 0 q 0 from rfl]
     focus
       refine Vr<|Xu Z Z Z ?_; rintro b1 w1 H1 E1 B1; have := B1.lt; refine Uj Z<|Ya Z<|Vp<|Vr<|Yl Jn Jo Z<|Qx Jp B1 Z<|Vs Z (Xh (a := .string _) Gn Z) (k0 _) ?_; rintro _ w2 ⟨u1, rfl, E2, O1⟩; have := E2.Z; refine Ut Z<|Ra u1 Z<|Uz Z<|Uc u1 Z<|Ya Z<|Vp<|Vt<|Yb<|Vr<|Yl Jn Ji Z<|Xx Jk (B1.J E2) Z<|Yo Z<|Ui Z fun h1 => ?_; refine Vq Z<|Vq Z<|Vq Z<|Xb Z<|Xp Z<|Vq Z<|Vq Z<|Vq Z<|Xb Z<|Ya Z<|Vp<|Vx Z ?_; refine Vr<|Yl Jn Ji Z<|Xx Jk (B1.J E2) Z<|Yo Z<|Ui Z fun h2 => ?_
       refine Vq Z<|Xb Z<|Xp Z<|Vq Z<|Vq Z<|Vq Z<|Xb Z<|Ya Z<|Vp<|Vx Z ?_; refine Vr<|Yl Jn Ji Z<|Xx Jk (B1.J E2) Z<|Yo Z<|Xi Z (fun h3 => ?_) (fun h3 => ?_); refine Xp Z<|Xy Z<|Xp Z<|Yl Jn Ji Z<|Xx Jk (B1.J E2) Z<|Yo Z<|Xy Z<|Ya Z<|Vp<|Vu Z (fun h4 => ?_) (fun h4 => ?_); refine Vt<|Ym<|Yj v Z<|Yj u1 Z<|Vs Z (Ss (a := v) (b := .int _ _) (c := u1) (d := .int _ _) Tryz.call143 Z Z Z Z) (k1 _ _ _ (Ku exq h) (Kv O1)) ?_; rintro _ w3 ⟨u2, rfl, E3, O2⟩; refine Ra u2 Z<|Uz Z<|Uc u2 Z<|Ya Z<|Vp<|Vy ?_; refine Yh (v := .tuple #[u2, .bool _]) Z ?_
       exact ⟨_, rfl, exq, O2.toB.o.mono Kh⟩; exact Ks; exact Ks
  ·have hm:M=none:=hM.trans (by simp only [madeV];rw [if_neg (fun h=>absurd h.1 Kj),if_neg (fun h=>absurd h.1 Kj),if_neg (fun h=>en h.2),if_neg (fun h=>absurd h.1 Kj)])
   rw [hm,show og none=[] from rfl,show (none:Option (List (List Int))).isSome=false from rfl]
   cases B
   ·focus
     refine Vr<|Xu Z Z Z ?_;rintro b1 w1 H1 E1 B1;have:=B1.lt;refine Uj Z<|Ya Z<|Vp<|Vr<|Yl Jn Jo Z<|Qx Jp B1 Z<|Vs Z (Xh (a:=.string _) Gn Z) (k0 _) ?_;rintro _ w2 ⟨u1,rfl,E2,O1⟩;have:=E2.Z;refine Ut Z<|Ra u1 Z<|Uz Z<|Uc u1 Z<|Ya Z<|Vp<|Vt<|Yb<|Vr<|Yl Jn Ji Z<|Xx Jk (B1.J E2) Z<|Yo Z<|Ui Z fun h1=>?_;refine Vq Z<|Vq Z<|Vq Z<|Xb Z<|Xp Z<|Vq Z<|Vq Z<|Vq Z<|Xb Z<|Ya Z<|Vp<|Vx Z ?_;refine Vr<|Yl Jn Ji Z<|Xx Jk (B1.J E2) Z<|Yo Z<|Ui Z fun h2=>?_
     refine Vq Z<|Xb Z<|Xp Z<|Vq Z<|Vq Z<|Vq Z<|Xb Z<|Ya Z<|Vp<|Vx Z ?_;refine Vr<|Yl Jn Ji Z<|Xx Jk (B1.J E2) Z<|Yo Z<|Xi Z (fun h3=>?_) (fun h3=>?_);refine Xp Z<|Xy Z<|Xp Z<|Vq Z<|Vq Z<|Vq Z<|Xb Z<|Ya Z<|Vp<|Vx Z ?_;refine Vt<|Qe mixed Ki Z ?_;refine Qu Jn Ji Z<|Uq (v:=.int _ _) Z (fun w' hw'=>Xd Jk Z (((B1.J E2).J hw').cell Z)) ?_;refine St Z<|Rh Z (fun h4=>?_) (fun h4=>?_);exact Ks
     refine Yd Z<|Yd Z<|Yd Z<|Sl Z<|Tb Z<|Yd Z<|Yd Z<|Yd Z<|Yd Z<|Yd Z<|Yd Z<|Sl Z<|Tb Z<|Yd Z<|Yd Z<|Yd Z<|Yd Z<|Yd Z<|Yd Z<|Yd Z<|Yd Z<|Sl Z<|Nx Z<|Ux (fun w3 E3=>?_);have:=E3.Z;refine Vx Z ?_;refine Vw<|Vr<|Un (XSl 3 XInt) Z Sk Jw ?_;rintro b2 w4 H2 b2lt E4 O2;refine Uj Z<|Ya Z<|Vp<|Vy ?_;refine Yh (v:=.tuple #[.slice _ _ _,.bool _]) Z ?_;exact ⟨_,rfl,exq,O2.toB.o.mono Kh⟩;exact Ks
   ·focus
     refine Vr<|Xu Z Z Z ?_;rintro b1 w1 H1 E1 B1;have:=B1.lt;refine Uj Z<|Ya Z<|Vp<|Vr<|Yl Jn Jo Z<|Qx Jp B1 Z<|Vs Z (Xh (a:=.string _) Gn Z) (k0 _) ?_;rintro _ w2 ⟨u1,rfl,E2,O1⟩;have:=E2.Z;refine Ut Z<|Ra u1 Z<|Uz Z<|Uc u1 Z<|Ya Z<|Vp<|Vt<|Yb<|Vr<|Yl Jn Ji Z<|Xx Jk (B1.J E2) Z<|Yo Z<|Ui Z fun h1=>?_;refine Vq Z<|Vq Z<|Vq Z<|Xb Z<|Xp Z<|Vq Z<|Vq Z<|Vq Z<|Xb Z<|Ya Z<|Vp<|Vx Z ?_;refine Vr<|Yl Jn Ji Z<|Xx Jk (B1.J E2) Z<|Yo Z<|Ui Z fun h2=>?_
     refine Vq Z<|Xb Z<|Xp Z<|Vq Z<|Vq Z<|Vq Z<|Xb Z<|Ya Z<|Vp<|Vx Z ?_;refine Vr<|Yl Jn Ji Z<|Xx Jk (B1.J E2) Z<|Yo Z<|Xi Z (fun h3=>?_) (fun h3=>?_);refine Xp Z<|Xy Z<|Xp Z<|Yl Jn Ji Z<|Xx Jk (B1.J E2) Z<|Yo Z<|Xy Z<|Ya Z<|Vp<|Yt Z fun h4=>?_;refine Vt<|Qe mixed Ki Z ?_;refine Qu Jn Ji Z<|Uq (v:=.int _ _) Z (fun w' hw'=>Xd Jk Z (((B1.J E2).J hw').cell Z)) ?_;refine St Z<|Rh Z (fun h5=>?_) (fun h5=>?_);exact Ks
     refine Yd Z<|Yd Z<|Yd Z<|Sl Z<|Tb Z<|Yd Z<|Yd Z<|Yd Z<|Yd Z<|Yd Z<|Yd Z<|Sl Z<|Tb Z<|Yd Z<|Yd Z<|Yd Z<|Yd Z<|Yd Z<|Yd Z<|Yd Z<|Yd Z<|Sl Z<|Nx Z<|Ux (fun w3 E3=>?_);have:=E3.Z;refine Vx Z ?_;refine Vw<|Vr<|Un (XSl 3 XInt) Z Sk Jw ?_;rintro b2 w4 H2 b2lt E4 O2;refine Uj Z<|Ya Z<|Vp<|Vy ?_;refine Yh (v:=.tuple #[.slice _ _ _,.bool _]) Z ?_;exact ⟨_,rfl,exq,O2.toB.o.mono Kh⟩;exact Ks
 by_cases e3:k=3
 ·subst e3
  by_cases et:t=[]
  ·subst et
   by_cases en:0≤n∧n≤(p.length:Int) - 1
   ·have k2 : ∀ w,Dz 116 [.int .i64 n,.int .i64 0,.int .i64 ((p.length:Int) - 1)] w (Ret w (.bool true)):=fun w=>by
     have:=Rn n 0 ((p.length:Int) - 1) w;rwa [decide_eq_true en] at this
    have hrow:p[0].length=p.length:=hp.row I1
    obtain ⟨i,rfl⟩ : ∃ i:Nat,n=i:=⟨n.toNat,Kh⟩
    have hbit:bit p 0 i=p[0][i]:=by unfold bit;rw [Xl I1,Xl (show i < p[0].length by omega)]
    by_cases eb:p[0][i]=1
    ·have hm:M=some (lst p i):=hM.trans (by simp only [madeV];rw [if_neg (fun h=>absurd h.1 Kj),if_neg (fun h=>absurd h.1 Kj),if_neg (fun h=>absurd h.1 Kj),if_pos ⟨trivial,trivial,Kh,Kh,by rw [Int.toNat_natCast,hbit,eb]⟩,Int.toNat_natCast])
     have hNi:Nod p (i:Int):=⟨hp,Kh,Kh⟩
     have k3 : ∀ (w:World) (v:Value),ESl Ints w v p→Dz 126 [v,.int .i64 (i:Int)] w (RetO w XR (lst p i)):=fun w v h=>by
      have:=Tg w v p h (i:Int);rw [if_pos hNi] at this;exact this
     rw [hm,show og (some (lst p i))=lst p i from rfl,show (some (lst p i)).isSome=true from rfl]
     focus
      refine Vr<|Xu Z Z Z ?_;rintro b1 w1 H1 E1 B1;have:=B1.lt;refine Uj Z<|Ya Z<|Vp<|Vr<|Yl Jn Jo Z<|Qx Jp B1 Z<|Vs Z (Xh (a:=.string _) Gn Z) (k0 _) ?_;rintro _ w2 ⟨u1,rfl,E2,O1⟩;have:=E2.Z;refine Ut Z<|Ra u1 Z<|Uz Z<|Uc u1 Z<|Ya Z<|Vp<|Vt<|Yb<|Vr<|Yl Jn Ji Z<|Xx Jk (B1.J E2) Z<|Yo Z<|Ui Z fun h1=>?_;refine Vq Z<|Vq Z<|Vq Z<|Xb Z<|Xp Z<|Vq Z<|Vq Z<|Vq Z<|Xb Z<|Ya Z<|Vp<|Vx Z ?_;refine Vr<|Yl Jn Ji Z<|Xx Jk (B1.J E2) Z<|Yo Z<|Ui Z fun h2=>?_
      refine Vq Z<|Xb Z<|Xp Z<|Vq Z<|Vq Z<|Vq Z<|Xb Z<|Ya Z<|Vp<|Vx Z ?_;refine Vr<|Yl Jn Ji Z<|Xx Jk (B1.J E2) Z<|Yo Z<|Ui Z fun h3=>?_;refine Vq Z<|Xb Z<|Xp Z<|Vq Z<|Vq Z<|Vq Z<|Xb Z<|Ya Z<|Vp<|Vx Z ?_;refine Vt<|Qe mixed Ki Z ?_;refine Qu Jn Ji Z<|Uq (v:=.int _ _) Z (fun w' hw'=>Xd Jk Z (((B1.J E2).J hw').cell Z)) ?_;refine St Z<|Rh Z (fun h4=>?_) (fun h4=>?_);refine Qu Jn Jo Z<|Uq (v:=.string _) Z (fun w' hw'=>Xd Jp Z (((B1.J E2).J hw').cell Z)) ?_
      refine Uq Z (fun _ _=>Yi Z Z) ?_;refine Md Z<|Rh Z (fun h5=>?_) (fun h5=>?_);refine Qu Jn Ji Z<|Uq (v:=.int _ _) Z (fun w' hw'=>Xd Jk Z (((B1.J E2).J hw').cell Z)) ?_;refine Sb v Z<|Uq Z (fun _ _=>Rw Jm Z h) ?_;refine Uq Z (fun _ _=>Ll Z Z Kh) ?_;refine Rb Z (fun _ _=>Qq (a:=.int _ _) (b:=.int _ _) (c:=.int _ _) Gl Z Z Z) (fun w' hw'=>(k2 _)) ?_;refine Md Z<|Tb Z<|Sb v Z<|Qf (k:=0) Jm Jw Jz Z (fun _=>Z) Z h exq Z Km ?_;rintro _ u2 C1;refine Qu Jn Ji Z<|Uq (v:=.int _ _) Z (fun w' hw'=>Xd Jk Z (((B1.J E2).J hw').cell Z)) ?_
      refine Qf Jl Ji Jk Z (fun _=>Z) Z C1 exq Z Km ?_;rintro _ _ rfl;refine St Z<|Md Z<|Nx Z<|Ux (fun w3 E3=>?_);have:=E3.Z;refine Vu Z (fun h6=>?_) (fun h6=>?_);refine Vr<|Yj v Z<|Yl Jn Ji Z<|Xx Jk (B1.J exq) Z<|Vs Z (Xa (a:=v) (b:=.int _ _) Zj Z Z) (k3 _ _ (Ku exq h)) ?_;rintro u3 w4 ⟨E4,O2⟩;refine Uc u3 Z<|Ya Z<|Vp<|Vy ?_;refine Yh (v:=.tuple #[u3,.bool _]) Z ?_;exact ⟨_,rfl,exq,O2.toB.o.mono Kh⟩;exact Ks;exact Ks;exact Ks
    ·have hm:M=none:=hM.trans (by simp only [madeV];rw [if_neg (fun h=>absurd h.1 Kj),if_neg (fun h=>absurd h.1 Kj),if_neg (fun h=>absurd h.1 Kj),if_neg (fun h=>eb (by have:=h.2.2.2.2;rwa [Int.toNat_natCast,hbit] at this))])
     rw [hm,show og none=[] from rfl,show (none:Option (List (List Int))).isSome=false from rfl]
     focus
      refine Vr<|Xu Z Z Z ?_;rintro b1 w1 H1 E1 B1;have:=B1.lt;refine Uj Z<|Ya Z<|Vp<|Vr<|Yl Jn Jo Z<|Qx Jp B1 Z<|Vs Z (Xh (a:=.string _) Gn Z) (k0 _) ?_;rintro _ w2 ⟨u1,rfl,E2,O1⟩;have:=E2.Z;refine Ut Z<|Ra u1 Z<|Uz Z<|Uc u1 Z<|Ya Z<|Vp<|Vt<|Yb<|Vr<|Yl Jn Ji Z<|Xx Jk (B1.J E2) Z<|Yo Z<|Ui Z fun h1=>?_;refine Vq Z<|Vq Z<|Vq Z<|Xb Z<|Xp Z<|Vq Z<|Vq Z<|Vq Z<|Xb Z<|Ya Z<|Vp<|Vx Z ?_;refine Vr<|Yl Jn Ji Z<|Xx Jk (B1.J E2) Z<|Yo Z<|Ui Z fun h2=>?_
      refine Vq Z<|Xb Z<|Xp Z<|Vq Z<|Vq Z<|Vq Z<|Xb Z<|Ya Z<|Vp<|Vx Z ?_;refine Vr<|Yl Jn Ji Z<|Xx Jk (B1.J E2) Z<|Yo Z<|Ui Z fun h3=>?_;refine Vq Z<|Xb Z<|Xp Z<|Vq Z<|Vq Z<|Vq Z<|Xb Z<|Ya Z<|Vp<|Vx Z ?_;refine Vt<|Qe mixed Ki Z ?_;refine Qu Jn Ji Z<|Uq (v:=.int _ _) Z (fun w' hw'=>Xd Jk Z (((B1.J E2).J hw').cell Z)) ?_;refine St Z<|Rh Z (fun h4=>?_) (fun h4=>?_);refine Qu Jn Jo Z<|Uq (v:=.string _) Z (fun w' hw'=>Xd Jp Z (((B1.J E2).J hw').cell Z)) ?_
      refine Uq Z (fun _ _=>Yi Z Z) ?_;refine Md Z<|Rh Z (fun h5=>?_) (fun h5=>?_);refine Qu Jn Ji Z<|Uq (v:=.int _ _) Z (fun w' hw'=>Xd Jk Z (((B1.J E2).J hw').cell Z)) ?_;refine Sb v Z<|Uq Z (fun _ _=>Rw Jm Z h) ?_;refine Uq Z (fun _ _=>Ll Z Z Kh) ?_;refine Rb Z (fun _ _=>Qq (a:=.int _ _) (b:=.int _ _) (c:=.int _ _) Gl Z Z Z) (fun w' hw'=>(k2 _)) ?_;refine Md Z<|Tb Z<|Sb v Z<|Qf (k:=0) Jm Jw Jz Z (fun _=>Z) Z h exq Z Km ?_;rintro _ u2 C1;refine Qu Jn Ji Z<|Uq (v:=.int _ _) Z (fun w' hw'=>Xd Jk Z (((B1.J E2).J hw').cell Z)) ?_
      refine Qf Jl Ji Jk Z (fun _=>Z) Z C1 exq Z Km ?_;rintro _ _ rfl;refine St Z<|Md Z<|Nx Z<|Ux (fun w3 E3=>?_);have:=E3.Z;refine Yt Z fun h6=>?_;refine Vw<|Vr<|Un (XSl 3 XInt) Z Sk Jw ?_;rintro b2 w4 H2 b2lt E4 O2;refine Uj Z<|Ya Z<|Vp<|Vy ?_;refine Yh (v:=.tuple #[.slice _ _ _,.bool _]) Z ?_;exact ⟨_,rfl,exq,O2.toB.o.mono Kh⟩;exact Ks;exact Ks
   ·have k2 : ∀ w,Dz 116 [.int .i64 n,.int .i64 0,.int .i64 ((p.length:Int) - 1)] w (Ret w (.bool false)):=fun w=>by
     have:=Rn n 0 ((p.length:Int) - 1) w;rwa [decide_eq_false en] at this
    have hm:M=none:=hM.trans (by simp only [madeV];rw [if_neg (fun h=>absurd h.1 Kj),if_neg (fun h=>absurd h.1 Kj),if_neg (fun h=>absurd h.1 Kj),if_neg (fun h=>en ⟨h.2.2.1,by have:=h.2.2.2.1;omega⟩)])
    rw [hm,show og none=[] from rfl,show (none:Option (List (List Int))).isSome=false from rfl]
    focus
     refine Vr<|Xu Z Z Z ?_;rintro b1 w1 H1 E1 B1;have:=B1.lt;refine Uj Z<|Ya Z<|Vp<|Vr<|Yl Jn Jo Z<|Qx Jp B1 Z<|Vs Z (Xh (a:=.string _) Gn Z) (k0 _) ?_;rintro _ w2 ⟨u1,rfl,E2,O1⟩;have:=E2.Z;refine Ut Z<|Ra u1 Z<|Uz Z<|Uc u1 Z<|Ya Z<|Vp<|Vt<|Yb<|Vr<|Yl Jn Ji Z<|Xx Jk (B1.J E2) Z<|Yo Z<|Ui Z fun h1=>?_;refine Vq Z<|Vq Z<|Vq Z<|Xb Z<|Xp Z<|Vq Z<|Vq Z<|Vq Z<|Xb Z<|Ya Z<|Vp<|Vx Z ?_;refine Vr<|Yl Jn Ji Z<|Xx Jk (B1.J E2) Z<|Yo Z<|Ui Z fun h2=>?_
     refine Vq Z<|Xb Z<|Xp Z<|Vq Z<|Vq Z<|Vq Z<|Xb Z<|Ya Z<|Vp<|Vx Z ?_;refine Vr<|Yl Jn Ji Z<|Xx Jk (B1.J E2) Z<|Yo Z<|Ui Z fun h3=>?_;refine Vq Z<|Xb Z<|Xp Z<|Vq Z<|Vq Z<|Vq Z<|Xb Z<|Ya Z<|Vp<|Vx Z ?_;refine Vt<|Qe mixed Ki Z ?_;refine Qu Jn Ji Z<|Uq (v:=.int _ _) Z (fun w' hw'=>Xd Jk Z (((B1.J E2).J hw').cell Z)) ?_;refine St Z<|Rh Z (fun h4=>?_) (fun h4=>?_);refine Qu Jn Jo Z<|Uq (v:=.string _) Z (fun w' hw'=>Xd Jp Z (((B1.J E2).J hw').cell Z)) ?_
     refine Uq Z (fun _ _=>Yi Z Z) ?_;refine Md Z<|Rh Z (fun h5=>?_) (fun h5=>?_);refine Qu Jn Ji Z<|Uq (v:=.int _ _) Z (fun w' hw'=>Xd Jk Z (((B1.J E2).J hw').cell Z)) ?_;refine Sb v Z<|Uq Z (fun _ _=>Rw Jm Z h) ?_;refine Uq Z (fun _ _=>Ll Z Z Kh) ?_;refine Rb Z (fun _ _=>Qq (a:=.int _ _) (b:=.int _ _) (c:=.int _ _) Gl Z Z Z) (fun w' hw'=>(k2 _)) ?_;refine Md Z<|Tb Z<|Yd Z<|Yd Z<|Yd Z<|Yd Z<|Yd Z<|Yd Z<|Yd Z<|Yd Z<|Sl Z<|Nx Z<|Ux (fun w3 E3=>?_);have:=E3.Z;refine Vx Z ?_;refine Vw<|Vr<|Un (XSl 3 XInt) Z Sk Jw ?_;rintro b2 w4 H2 b2lt E4 O2
     refine Uj Z<|Ya Z<|Vp<|Vy ?_;refine Yh (v:=.tuple #[.slice _ _ _,.bool _]) Z ?_;exact ⟨_,rfl,exq,O2.toB.o.mono Kh⟩;exact Ks;exact Ks
  ·have hm:M=none:=hM.trans (by simp only [madeV];rw [if_neg (fun h=>absurd h.1 Kj),if_neg (fun h=>absurd h.1 Kj),if_neg (fun h=>absurd h.1 Kj),if_neg (fun h=>et h.2.1)])
   rw [hm,show og none=[] from rfl,show (none:Option (List (List Int))).isSome=false from rfl]
   focus
    refine Vr<|Xu Z Z Z ?_;rintro b1 w1 H1 E1 B1;have:=B1.lt;refine Uj Z<|Ya Z<|Vp<|Vr<|Yl Jn Jo Z<|Qx Jp B1 Z<|Vs Z (Xh (a:=.string _) Gn Z) (k0 _) ?_;rintro _ w2 ⟨u1,rfl,E2,O1⟩;have:=E2.Z;refine Ut Z<|Ra u1 Z<|Uz Z<|Uc u1 Z<|Ya Z<|Vp<|Vt<|Yb<|Vr<|Yl Jn Ji Z<|Xx Jk (B1.J E2) Z<|Yo Z<|Ui Z fun h1=>?_;refine Vq Z<|Vq Z<|Vq Z<|Xb Z<|Xp Z<|Vq Z<|Vq Z<|Vq Z<|Xb Z<|Ya Z<|Vp<|Vx Z ?_;refine Vr<|Yl Jn Ji Z<|Xx Jk (B1.J E2) Z<|Yo Z<|Ui Z fun h2=>?_
    refine Vq Z<|Xb Z<|Xp Z<|Vq Z<|Vq Z<|Vq Z<|Xb Z<|Ya Z<|Vp<|Vx Z ?_;refine Vr<|Yl Jn Ji Z<|Xx Jk (B1.J E2) Z<|Yo Z<|Ui Z fun h3=>?_;refine Vq Z<|Xb Z<|Xp Z<|Vq Z<|Vq Z<|Vq Z<|Xb Z<|Ya Z<|Vp<|Vx Z ?_;refine Vt<|Qe mixed Ki Z ?_;refine Qu Jn Ji Z<|Uq (v:=.int _ _) Z (fun w' hw'=>Xd Jk Z (((B1.J E2).J hw').cell Z)) ?_;refine St Z<|Rh Z (fun h4=>?_) (fun h4=>?_);refine Qu Jn Jo Z<|Uq (v:=.string _) Z (fun w' hw'=>Xd Jp Z (((B1.J E2).J hw').cell Z)) ?_
    refine Uq Z (fun _ _=>Yi Z Z) ?_;refine Md Z<|Rh Z (fun h5=>?_) (fun h5=>?_);exact Ks;refine Yd Z<|Yd Z<|Yd Z<|Yd Z<|Yd Z<|Yd Z<|Sl Z<|Tb Z<|Yd Z<|Yd Z<|Yd Z<|Yd Z<|Yd Z<|Yd Z<|Yd Z<|Yd Z<|Sl Z<|Nx Z<|Ux (fun w3 E3=>?_);have:=E3.Z;refine Vx Z ?_;refine Vw<|Vr<|Un (XSl 3 XInt) Z Sk Jw ?_;rintro b2 w4 H2 b2lt E4 O2;refine Uj Z<|Ya Z<|Vp<|Vy ?_;refine Yh (v:=.tuple #[.slice _ _ _,.bool _]) Z ?_;exact ⟨_,rfl,exq,O2.toB.o.mono Kh⟩;exact Ks
 have hm:M=none:=hM.trans (by simp only [madeV];rw [if_neg (fun h=>e0 h.1),if_neg (fun h=>e1 h.1),if_neg (fun h=>e2 h.1),if_neg (fun h=>e3 h.1)])
 rw [hm,show og none=[] from rfl,show (none:Option (List (List Int))).isSome=false from rfl]
 focus
  refine Vr<|Xu Z Z Z ?_;rintro b1 w1 H1 E1 B1;have:=B1.lt;refine Uj Z<|Ya Z<|Vp<|Vr<|Yl Jn Jo Z<|Qx Jp B1 Z<|Vs Z (Xh (a:=.string _) Gn Z) (k0 _) ?_;rintro _ w2 ⟨u1,rfl,E2,O1⟩;have:=E2.Z;refine Ut Z<|Ra u1 Z<|Uz Z<|Uc u1 Z<|Ya Z<|Vp<|Vt<|Yb<|Vr<|Yl Jn Ji Z<|Xx Jk (B1.J E2) Z<|Yo Z<|Ui Z fun h1=>?_;refine Vq Z<|Vq Z<|Vq Z<|Xb Z<|Xp Z<|Vq Z<|Vq Z<|Vq Z<|Xb Z<|Ya Z<|Vp<|Vx Z ?_;refine Vr<|Yl Jn Ji Z<|Xx Jk (B1.J E2) Z<|Yo Z<|Ui Z fun h2=>?_
  refine Vq Z<|Xb Z<|Xp Z<|Vq Z<|Vq Z<|Vq Z<|Xb Z<|Ya Z<|Vp<|Vx Z ?_;refine Vr<|Yl Jn Ji Z<|Xx Jk (B1.J E2) Z<|Yo Z<|Ui Z fun h3=>?_;refine Vq Z<|Xb Z<|Xp Z<|Vq Z<|Vq Z<|Vq Z<|Xb Z<|Ya Z<|Vp<|Vx Z ?_;refine Vt<|Qe mixed Ki Z ?_;refine Qu Jn Ji Z<|Uq (v:=.int _ _) Z (fun w' hw'=>Xd Jk Z (((B1.J E2).J hw').cell Z)) ?_;refine St Z<|Rh Z (fun h4=>?_) (fun h4=>?_);exact Ks
  refine Yd Z<|Yd Z<|Yd Z<|Sl Z<|Tb Z<|Yd Z<|Yd Z<|Yd Z<|Yd Z<|Yd Z<|Yd Z<|Sl Z<|Tb Z<|Yd Z<|Yd Z<|Yd Z<|Yd Z<|Yd Z<|Yd Z<|Yd Z<|Yd Z<|Sl Z<|Nx Z<|Ux (fun w3 E3=>?_);have:=E3.Z;refine Vx Z ?_;refine Vw<|Vr<|Un (XSl 3 XInt) Z Sk Jw ?_;rintro b2 w4 H2 b2lt E4 O2;refine Uj Z<|Ya Z<|Vp<|Vy ?_;refine Yh (v:=.tuple #[.slice _ _ _,.bool _]) Z ?_;exact ⟨_,rfl,exq,O2.toB.o.mono Kh⟩
open Classical in
theorem spec_DeskDo_ok (w:World) (u1 u2:Value) (d:Dsk) (h1:ESl Ints w u1 d.now) (h2:ESl (ESl Ints) w u2 d.past) (k n:Int) (t:List UInt8) (ht:t.length≤1048576) :
  Dz 37 [.agg #[u1,u2],.agg #[.int .i64 k,str t,.int .i64 n]] w (RetDkAB w (if DkOk d then (doV d ⟨k,t,n⟩).1.now else []) (if DkOk d then (doV d ⟨k,t,n⟩).1.past else []) (decide (DkOk d) && (doV d ⟨k,t,n⟩).2)):=by
 obtain ⟨p,pp⟩:=d
 have hle:=h2.le
 have i1:isCell u1=true:=Qy h1
 have i2:isCell u2=true:=Qy h2
 simp only at h1 h2 hle
 refine Tj Tryz.func37 Z Tryz.results37 Tryz.ntmps37 Z Jq Jj ?_
 by_cases hd:DkOk ⟨p,pp⟩
 ·have k0 : ∀ w,ESl Ints w u1 p→ESl (ESl Ints) w u2 pp→Dz 16 [.agg #[u1,u2]] w (Ret w (.bool true)):=fun w h1 h2=>by
   have:=Sa w u1 u2 ⟨p,pp⟩ h1 h2;rwa [decide_eq_true hd] at this
  have hpp:Pic p:=hd.1.1
  have hppl:pp.length≤8:=hd.2.1
  have H1:p.length≤100∧∀ r ∈ p,r.length≤100:=⟨by have:=hpp.2.1;omega,fun r hr=>by rw [(hpp.2.2 r hr).1];have:=hpp.2.1;omega⟩
  have H2 : ∀ q ∈ pp,q.length≤100∧∀ r ∈ q,r.length≤100:=fun q hq=>by
   have hq:=(hd.2.2 q hq).1
   exact ⟨by have:=hq.2.1;omega,fun r hr=>by rw [(hq.2.2 r hr).1];have:=hq.2.1;omega⟩
  have k1 : ∀ w,ESl Ints w u1 p→ESl (ESl Ints) w u2 pp→Dz 60 [.agg #[u1,u2]] w (RetDk w 23 88 3 p pp):=fun w h1 h2=>l11Copy_ok w u1 u2 p pp h1 h2 H1 Kh H2
  rw [if_pos hd,if_pos hd,decide_eq_true hd,Bool.true_and]
  by_cases hb:isBack ⟨p,pp⟩ ⟨k,t,n⟩
  ·obtain ⟨e,hne⟩:=hb
   cases e
   have hpl:0 < pp.length:=List.length_pos_iff.2 hne
   have hdo:doV ⟨p,pp⟩ ⟨4,[],0⟩=(⟨pp.getLastD [],pp.dropLast⟩,true):=by unfold doV;rw [if_pos ⟨rfl,hne⟩]
   rw [hdo]
   simp only
   have stop6:True:=trivial
   focus
    refine Vr<|Xu Z Z Z ?_;rintro b1 w1 H3 E1 B1;have:=B1.lt;have:=E1.Z;refine Xu Z Z Z ?_;rintro b2 w2 H4 E2 B2;have:=B2.lt;refine Xk Z Ug ?_;rintro b3 w3 H5 E3 B3;have:=B3.lt;refine Ya Z<|Vp<|Vt<|Vt<|Ym<|Uh Jq Jj (B1.J exq) Z<|Vs Z (Xh (a:=.agg _) Gv Z) (k0 _ (Ku exq h1) (Ku exq h2)) ?_;rintro _ w4 ⟨rfl,E4⟩;have:=E4.Z;refine Xz Z<|Vp<|Uk Z fun h3=>?_;refine Vw<|Vr<|Uh Jq Jj (B1.J exq) Z<|Vs Z (Xh (a:=.agg _) Zk Z) (k1 _ (Ku exq h1) (Ku exq h2)) ?_;rintro _ w5 ⟨u3,q1,m1,rfl,E5,O1,R1,J1,hn1⟩;have V3:=Kx O1;have N1:=Kx (Je R1);have cpq1:=OwnedB.capOk (Je R1)
    have:=E5.Z;refine Xk Z Ug ?_;rintro b4 w6 H6 E6 B4;refine Uu Z Jj Z Z Kl Kl B4 Kh (((((E1.K E2).K E3).K E4).K E5).K E6) ?_;rintro w7 E7 B4 K1 Z1;have E8:=((((E2.K E3).K E4).K E5).K E6).A exq E7 K1 Z1 Kh;have:=E8.Z;have E9:=(((E3.K E4).K E5).K E6).A exq E7 K1 Z1 Kh;have E10:=((E4.K E5).K E6).A exq E7 K1 Z1 Kh;have E11:=(E5.K E6).A exq E7 K1 Z1 Kh;have E12:=E6.A exq E7 K1 Z1 Kh;have B1:=(B1.J exq).Y (K1 _ Kh);have B2:=(B2.J exq).Y (K1 _ Kh);have B3:=(B3.J exq).Y (K1 _ Kh);have O1:=(O1.J E6).W K1 Kh;have R1:=(R1.toB.J E6).W K1 Kh
    refine Vp<|Vt<|Vr<|Rk Gb Js B2 Z<|Wo Z (Yu (ps:=[(0,.int _ _)]) (cs:=[_,_,_]) Xq Z Z)<|Wo Z (Tr Z Z)<|Xi Z (fun h4=>?_) (fun h4=>?_);refine Yl Jt Ga Z<|Xw u2 Gd B1 Z<|Ys Gc Z h2<|Qo Z<|Xy Z<|Vp<|Vu Z (fun h5=>?_) (fun h5=>?_);refine Vr<|Yl Jt Ga Z<|Xw q1 Gd B4 Z<|Ys Gc Z (Kw R1)<|Sc Z<|Yx Z<|Vp<|Vt ?_;rotate_left;exact Kt;exact Ks
   clear stop6
   obtain ⟨qb,qc,ur,rfl,hqc,hcl,hel,hqb,hqb2,icr⟩:=R1.elem (i:=pp.length - 1) Kh
   have hcl:w7.cell? ⟨qb,0+((pp.length:Int) - 1).toNat,none⟩=some ur:=by rw [Nat.zero_add,show ((pp.length:Int) - 1).toNat=pp.length - 1 by omega];exact hcl
   focus
    have:=E7.Z;refine Ym<|Yl Jt Ga Z<|Rg Gd B4 Z<|Vz Z<|Wo Z (Qr Gc Jx Z Z Kh) ?_;refine Wo Z (Xd Ju Z Kk) ?_;refine Yl Jt Jx Z<|Um (v:=ur) Z Jx Z Z (Kx hel) B4 Kp Kh E7 ?_;rintro w8 E13 B4 K2 Z2;have E14:=E8.A E7 E13 K2 Z2 Kh;have E15:=E9.A E7 E13 K2 Z2 Kh;simp only [List.set] at B4;have B3:=B3.Y (K2 _ Kh);have R1:=R1.W K2 Kh;have hel:=hel.W K2 Kh;refine Vp<|Vt<|Ym<|Yl Jt Ga Z<|Rg Gd B4 Z<|Vz Z<|Wo Z (So Gc Jx Z Z Kh) ?_
    refine Yl Jt Ga Z<|Um (v:=.slice _ _ _) Z Ga Z Z Z B4 Kp Kh E13 ?_;rintro w9 E19 B4 K3 Z3;simp only [List.set] at B4;have B3:=B3.Y (K3 _ Kh);have R1:=R1.W K3 Kh;have hel:=hel.W K3 Kh;refine Vp<|Vr<|Uh Jq Jj B4 Z<|Uw Jj B3 Z E19 ?_;rintro w10 E25 B3 K4 Z4;have R1:=R1.W K4 Kh;have hel:=hel.W K4 Kh;refine Ya Z<|Vp<|Vy ?_
   have hlast:pp.getLastD []=pp[pp.length - 1]:=by rw [List.getLastD_eq_getLast?,List.getLast?_eq_getElem?,List.getElem?_eq_getElem Kh];rfl
   rw [hlast,List.dropLast_eq_take]
   refine ⟨b3,ur,_,Z,B3,ur,_,Z,E25,hel.above.mono Kh,?_,icr,Z,Kh⟩
   rw [show ((pp.length:Int) - 1).toNat=pp.length - 1 by omega]
   exact (R1.above.mono Kh).takeS Kh
  ·have hdo:doV ⟨p,pp⟩ ⟨k,t,n⟩=match nextV p ⟨k,t,n⟩ with
    | some c=>(⟨c,last8 (pp++[p])⟩,true)
    | none=>(⟨p,pp⟩,false):=by unfold doV;rw [if_neg hb];rfl
   rw [hdo]
   have hback:(⟨k,t,n⟩:Deed)=⟨4,[],0⟩→pp.length=0:=fun e=>Classical.byContradiction fun h=>hb ⟨e,fun h'=>h (by rw [show pp=[] from h'];rfl)⟩
   have k2 : ∀ w,ESl Ints w u1 p→Dz 93 [u1,.agg #[.int .i64 k,str t,.int .i64 n]] w (RetOB w XR (og (madeV p ⟨k,t,n⟩)) (madeV p ⟨k,t,n⟩).isSome):=fun w h=>l11Made_ok w u1 p h hpp k n t ht
   have litown:True:=trivial
   by_cases ha:(⟨k,t,n⟩:Deed)=⟨4,[],0⟩
   ·have hpl0:=hback ha
    cases ha
    have hmv:madeV p ⟨4,[],0⟩=none:=by simp [madeV]
    have hnx:nextV p ⟨4,[],0⟩=none:=by unfold nextV;rw [hmv]
    rw [hmv,show og none=[] from rfl,show (none:Option (List (List Int))).isSome=false from rfl] at k2
    rw [hnx]
    simp only
    focus
     refine Vr<|Xu Z Z Z ?_;rintro b1 w1 H3 E1 B1;have:=B1.lt;refine Xu Z Z Z ?_;rintro b2 w2 H4 E2 B2;have:=B2.lt;refine Xk Z Ug ?_;rintro b3 w3 H5 E3 B3;have:=B3.lt;refine Ya Z<|Vp<|Vt<|Vt<|Ym<|Uh Jq Jj (B1.J exq) Z<|Vs Z (Xh (a:=.agg _) Gv Z) (k0 _ (Ku exq h1) (Ku exq h2)) ?_;rintro _ w4 ⟨rfl,E4⟩;have:=E4.Z;refine Xz Z<|Vp<|Uk Z fun h3=>?_;refine Vw<|Vr<|Uh Jq Jj (B1.J exq) Z<|Vs Z (Xh (a:=.agg _) Zk Z) (k1 _ (Ku exq h1) (Ku exq h2)) ?_;rintro _ w5 ⟨u3,q1,m1,rfl,E5,O1,R1,J1,hn1⟩;have V3:=Kx O1;have N1:=Kx (Je R1);have:=E5.Z;refine Xk Z Ug ?_
     rintro b4 w6 H6 E6 B4;refine Uu Z Jj Z Z Kl Kl B4 Kh (((((E1.K E2).K E3).K E4).K E5).K E6) ?_;rintro w7 E7 B4 K1 Z1;have E8:=((((E2.K E3).K E4).K E5).K E6).A exq E7 K1 Z1 Kh;have B1:=(B1.J exq).Y (K1 _ Kh);have B2:=(B2.J exq).Y (K1 _ Kh);have B3:=(B3.J exq).Y (K1 _ Kh);have O1:=(O1.J E6).W K1 Kh;have R1:=(R1.toB.J E6).W K1 Kh;refine Vp<|Vt<|Vr<|Rk Gb Js B2 Z<|Wo Z (Yu (ps:=[(0,.int _ _)]) (cs:=[_,_,_]) Xq Z Z)<|Wo Z (Tr Z Z)<|Xi Z (fun h4=>?_) (fun h4=>?_)
     refine Yl Jt Ga Z<|Xw u2 Gd B1 Z<|Ys Gc Z h2<|Qo Z<|Xy Z<|Vp<|Vv Z fun h5=>?_;refine Vw<|Vt<|Ym<|Yl Jt Jx Z<|Xw u1 Ju B1 Z<|Rk Gb Js B2 Z<|Vs Z (Xa (a:=u1) (b:=.agg _) Vb Z Z) (k2 _ (Ku E7 h1)) ?_;rintro _ w8 ⟨u4,rfl,E13,O2⟩;refine Ut Z<|Ra u4 Z<|Uz Z<|Uc u4 Z<|Ya Z<|Vp<|Vt<|Vt<|Qe mixed Ki Z ?_;refine Tb Z<|Mi Z<|Sp Z (fun _ _=>Xj (v:=.bool _) Z) (fun h6=>?_) (fun h6=>?_)
     refine Yd Z<|Yd Z<|Yd Z<|Yd Z<|Yd Z<|Yd Z<|Yd Z<|Yd Z<|Yd Z<|Yd Z<|Yd Z<|Yd Z<|Yd Z<|Yd Z<|Md Z<|Ux (fun w9 E14=>?_);refine Xe Z ?_;refine Vr<|Uh Jq Jj (B4.J exq) Z<|Uw Jj (B3.J (E13.K E14)) Z ((E7.K E13).K E14) ?_;rintro w10 E15 B3 K2 Z2;have E16:=((E8.K E13).K E14).A exq E15 K2 Z2 Kh;have:=E16.Z;have O1:=(O1.J exq).W K2 Kh;have R1:=(R1.J exq).W K2 Kh;refine Ya Z<|Vp<|Vy ?_;rotate_left;exact Ks;exact Ks
    exact ⟨b3,u3,q1,rfl,B3,u3,q1,rfl,by exact E15,O1.above.mono Kh,R1.above.mono Kh,V3,N1,Kh⟩
   ·cases hmv:madeV p ⟨k,t,n⟩ with
    | none =>
      have hnx : nextV p ⟨k, t, n⟩ = none := by unfold nextV; rw [hmv]
      rw [hmv, show og none = [] from rfl, show (none : Option (List (List Int))).isSome = false from rfl] at k2
      rw [hnx]
      simp only
      focus
        refine Vr<|Xu Z Z Z ?_; rintro b1 w1 H3 E1 B1; have := B1.lt; refine Xu Z Z Z ?_; rintro b2 w2 H4 E2 B2; have := B2.lt; refine Xk Z Ug ?_; rintro b3 w3 H5 E3 B3; have := B3.lt; refine Ya Z<|Vp<|Vt<|Vt<|Ym<|Uh Jq Jj (B1.J exq) Z<|Vs Z (Xh (a := .agg _) Gv Z) (k0 _ (Ku exq h1) (Ku exq h2)) ?_; rintro _ w4 ⟨rfl, E4⟩; have := E4.Z; refine Xz Z<|Vp<|Uk Z fun h3 => ?_; refine Vw<|Vr<|Uh Jq Jj (B1.J exq) Z<|Vs Z (Xh (a := .agg _) Zk Z) (k1 _ (Ku exq h1) (Ku exq h2)) ?_; rintro _ w5 ⟨u3, q1, m1, rfl, E5, O1, R1, J1, hn1⟩; have V3 := Kx O1; have N1 := Kx (Je R1); have := E5.Z; refine Xk Z Ug ?_
        rintro b4 w6 H6 E6 B4; refine Uu Z Jj Z Z Kl Kl B4 Kh (((((E1.K E2).K E3).K E4).K E5).K E6) ?_; rintro w7 E7 B4 K1 Z1; have E8 := ((((E2.K E3).K E4).K E5).K E6).A exq E7 K1 Z1 Kh; have B1 := (B1.J exq).Y (K1 _ Kh); have B2 := (B2.J exq).Y (K1 _ Kh); have B3 := (B3.J exq).Y (K1 _ Kh); have O1 := (O1.J E6).W K1 Kh; have R1 := (R1.toB.J E6).W K1 Kh; refine Vp<|Vt<|Vr<|Rk Gb Js B2 Z<|Wo Z (Yu (ps := [(0, .int _ _)]) (cs := [_, _, _]) Xq Z Z)<|Wo Z (Tr Z Z)<|Ui Z fun h4 => ?_; refine Vq Z<|Vq Z<|Vq Z<|Vq Z<|Xb Z<|Vp<|Vx Z ?_
        refine Vw<|Vt<|Ym<|Yl Jt Jx Z<|Xw u1 Ju B1 Z<|Rk Gb Js B2 Z<|Vs Z (Xa (a := u1) (b := .agg _) Vb Z Z) (k2 _ (Ku E7 h1)) ?_; rintro _ w8 ⟨u4, rfl, E13, O2⟩; refine Ut Z<|Ra u4 Z<|Uz Z<|Uc u4 Z<|Ya Z<|Vp<|Vt<|Vt<|Qe mixed Ki Z ?_; refine Tb Z<|Mi Z<|Sp Z (fun _ _ => Xj (v := .bool _) Z) (fun h5 => ?_) (fun h5 => ?_); refine Yd Z<|Yd Z<|Yd Z<|Yd Z<|Yd Z<|Yd Z<|Yd Z<|Yd Z<|Yd Z<|Yd Z<|Yd Z<|Yd Z<|Yd Z<|Yd Z<|Md Z<|Ux (fun w9 E14 => ?_); refine Xe Z ?_
        refine Vr<|Uh Jq Jj (B4.J exq) Z<|Uw Jj (B3.J (E13.K E14)) Z ((E7.K E13).K E14) ?_; rintro w10 E15 B3 K2 Z2; have E16 := ((E8.K E13).K E14).A exq E15 K2 Z2 Kh; have := E16.Z; have O1 := (O1.J exq).W K2 Kh; have R1 := (R1.J exq).W K2 Kh; refine Ya Z<|Vp<|Vy ?_; rotate_left; exact Ks
      exact ⟨b3, u3, q1, rfl, B3, u3, q1, rfl, by exact E15, O1.above.mono Kh, R1.above.mono Kh, V3, N1, Kh⟩
    | some c =>
      rw [hmv, show og (some c) = c from rfl, show (some c).isSome = true from rfl] at k2
      have hc : LeastP c := Ms hpp hmv
      have hcp := hc.1
      have k3 : ∀ (w : World) (v : Value), ESl Ints w v c → Dz 62 [v] w (Ret w (str (txt c))) := fun w v h => by
        have := Qk w v _ h
        rwa [if_pos hcp] at this
      by_cases hcq : c = p
      · subst hcq
        have hnx : nextV c ⟨k, t, n⟩ = none := by unfold nextV; rw [hmv]; simp
        rw [hnx]
        simp only
        focus
          refine Vr<|Xu Z Z Z ?_; rintro b1 w1 H3 E1 B1; have := B1.lt; refine Xu Z Z Z ?_; rintro b2 w2 H4 E2 B2; have := B2.lt; refine Xk Z Ug ?_; rintro b3 w3 H5 E3 B3; have := B3.lt; refine Ya Z<|Vp<|Vt<|Vt<|Ym<|Uh Jq Jj (B1.J exq) Z<|Vs Z (Xh (a := .agg _) Gv Z) (k0 _ (Ku exq h1) (Ku exq h2)) ?_; rintro _ w4 ⟨rfl, E4⟩; have := E4.Z; refine Xz Z<|Vp<|Uk Z fun h3 => ?_; refine Vw<|Vr<|Uh Jq Jj (B1.J exq) Z<|Vs Z (Xh (a := .agg _) Zk Z) (k1 _ (Ku exq h1) (Ku exq h2)) ?_; rintro _ w5 ⟨u3, q1, m1, rfl, E5, O1, R1, J1, hn1⟩; have V3 := Kx O1; have N1 := Kx (Je R1); have := E5.Z; refine Xk Z Ug ?_
          rintro b4 w6 H6 E6 B4; refine Uu Z Jj Z Z Kl Kl B4 Kh (((((E1.K E2).K E3).K E4).K E5).K E6) ?_; rintro w7 E7 B4 K1 Z1; have E8 := ((((E2.K E3).K E4).K E5).K E6).A exq E7 K1 Z1 Kh; have B1 := (B1.J exq).Y (K1 _ Kh); have B2 := (B2.J exq).Y (K1 _ Kh); have B3 := (B3.J exq).Y (K1 _ Kh); have O1 := (O1.J E6).W K1 Kh; have R1 := (R1.toB.J E6).W K1 Kh; refine Vp<|Vt<|Vr<|Rk Gb Js B2 Z<|Wo Z (Yu (ps := [(0, .int _ _)]) (cs := [_, _, _]) Xq Z Z)<|Wo Z (Tr Z Z)<|Ui Z fun h4 => ?_; refine Vq Z<|Vq Z<|Vq Z<|Vq Z<|Xb Z<|Vp<|Vx Z ?_
          refine Vw<|Vt<|Ym<|Yl Jt Jx Z<|Xw u1 Ju B1 Z<|Rk Gb Js B2 Z<|Vs Z (Xa (a := u1) (b := .agg _) Vb Z Z) (k2 _ (Ku E7 h1)) ?_; rintro _ w8 ⟨u4, rfl, E13, O2⟩; refine Ut Z<|Ra u4 Z<|Uz Z<|Uc u4 Z<|Ya Z<|Vp<|Vt<|Vt<|Qe mixed Ki Z ?_; refine Tb Z<|Mi Z<|Sp Z (fun _ _ => Xj (v := .bool _) Z) (fun h5 => ?_) (fun h5 => ?_); exact Ks; refine Sb u4 Z<|Uq Z (fun _ _ => Rw Jm Z (Kv O2)) ?_; refine Qu Jt Jx Z<|Uq (v := u1) Z (fun w' hw' => Xd Ju Z (((B1.J E13).J hw').cell Z)) ?_; refine Uq Z (fun _ _ => Rw Jm Z h1) ?_
          refine St Z<|Rh Z (fun h6 => ?_) (fun h6 => ?_); refine Sb u4 Z<|Rb Z (fun _ _ => Xh (a := u4) Gi Z) (fun w' hw' => (k3 _ _ ((Ku hw' (Kv O2))))) ?_; refine Qu Jt Jx Z<|Uq (v := u1) Z (fun w' hw' => Xd Ju Z (((B1.J E13).J hw').cell Z)) ?_; refine Rb Z (fun _ _ => Xh (a := u1) Gi Z) (fun w' hw' => (k3 _ _ (Ku exq h1))) ?_; refine Uq Z (fun _ _ => Yi Z Z) ?_; refine Md Z<|Sl Z<|Ux (fun w9 E14 => ?_); refine Vu Z (fun h7 => ?_) (fun h7 => ?_); refine Vr<|Uh Jq Jj (B4.J exq) Z<|Uw Jj (B3.J (E13.K E14)) Z ((E7.K E13).K E14) ?_; rintro w10 E15 B3 K2 Z2; have E16 := ((E8.K E13).K E14).A exq E15 K2 Z2 Kh; have := E16.Z
          have O1 := (O1.J exq).W K2 Kh; have R1 := (R1.J exq).W K2 Kh; refine Ya Z<|Vp<|Vy ?_; rotate_left; exact Ks; exact Ks
        exact ⟨b3, u3, q1, rfl, B3, u3, q1, rfl, by exact E15, O1.above.mono Kh, R1.above.mono Kh, V3, N1, Kh⟩
      · have hnx : nextV p ⟨k, t, n⟩ = some c := by unfold nextV; rw [hmv]; simp [hcq]
        rw [hnx]
        simp only
        have k4 : ∀ (w : World) (v : Value), ESl Ints w v p → Dz 62 [v] w (Ret w (str (txt p))) := fun w v h => by
          have := Qk w v _ h
          rwa [if_pos hpp] at this
        have htx : txt c ≠ txt p := fun e => hcq (txt_inj hcp.gr hpp.gr e)
        have stop12 : True := trivial
        focus
          refine Vr<|Xu Z Z Z ?_; rintro b1 w1 H3 E1 B1; have := B1.lt; have := E1.Z; refine Xu Z Z Z ?_; rintro b2 w2 H4 E2 B2; have := B2.lt; refine Xk Z Ug ?_; rintro b3 w3 H5 E3 B3; have := B3.lt; refine Ya Z<|Vp<|Vt<|Vt<|Ym<|Uh Jq Jj (B1.J exq) Z<|Vs Z (Xh (a := .agg _) Gv Z) (k0 _ (Ku exq h1) (Ku exq h2)) ?_; rintro _ w4 ⟨rfl, E4⟩; have := E4.Z; refine Xz Z<|Vp<|Uk Z fun h3 => ?_; refine Vw<|Vr<|Uh Jq Jj (B1.J exq) Z<|Vs Z (Xh (a := .agg _) Zk Z) (k1 _ (Ku exq h1) (Ku exq h2)) ?_; rintro _ w5 ⟨u3, q1, m1, rfl, E5, O1, R1, J1, hn1⟩; have V3 := Kx O1; have N1 := Kx (Je R1); have := E5.Z; refine Xk Z Ug ?_
          rintro b4 w6 H6 E6 B4; have := B4.lt; have := E6.Z; refine Uu Z Jj Z Z Kl Kl B4 Kh (((((E1.K E2).K E3).K E4).K E5).K E6) ?_; rintro w7 E7 B4 K1 Z1; have E8 := ((((E2.K E3).K E4).K E5).K E6).A exq E7 K1 Z1 Kh; have E9 := (((E3.K E4).K E5).K E6).A exq E7 K1 Z1 Kh; have E10 := ((E4.K E5).K E6).A exq E7 K1 Z1 Kh; have E11 := (E5.K E6).A exq E7 K1 Z1 Kh; have B1 := (B1.J exq).Y (K1 _ Kh); have B2 := (B2.J exq).Y (K1 _ Kh); have B3 := (B3.J exq).Y (K1 _ Kh); have O1 := (O1.J E6).W K1 Kh; have R1 := (R1.toB.J E6).W K1 Kh
          refine Vp<|Vt<|Vr<|Rk Gb Js B2 Z<|Wo Z (Yu (ps := [(0, .int _ _)]) (cs := [_, _, _]) Xq Z Z)<|Wo Z (Tr Z Z)<|Ui Z fun h4 => ?_; refine Vq Z<|Vq Z<|Vq Z<|Vq Z<|Xb Z<|Vp<|Vx Z ?_; refine Vw<|Vt<|Ym<|Yl Jt Jx Z<|Xw u1 Ju B1 Z<|Rk Gb Js B2 Z<|Vs Z (Xa (a := u1) (b := .agg _) Vb Z Z) (k2 _ (Ku E7 h1)) ?_; rintro _ w8 ⟨u4, rfl, E13, O2⟩; have ichO2 := Kx (Je O2); have := E13.Z; refine Ut Z<|Ra u4 Z<|Uz Z<|Uc u4 Z<|Ya Z<|Vp<|Vt<|Vt<|Qe mixed Ki Z ?_
          refine Tb Z<|Mi Z<|Sp Z (fun _ _ => Xj (v := .bool _) Z) (fun h5 => ?_) (fun h5 => ?_); exact Ks; refine Sb u4 Z<|Uq Z (fun _ _ => Rw Jm Z (Kv O2)) ?_; refine Qu Jt Jx Z<|Uq (v := u1) Z (fun w' hw' => Xd Ju Z (((B1.J E13).J hw').cell Z)) ?_; refine Uq Z (fun _ _ => Rw Jm Z h1) ?_; refine St Z<|Rh Z (fun h6 => ?_) (fun h6 => ?_); refine Sb u4 Z<|Rb Z (fun _ _ => Xh (a := u4) Gi Z) (fun w' hw' => (k3 _ _ ((Ku hw' (Kv O2))))) ?_; refine Qu Jt Jx Z<|Uq (v := u1) Z (fun w' hw' => Xd Ju Z (((B1.J E13).J hw').cell Z)) ?_
          refine Rb Z (fun _ _ => Xh (a := u1) Gi Z) (fun w' hw' => (k4 _ _ (Ku exq h1))) ?_; refine Uq Z (fun _ _ => Yi Z Z) ?_; refine Md Z<|Sl Z<|Ux (fun w9 E14 => ?_); have := E14.Z; refine Yt Z fun h7 => ?_; refine Vw<|Vt ?_; rotate_left; refine Yd Z<|Yd Z<|Yd Z<|Yd Z<|Yd Z<|Yd Z<|Sl Z<|Sl Z<|Ux (fun w9 E14 => ?_); have := E14.Z; refine Vx Z ?_; refine Vw<|Vt ?_; rotate_left
        · clear stop12
          have stop13 : True := trivial
          have R0 := R1
          focus
            refine Ym<|Yl Jt Ga Z<|Xw q1 Gd (B4.J exq) Z<|Yl Jt Jx Z<|Xw u3 Ju (B4.J exq) Z<|Qc Z Gc Jx Ze Z (Kx (O1.J exq)) Z ?_; rintro b5 w10 H7 E15 B5 Y5; have := E15.Z; refine Wo_app1r Z el24 Z Z B5 (R0.J ((E13.K E14).K E15)) (O1.J ((E13.K E14).K E15)) Km Kh Kh (((E7.K E13).K E14).K E15) Kh ?_; have T1 := (R0.J ((E13.K E14).K E15)); rintro v1 w11 R0 E16 M1; have E17 := M1.J T1 (((E8.K E13).K E14).K E15) Kh; have := E17.Z; have E18 := M1.J T1 (((E9.K E13).K E14).K E15) Kh; have E19 := M1.J T1 (((E10.K E13).K E14).K E15) Kh
            have E20 := M1.J T1 (((E11.K E13).K E14).K E15) Kh; have B4 := (B4.J exq).moves M1 T1 Kh; have B1 := (B1.J exq).moves M1 T1 Kh; have B2 := (B2.J exq).moves M1 T1 Kh; have B3 := (B3.J exq).moves M1 T1 Kh; have O1 := (O1.J exq).moves M1 T1 Kh; have O2 := (O2.toB.J exq).moves M1 T1 Kh; have B5 := B5.moves M1 T1 Kh; have := E16.Z; have icv1 := Kx (Je R0); refine Yl Jt Ga Z<|Um (v := v1) Z Ga Z Z (Kx R0.toB) B4 Kp Kh E16 ?_; rintro w12 E21 B4 K2 Z2; have E22 := E17.A E16 E21 K2 Z2 Kh; have E23 := E18.A E16 E21 K2 Z2 Kh; have E24 := E19.A E16 E21 K2 Z2 Kh; have E25 := E20.A E16 E21 K2 Z2 Kh; simp only [List.set] at B4
            have B1 := B1.Y (K2 _ Kh); have B2 := B2.Y (K2 _ Kh); have B3 := B3.Y (K2 _ Kh); have O1 := O1.W K2 Kh; have O2 := O2.W K2 Kh; have B5 := B5.Y (K2 _ Kh); refine Vp<|Vt<|Vt ?_
          clear stop13
          have hM : Moves w10 q1 w11 v1 := M1
          have hne := hM.ne R1 (b := b4) Kh Kh
          clear R1
          obtain ⟨nb, nc, rfl, hnc⟩ := R0.lit Kp
          have hnl : (pp ++ [p]).length = pp.length + 1 := Kp
          rw [hnl] at B4 R0 hne hnc
          focus
            have := E7.Z; refine Ym<|Yl Jt Ga Z<|Rg Gd B4 Z<|Ys Gc Z (Kv R0)<|Qo Z<|Vp<|Vu Z (fun h8 => ?_) (fun h8 => ?_); refine Ym<|Yl Jt Ga Z<|Rg Gd B4 Z<|Wo Z (Se Gc Jx Z Z Kh) ?_; refine Yl Jt Ga Z<|Um (v := .slice _ _ _) Z Ga Z Z Z B4 Kp Kh E21 ?_; rintro w13 E26 B4 K3 Z3; have E27 := E22.A E21 E26 K3 Z3 Kh; have E28 := E23.A E21 E26 K3 Z3 Kh; simp only [List.set] at B4; have B3 := B3.Y (K3 _ Kh); have O2 := O2.W K3 Kh
            refine Vp<|Vr<|Yj u4 Z<|Yl Jt Jx Z<|Um (v := u4) Z Jx Z Z (Kx O2) B4 Kp Kh E26 ?_; rintro w14 E31 B4 K4 Z4; simp only [List.set] at B4; have B3 := B3.Y (K4 _ Kh); have O2 := O2.W K4 Kh; refine Vp<|Vr<|Uh Jq Jj B4 Z<|Uw Jj B3 Z E31 ?_; rintro w15 E36 B3 K5 Z5; have O2 := O2.W K5 Kh; refine Ya Z<|Vp<|Vy ?_; rotate_left; refine Vw<|Vr<|Yj u4 Z<|Yl Jt Jx Z<|Um (v := u4) Z Jx Z Z (Kx O2) B4 Kp Kh E21 ?_; rintro w13 E26 B4 K3 Z3; simp only [List.set] at B4; have B3 := B3.Y (K3 _ Kh); have O2 := O2.W K3 Kh
            refine Vp<|Vr<|Uh Jq Jj B4 Z<|Uw Jj B3 Z E26 ?_; rintro w14 E31 B3 K4 Z4; have O2 := O2.W K4 Kh; refine Ya Z<|Vp<|Vy ?_; rotate_left
          · have R3 := (R0.wroteLt (w' := w15) (fun k h1 h2 => (K5 k Kh).trans ((K4 k h2).trans ((K3 k h2).trans (K2 k h2)))) Kh hne).above.mono (show w.heap.size ≤ w4.heap.size by omega)
            refine ⟨b3, u4, _, Z, B3, u4, _, Z, by exact E36, O2.above.mono Kh, ?_, Kk, Z, Kh⟩
            rw [show last8 (pp ++ [p]) = (pp ++ [p]).drop 1 from if_pos Kh]
            exact R3.dropS Kh
          · have R3 := (R0.wroteLt (w' := w14) (fun k h1 h2 => (K4 k Kh).trans ((K3 k h2).trans (K2 k h2))) Kh hne).above.mono (show w.heap.size ≤ w4.heap.size by omega)
            refine ⟨b3, u4, _, Z, B3, u4, _, Z, by exact E31, O2.above.mono Kh, ?_, Kk, Z, Kh⟩
            rw [show last8 (pp ++ [p]) = pp ++ [p] from if_neg Kh]
            exact R3
        · clear stop12
          have stop13 : True := trivial
          have R0 := R1
          focus
            refine Ym<|Yl Jt Ga Z<|Xw q1 Gd (B4.J exq) Z<|Yl Jt Jx Z<|Xw u3 Ju (B4.J exq) Z<|Qc Z Gc Jx Ze Z (Kx (O1.J exq)) Z ?_; rintro b5 w10 H7 E15 B5 Y5; have := E15.Z; refine Wo_app1r Z el24 Z Z B5 (R0.J ((E13.K E14).K E15)) (O1.J ((E13.K E14).K E15)) Km Kh Kh (((E7.K E13).K E14).K E15) Kh ?_; have T1 := (R0.J ((E13.K E14).K E15)); rintro v1 w11 R0 E16 M1; have E17 := M1.J T1 (((E8.K E13).K E14).K E15) Kh; have := E17.Z; have E18 := M1.J T1 (((E9.K E13).K E14).K E15) Kh; have E19 := M1.J T1 (((E10.K E13).K E14).K E15) Kh
            have E20 := M1.J T1 (((E11.K E13).K E14).K E15) Kh; have B4 := (B4.J exq).moves M1 T1 Kh; have B1 := (B1.J exq).moves M1 T1 Kh; have B2 := (B2.J exq).moves M1 T1 Kh; have B3 := (B3.J exq).moves M1 T1 Kh; have O1 := (O1.J exq).moves M1 T1 Kh; have O2 := (O2.toB.J exq).moves M1 T1 Kh; have B5 := B5.moves M1 T1 Kh; have := E16.Z; have icv1 := Kx (Je R0); refine Yl Jt Ga Z<|Um (v := v1) Z Ga Z Z (Kx R0.toB) B4 Kp Kh E16 ?_; rintro w12 E21 B4 K2 Z2; have E22 := E17.A E16 E21 K2 Z2 Kh; have E23 := E18.A E16 E21 K2 Z2 Kh; have E24 := E19.A E16 E21 K2 Z2 Kh; have E25 := E20.A E16 E21 K2 Z2 Kh; simp only [List.set] at B4
            have B1 := B1.Y (K2 _ Kh); have B2 := B2.Y (K2 _ Kh); have B3 := B3.Y (K2 _ Kh); have O1 := O1.W K2 Kh; have O2 := O2.W K2 Kh; have B5 := B5.Y (K2 _ Kh); refine Vp<|Vt<|Vt ?_
          clear stop13
          have hM : Moves w10 q1 w11 v1 := M1
          have hne := hM.ne R1 (b := b4) Kh Kh
          clear R1
          obtain ⟨nb, nc, rfl, hnc⟩ := R0.lit Kp
          have hnl : (pp ++ [p]).length = pp.length + 1 := Kp
          rw [hnl] at B4 R0 hne hnc
          focus
            have := E7.Z; refine Ym<|Yl Jt Ga Z<|Rg Gd B4 Z<|Ys Gc Z (Kv R0)<|Qo Z<|Vp<|Vu Z (fun h7 => ?_) (fun h7 => ?_); refine Ym<|Yl Jt Ga Z<|Rg Gd B4 Z<|Wo Z (Se Gc Jx Z Z Kh) ?_; refine Yl Jt Ga Z<|Um (v := .slice _ _ _) Z Ga Z Z Z B4 Kp Kh E21 ?_; rintro w13 E26 B4 K3 Z3; have E27 := E22.A E21 E26 K3 Z3 Kh; have E28 := E23.A E21 E26 K3 Z3 Kh; simp only [List.set] at B4; have B3 := B3.Y (K3 _ Kh); have O2 := O2.W K3 Kh
            refine Vp<|Vr<|Yj u4 Z<|Yl Jt Jx Z<|Um (v := u4) Z Jx Z Z (Kx O2) B4 Kp Kh E26 ?_; rintro w14 E31 B4 K4 Z4; simp only [List.set] at B4; have B3 := B3.Y (K4 _ Kh); have O2 := O2.W K4 Kh; refine Vp<|Vr<|Uh Jq Jj B4 Z<|Uw Jj B3 Z E31 ?_; rintro w15 E36 B3 K5 Z5; have O2 := O2.W K5 Kh; refine Ya Z<|Vp<|Vy ?_; rotate_left; refine Vw<|Vr<|Yj u4 Z<|Yl Jt Jx Z<|Um (v := u4) Z Jx Z Z (Kx O2) B4 Kp Kh E21 ?_; rintro w13 E26 B4 K3 Z3; simp only [List.set] at B4; have B3 := B3.Y (K3 _ Kh); have O2 := O2.W K3 Kh
            refine Vp<|Vr<|Uh Jq Jj B4 Z<|Uw Jj B3 Z E26 ?_; rintro w14 E31 B3 K4 Z4; have O2 := O2.W K4 Kh; refine Ya Z<|Vp<|Vy ?_; rotate_left
          · have R3 := (R0.wroteLt (w' := w15) (fun k h1 h2 => (K5 k Kh).trans ((K4 k h2).trans ((K3 k h2).trans (K2 k h2)))) Kh hne).above.mono (show w.heap.size ≤ w4.heap.size by omega)
            refine ⟨b3, u4, _, Z, B3, u4, _, Z, by exact E36, O2.above.mono Kh, ?_, Kk, Z, Kh⟩
            rw [show last8 (pp ++ [p]) = (pp ++ [p]).drop 1 from if_pos Kh]
            exact R3.dropS Kh
          · have R3 := (R0.wroteLt (w' := w14) (fun k h1 h2 => (K4 k Kh).trans ((K3 k h2).trans (K2 k h2))) Kh hne).above.mono (show w.heap.size ≤ w4.heap.size by omega)
            refine ⟨b3, u4, _, Z, B3, u4, _, Z, by exact E31, O2.above.mono Kh, ?_, Kk, Z, Kh⟩
            rw [show last8 (pp ++ [p]) = pp ++ [p] from if_neg Kh]
            exact R3
 ·have k0 : ∀ w,ESl Ints w u1 p→ESl (ESl Ints) w u2 pp→Dz 16 [.agg #[u1,u2]] w (Ret w (.bool false)):=fun w h1 h2=>by
   have:=Sa w u1 u2 ⟨p,pp⟩ h1 h2;rwa [decide_eq_false hd] at this
  rw [if_neg hd,if_neg hd,decide_eq_false hd,Bool.false_and]
  focus
   refine Vr<|Xu Z Z Z ?_;rintro b1 w1 H1 E1 B1;have:=B1.lt;refine Xu Z Z Z ?_;rintro b2 w2 H2 E2 B2;have:=B2.lt;refine Xk Z Ug ?_;rintro b3 w3 H3 E3 B3;refine Ya Z<|Vp<|Vt<|Vt<|Ym<|Uh Jq Jj (B1.J exq) Z<|Vs Z (Xh (a:=.agg _) Gv Z) (k0 _ (Ku exq h1) (Ku exq h2)) ?_;rintro _ w4 ⟨rfl,E4⟩;refine Xz Z<|Vp<|Up Z (fun h3=>?_) (fun h3=>?_);refine Vr<|Wo Z (Yu (ps:=[]) (cs:=[_,_]) Ug Z Z)<|Uu Z Jj Z Z Kl Kl (B3.J E4) Kh (((E1.K E2).K E3).K E4) ?_;rintro w5 E5 B3 K1 Z1;have E6:=((E2.K E3).K E4).A exq E5 K1 Z1 Kh;have:=E6.Z;refine Ya Z<|Vp<|Vy ?_
   rotate_left;exact Ks
  exact ⟨b3,_,_,rfl,B3,_,_,rfl,by exact E5,(Owned.nil (e:=0) (X:=XSl 0 XInt)).above,(Owned.nil (e:=0) (X:=XSl 0 (XSl 0 XInt))).above,rfl,rfl,Kh⟩
open Go.Lib (decDigits)
theorem enc_no (f:Fm):(32:UInt8) ∉ f.enc:=by
 induction f <;> simp_all [Fm.enc]
theorem ask2_no {p:List (List Int)} {a r:List UInt8} (h:(32:UInt8) ∈ r):ask2 p a r=[119,104,97,116]:=by
 have h1:okF r=false:=by
  unfold okF
  cases hf:theF r with
  | none=>rfl
  | some f=>have:=(theF_some.1 hf).1;subst this;exact absurd h (enc_no f)
 have h2:(rdP r).isSome=false:=by
  cases hq:rdP r with
  | none=>rfl
  | some q=>have:=Tn hq;rw [← this.2] at h;exact absurd h (txt_no this.1.gr Kj)
 unfold ask2;rw [h1,h2];simp
theorem ask_words (p:List (List Int)) (s:List UInt8) :
  (∃ ps,cutB 32 s=ps∧ps.length≠2∧(if (cutF 32 s).2.2 then ask2 p (cutF 32 s).1 (cutF 32 s).2.1 else [119,104,97,116])=[119,104,97,116])
  ∨ ∃ a r,cutB 32 s=[a,r]∧r.length≤s.length∧(if (cutF 32 s).2.2 then ask2 p (cutF 32 s).1 (cutF 32 s).2.1 else [119,104,97,116])=ask2 p a r:=by
 rcases byte_ind 32 s with h | ⟨a,r,rfl,h⟩
 ·left
  exact ⟨_,rfl,by rw [Nr h];simp,by rw [cutF_no h];rfl⟩
 ·rw [cutF_at h,Ml h]
  by_cases hr:(32:UInt8) ∈ r
  ·left
   refine ⟨_,Z,?_,by rw [if_pos Z];exact ask2_no hr⟩
   have:=List.count_pos_iff.2 hr
   rw [List.length_cons,cutB_len];omega
  ·right
   exact ⟨a,r,by rw [Nr hr],Kg,by rw [if_pos rfl]⟩
open Classical in
theorem spec_DeskLine_ok (w:World) (u1 u2:Value) (d:Dsk) (h1:ESl Ints w u1 d.now) (h2:ESl (ESl Ints) w u2 d.past) (s:List UInt8) (hs:s.length≤1048576) :
  Dz 14 [.agg #[u1,u2],str s] w (RetDkRT w (dlV d s).1.now (dlV d s).1.past (dlV d s).2):=by
 have V1:isCell u1=true:=Qy h1
 have V2:isCell u2=true:=Qy h2
 have nil1 : ∀ (w w':World),w.heap.size≤w'.heap.size→OwnedB w.heap.size w'.heap.size (XRd (ESl Ints)) w' (.slice none 0 0) []:=fun w w' h=>(OwnedB.nil (e:=0) (X:=XSl 0 XInt)).rd
 have nil2 : ∀ (w w':World),w.heap.size≤w'.heap.size→OwnedB w.heap.size w'.heap.size (XRd (ESl (ESl Ints))) w' (.slice none 0 0) []:=fun w w' h=>(OwnedB.nil (e:=0) (X:=XSl 0 (XSl 0 XInt))).rd
 refine Tj Tryz.func14 Z Tryz.results14 Tryz.ntmps14 Z Jq Jj ?_
 by_cases hd:DkOk d
 ·rw [show dlV d s=lnV d s from if_pos hd]
  have bnd : ∀ q,Pic q→q.length≤100∧∀ r ∈ q,r.length≤100:=fun q hq=>⟨by have:=hq.2.1;omega,fun r hr=>by rw [(hq.2.2 r hr).1];have:=hq.2.1;omega⟩
  have hppl:=hd.2.1
  have hp:=hd.1.1
  have k0 : ∀ w,ESl Ints w u1 d.now→ESl (ESl Ints) w u2 d.past→Dz 16 [.agg #[u1,u2]] w (Ret w (.bool true)):=fun w h1 h2=>by
   have:=Sa w u1 u2 d h1 h2;rwa [decide_eq_true hd] at this
  have k1 : ∀ w,ESl Ints w u1 d.now→ESl (ESl Ints) w u2 d.past→Dz 60 [.agg #[u1,u2]] w (RetDk w 23 88 3 d.now d.past):=fun w h1 h2=>l11Copy_ok w u1 u2 d.now d.past h1 h2 (bnd _ hd.1.1) Kh (fun q hq=>bnd q (hd.2.2 q hq).1)
  cases ha:rdD s with
  | some a =>
    rw [show lnV d s = ((doV d a).1, okV (doV d a).2) by unfold lnV; rw [ha]]
    have hat : a.text.length ≤ 1048576 := rdD_text ha hs
    have k2 : ∀ (w : World), Dz 61 [str s] w (Ret w (.tuple #[.agg #[.int .i64 a.kind, str a.text, .int .i64 a.node], .bool true])) := fun w => by
      have := Mz w s hs
      rw [ha] at this; exact this
    have k3 : ∀ (w : World), ESl Ints w u1 d.now → ESl (ESl Ints) w u2 d.past → Dz 37 [.agg #[u1, u2], .agg #[.int .i64 a.kind, str a.text, .int .i64 a.node]] w (RetDkRB w (doV d a).1.now (doV d a).1.past (doV d a).2) := fun w h1 h2 => by
      have := (spec_DeskDo_ok w u1 u2 d h1 h2 a.kind a.node a.text hat).mono fun _ _ h => h.r
      rwa [if_pos hd, if_pos hd, decide_eq_true hd, Bool.true_and] at this
    cases hb : (doV d a).2 with
    | true =>
      rw [hb] at k3
      focus
        refine Vr<|Xu Z Z Z ?_; rintro b1 w1 H1 E1 B1; have := B1.lt; refine Xk Z Ug ?_; rintro b2 w2 H2 E2 B2; have := B2.lt; refine Xr Z<|Vp<|Vt<|Vr<|Uh Jq Jj (B1.J E2) Z<|Vs Z (Xh (a := .agg _) Gv Z) (k0 _ (Ku exq h1) (Ku exq h2)) ?_; rintro _ w3 ⟨rfl, E3⟩; have := E3.Z; refine Xz Z<|Vp<|Uk Z fun h3 => ?_; refine Vw<|Vr<|Uh Jq Jj (B1.J exq) Z<|Vs Z (Xh (a := .agg _) Zk Z) (k1 _ (Ku exq h1) (Ku exq h2)) ?_; rintro _ w4 ⟨u3, q1, m1, rfl, E4, O1, R1, J1, hn1⟩; have V3 := Kx O1; have N1 := Kx (Je R1); have := E4.Z; refine Xk Z Ug ?_; rintro b3 w5 H3 E5 B3; have := B3.lt
        refine Uu Z Jj Z Z Kl Kl B3 Kh ((((E1.K E2).K E3).K E4).K E5) ?_; rintro w6 E6 B3 K1 Z1; have E7 := (((E2.K E3).K E4).K E5).A exq E6 K1 Z1 Kh; have E8 := ((E3.K E4).K E5).A exq E6 K1 Z1 Kh; have E9 := (E4.K E5).A exq E6 K1 Z1 Kh; have E10 := E5.A exq E6 K1 Z1 Kh; have B1 := (B1.J exq).Y (K1 _ Kh); have B2 := (B2.J exq).Y (K1 _ Kh); have O1 := (O1.J E5).W K1 Kh; have R1 := (R1.toB.J E5).W K1 Kh; refine Vp<|Vr<|Yv Z<|Vs Z (Xh (a := .string _) Tryz.call61 Z) (k2 _) ?_; rintro _ w7 ⟨rfl, E11⟩; have := E11.Z; refine Ut Z<|Mu Z<|Uz Z<|Qd Z Xq ?_; rintro b4 w8 H4 E12 B4; have := B4.lt
        refine Qs Js B4 Z ((E6.K E11).K E12) ?_; rintro w9 E13 B4 K2 Z2; have E14 := ((E7.K E11).K E12).A exq E13 K2 Z2 Kh; have szE14 := E14.Z; have E15 := ((E8.K E11).K E12).A exq E13 K2 Z2 Kh; have szE15 := E15.Z; have B1 := (B1.J exq).Y (K2 _ Kh); have B2 := (B2.J exq).Y (K2 _ Kh); refine Ya Z<|Vp<|Vt<|Vr<|Xp Z<|Vp<|Xe Z ?_; refine Vr<|Uh Jq Jj B1 Z<|Rk Gb Js B4 Z<|Vs Z (Xa (a := .agg _) (b := .agg _) Zc Z Z) (k3 _ (Ku E13 h1) (Ku E13 h2)) ?_; rintro _ w10 ⟨u4, q2, rfl, E20, W1, X1, V4, N2, gwu4⟩; refine Ut Z<|Mu Z<|Uz Z<|Xk Z Ug ?_; rintro b5 w11 H5 E21 B5; have := E21.Z
        refine Uw Jj B5 Z ((E13.K E20).K E21) ?_; rintro w12 E22 B5 K3 Z3; have B2 := (B2.J exq).Y (K3 _ Kh); have W1 := (W1.J E21).W K3 Kh; have X1 := (X1.J E21).W K3 Kh; refine Ya Z<|Vp<|Vt<|Vr<|Xp Z<|Xz Z<|Vp<|Uk Z fun h4 => ?_; refine Vw<|Vr<|Uh Jq Jj B5 Z<|Uw Jj B2 Z E22 ?_; rintro w13 E31 B2 K4 Z4; have W1 := W1.W K4 Kh; have X1 := X1.W K4 Kh; refine Xr Z<|Vp<|Vy ?_
      exact ⟨b2, u4, q2, rfl, B2, u4, q2, rfl, by exact E31, W1.wide Kh Kh, X1.wide Kh Kh, V4, N2⟩
    | false =>
      rw [hb] at k3
      focus
        refine Vr<|Xu Z Z Z ?_; rintro b1 w1 H1 E1 B1; have := B1.lt; refine Xk Z Ug ?_; rintro b2 w2 H2 E2 B2; have := B2.lt; refine Xr Z<|Vp<|Vt<|Vr<|Uh Jq Jj (B1.J E2) Z<|Vs Z (Xh (a := .agg _) Gv Z) (k0 _ (Ku exq h1) (Ku exq h2)) ?_; rintro _ w3 ⟨rfl, E3⟩; have := E3.Z; refine Xz Z<|Vp<|Uk Z fun h3 => ?_; refine Vw<|Vr<|Uh Jq Jj (B1.J exq) Z<|Vs Z (Xh (a := .agg _) Zk Z) (k1 _ (Ku exq h1) (Ku exq h2)) ?_; rintro _ w4 ⟨u3, q1, m1, rfl, E4, O1, R1, J1, hn1⟩; have V3 := Kx O1; have N1 := Kx (Je R1); have := E4.Z; refine Xk Z Ug ?_; rintro b3 w5 H3 E5 B3; have := B3.lt
        refine Uu Z Jj Z Z Kl Kl B3 Kh ((((E1.K E2).K E3).K E4).K E5) ?_; rintro w6 E6 B3 K1 Z1; have E7 := (((E2.K E3).K E4).K E5).A exq E6 K1 Z1 Kh; have E8 := ((E3.K E4).K E5).A exq E6 K1 Z1 Kh; have E9 := (E4.K E5).A exq E6 K1 Z1 Kh; have E10 := E5.A exq E6 K1 Z1 Kh; have B1 := (B1.J exq).Y (K1 _ Kh); have B2 := (B2.J exq).Y (K1 _ Kh); have O1 := (O1.J E5).W K1 Kh; have R1 := (R1.toB.J E5).W K1 Kh; refine Vp<|Vr<|Yv Z<|Vs Z (Xh (a := .string _) Tryz.call61 Z) (k2 _) ?_; rintro _ w7 ⟨rfl, E11⟩; have := E11.Z; refine Ut Z<|Mu Z<|Uz Z<|Qd Z Xq ?_; rintro b4 w8 H4 E12 B4; have := B4.lt
        refine Qs Js B4 Z ((E6.K E11).K E12) ?_; rintro w9 E13 B4 K2 Z2; have E14 := ((E7.K E11).K E12).A exq E13 K2 Z2 Kh; have szE14 := E14.Z; have E15 := ((E8.K E11).K E12).A exq E13 K2 Z2 Kh; have szE15 := E15.Z; have B1 := (B1.J exq).Y (K2 _ Kh); have B2 := (B2.J exq).Y (K2 _ Kh); refine Ya Z<|Vp<|Vt<|Vr<|Xp Z<|Vp<|Xe Z ?_; refine Vr<|Uh Jq Jj B1 Z<|Rk Gb Js B4 Z<|Vs Z (Xa (a := .agg _) (b := .agg _) Zc Z Z) (k3 _ (Ku E13 h1) (Ku E13 h2)) ?_; rintro _ w10 ⟨u4, q2, rfl, E20, W1, X1, V4, N2, gwu4⟩; refine Ut Z<|Mu Z<|Uz Z<|Xk Z Ug ?_; rintro b5 w11 H5 E21 B5; have := E21.Z
        refine Uw Jj B5 Z ((E13.K E20).K E21) ?_; rintro w12 E22 B5 K3 Z3; have B2 := (B2.J exq).Y (K3 _ Kh); have W1 := (W1.J E21).W K3 Kh; have X1 := (X1.J E21).W K3 Kh; refine Ya Z<|Vp<|Vt<|Vr<|Xp Z<|Xz Z<|Vp<|Up Z (fun h4 => ?_) (fun h4 => ?_); refine Vr<|Uh Jq Jj B5 Z<|Uw Jj B2 Z E22 ?_; rintro w13 E31 B2 K4 Z4; have W1 := W1.W K4 Kh; have X1 := X1.W K4 Kh; refine Xr Z<|Vp<|Vy ?_; rotate_left; exact Ks
      exact ⟨b2, u4, q2, rfl, B2, u4, q2, rfl, by exact E31, W1.wide Kh Kh, X1.wide Kh Kh, V4, N2⟩
  | none =>
    rw [show lnV d s = (d, askV d.now s) by unfold lnV; rw [ha]]
    have k2 : ∀ (w : World), Dz 61 [str s] w (Ret w (.tuple #[.agg #[.int .i64 0, str [], .int .i64 0], .bool false])) := fun w => by
      have := Mz w s hs
      rw [ha] at this; exact this
    have I1 := hp.1
    have I5 := hp.2.1
    have htx := Lk hp.gr
    have hfl := faV_le d.now
    have hml := manyV_le d.now 0
    have yn := l11Yes_ok
    have c1 : ∀ (w : World) (v : Value), ESl Ints w v d.now → Dz 62 [v] w (Ret w (str (txt d.now))) := fun w v h => by
      have := Qk w v d.now h; rwa [if_pos hp] at this
    have c2 : ∀ (w : World) (v : Value), ESl Ints w v d.now → Dz 63 [v, .int .i64 0] w (Ret w (.tuple #[.int .i64 (codeV d.now 0).1, .bool (codeV d.now 0).2])) := fun w v h => spec_CodeAt_ok w v d.now h hp
    have c3 : ∀ (w : World) (v : Value), ESl Ints w v d.now → Dz 65 [v, .int .i64 0] w (Ret w (.int .i64 (manyV d.now 0 : Int))) := fun w v h => spec_ManyIn_ok w v d.now h hp
    have c4 : ∀ (w : World) (v u : Value), ESl Ints w v d.now → ESl Ints w u d.now → Dz 67 [v, .int .i64 0, u, .int .i64 0] w (Ret w (.bool (hasV d.now 0 d.now 0))) := fun w v u h h' => spec_HasSet_ok w v u d.now d.now h h' hp hp
    have c5 : ∀ (w : World) (v : Value), ESl Ints w v d.now → Dz 68 [v, .int .i64 0] w (Ret w (.int .i64 (deepAtV d.now 0))) := fun w v h => spec_DeepAt_ok w v d.now h 0
    have c6 : ∀ (w : World) (v : Value), ESl Ints w v d.now → Dz 69 [v] w (RetO w XI (ints (faV d.now))) := fun w v h => spec_FoundedAll_ok w v d.now h
    have cI : ∀ (w : World) (n : Nat), n ≤ 1000000 → Dz 64 [.int .i64 (n : Int)] w (Ret w (str (decDigits n))) := fun w n hn => l1Num_ok n n (Kz _) hn w
    have cF : ∀ (w : World), Dz 64 [.int .i64 ((ints (faV d.now)).length : Int)] w (Ret w (str (decDigits (faV d.now).length))) := fun w => by
      rw [Ul] at hfl ⊢
      exact cI w _ Kh
    have cM : ∀ (w : World), Dz 64 [.int .i64 (manyV d.now 0 : Int)] w (Ret w (str (decDigits (manyV d.now 0)))) := fun w => cI w _ Kh
    have c7 : ∀ (w : World), Dz 70 [str s, .int .u8 32] w (RetO w XS (cutB 32 s)) := fun w => l1Cut_ok w s 32 hs
    have stop10 : True := trivial
    focus
      refine Vr<|Xu Z Z Z ?_; rintro b1 w1 H1 E1 B1; have := B1.lt; have := E1.Z; refine Xk Z Ug ?_; rintro b2 w2 H2 E2 B2; have := B2.lt; have := E2.Z; refine Xr Z<|Vp<|Vt<|Vr<|Uh Jq Jj (B1.J E2) Z<|Vs Z (Xh (a := .agg _) Gv Z) (k0 _ (Ku exq h1) (Ku exq h2)) ?_; rintro _ w3 ⟨rfl, E3⟩; have := E3.Z; refine Xz Z<|Vp<|Uk Z fun h3 => ?_; refine Vw<|Vr<|Uh Jq Jj (B1.J exq) Z<|Vs Z (Xh (a := .agg _) Zk Z) (k1 _ (Ku exq h1) (Ku exq h2)) ?_; rintro _ w4 ⟨u3, q1, m1, rfl, E4, O1, R1, J1, hn1⟩; have V3 := Kx O1; have cpu3 := OwnedB.capOk O1; have N1 := Kx (Je R1); have cpq1 := OwnedB.capOk (Je R1); have := E4.Z
      refine Xk Z Ug ?_; rintro b3 w5 H3 E5 B3; have := B3.lt; have := E5.Z; refine Uu Z Jj Z Z Kl Kl B3 Kh ((((E1.K E2).K E3).K E4).K E5) ?_; rintro w6 E6 B3 K1 Z1; have E7 := (((E2.K E3).K E4).K E5).A exq E6 K1 Z1 Kh; have szE7 := E7.Z; have E8 := ((E3.K E4).K E5).A exq E6 K1 Z1 Kh; have szE8 := E8.Z; have E9 := (E4.K E5).A exq E6 K1 Z1 Kh; have szE9 := E9.Z; have E10 := E5.A exq E6 K1 Z1 Kh; have szE10 := E10.Z; have B1 := (B1.J exq).Y (K1 _ Kh); have B2 := (B2.J exq).Y (K1 _ Kh); have O1 := (O1.J E5).W K1 Kh; have R1 := (R1.toB.J E5).W K1 Kh
      refine Vp<|Vr<|Yv Z<|Vs Z (Xh (a := .string _) Tryz.call61 Z) (k2 _) ?_; rintro _ w7 ⟨rfl, E11⟩; have := E11.Z; refine Ut Z<|Mu Z<|Uz Z<|Qd Z Xq ?_; rintro b4 w8 H4 E12 B4; have := B4.lt; have := E12.Z; refine Qs Js B4 Z ((E6.K E11).K E12) ?_; rintro w9 E13 B4 K2 Z2; have E14 := ((E7.K E11).K E12).A exq E13 K2 Z2 Kh; have szE14 := E14.Z; have E15 := ((E8.K E11).K E12).A exq E13 K2 Z2 Kh; have szE15 := E15.Z; have E16 := ((E9.K E11).K E12).A exq E13 K2 Z2 Kh; have szE16 := E16.Z; have E17 := ((E10.K E11).K E12).A exq E13 K2 Z2 Kh; have szE17 := E17.Z; have E18 := (E11.K E12).A exq E13 K2 Z2 Kh; have szE18 := E18.Z; have E19 := E12.A exq E13 K2 Z2 Kh
      have szE19 := E19.Z; have B3 := (B3.J exq).Y (K2 _ Kh); have B1 := (B1.J exq).Y (K2 _ Kh); have B2 := (B2.J exq).Y (K2 _ Kh); have O1 := (O1.J exq).W K2 Kh; have R1 := (R1.J exq).W K2 Kh; refine Ya Z<|Vp<|Vt<|Vr<|Xp Z<|Vp<|Vx Z ?_; refine Vw<|Vt<|Vt ?_
    clear stop10 k0 k1 k2
    focus
      have F1 := E13; clear E1; clear E2; clear E3; clear E4; clear E5; clear E6; clear E7; clear szE7; clear E8; clear szE8; clear E9; clear szE9; clear E10; clear szE10; clear E11; clear E12; clear E13; clear E14; clear szE14; clear E15; clear szE15; clear E16; clear szE16; clear E17; clear szE17; clear E18; clear szE18; clear E19; clear szE19
    have heldS : w = w := rfl
    by_cases g1 : s = [112, 105, 99, 116, 117, 114, 101]
    · have ea : askV d.now s = [58] ++ txt d.now := by unfold askV; rw [if_pos g1]; rfl
      rw [ea]
      focus
        refine Ym<|Yv Z<|Vp<|Yb<|Vr<|Wo Z (Yi Z Z)<|Ya Z<|Vp<|Vu Z (fun h4 => ?_) (fun h4 => ?_); refine Vt<|Rm (fun w' => Ext w w') mixed Z Ki ?_; intro w10 E1 K3 Z3; refine Sw 1 Jt Jx Z Z exq<|Wha [0, 2]<|Yg Z ?_ ?_; refine Uh Jq Jj (B3.J E1) Z<|Wnx exq<|Wha [2]<|Wh1 Z<|Xw u1 Ju (B1.J E1) Z<|Wnx exq<|Wha [3]<|Wh1 Z<|Vs Z (Xh (a := u1) Gi Z) (c1 _ _ (Ku exq h1)) ?_; rintro _ w11 ⟨rfl, E2⟩; have := E2.Z; refine Wnx exq<|Yc 4 Z Ki Ki Z (fun _ _ => Yz Z Z Kf) exq ?_; refine Wha [5]<|Wh1 Z<|Uw Jj (B2.J (E1.K E2)) Z ((F1.K E1).K E2) ?_; rintro w12 E3 B2 K4 Z4
        have O1 := (O1.J exq).W K4 Kh; have R1 := (R1.J exq).W K4 Kh; refine Wnx E3<|Us 6 Z Z E3<|Yp Ki ?_; refine Vy ?_; rotate_left; refine Wh1 Z<|Xw u1 Ju (B1.J E1) Z<|Wnx exq<|Wha [0, 3]<|Yg Z ?_ ?_; refine Uh Jq Jj (B3.J E1) Z<|Wnx exq<|Wha [3]<|Wh1 Z<|Vs Z (Xh (a := u1) Gi Z) (c1 _ _ (Ku exq h1)) ?_; rintro _ w11 ⟨rfl, E2⟩; have := E2.Z; refine Wnx exq<|Yc 4 Z Ki Ki Z (fun _ _ => Yz Z Z Kf) exq ?_; refine Wha [5]<|Wh1 Z<|Uw Jj (B2.J (E1.K E2)) Z ((F1.K E1).K E2) ?_; rintro w12 E3 B2 K4 Z4; have O1 := (O1.J exq).W K4 Kh; have R1 := (R1.J exq).W K4 Kh
        refine Wnx E3<|Us 6 Z Z E3<|Yp Ki ?_; refine Vy ?_; rotate_left; refine Wh1 Z<|Vs Z (Xh (a := u1) Gi Z) (c1 _ _ (Ku exq h1)) ?_; rintro _ w11 ⟨rfl, E2⟩; have := E2.Z; refine Wnx exq<|Yc 4 Z Ki Ki Z (fun _ _ => Yz Z Z Kf) exq ?_; refine Wha [0]<|Wh1 Z<|Uh Jq Jj (B3.J exq) Z<|Wnx exq<|Wha [5]<|Wh1 Z<|Uw Jj (B2.J (E1.K E2)) Z ((F1.K E1).K E2) ?_; rintro w12 E3 B2 K4 Z4; have O1 := (O1.J exq).W K4 Kh; have R1 := (R1.J exq).W K4 Kh; refine Wnx E3<|Us 6 Z Z E3<|Yp Ki ?_; refine Vy ?_; rotate_left; exact Ks
      all_goals exact ⟨b2, u3, q1, rfl, B2, u3, q1, rfl, by repeat (first | assumption | refine Ext.trans Kk ?_), O1.rd.wide Kh Kh, R1.rd.wide Kh Kh, V3, N1⟩
    by_cases g2 : s = [99, 111, 100, 101]
    · have ea : askV d.now s = if (codeV d.now 0).2 then decDigits (codeV d.now 0).1.toNat else [110, 111, 110, 101] := by
        unfold askV; rw [if_neg g1, if_pos g2]
      rw [ea]
      rcases codeV_nat d.now 0 with ⟨c, hc, e⟩ | e
      · rw [e] at c2 ⊢
        have cC := fun w => cI w c Kh
        focus
          refine Ym<|Yv Z<|Vp<|Yb<|Vr<|Wo Z (Yi Z Z)<|Ya Z<|Vp<|Yt Z fun h4 => ?_; refine Vr<|Wo Z (Yi Z Z)<|Ya Z<|Vp<|Vu Z (fun h5 => ?_) (fun h5 => ?_); refine Vr<|Yl Jt Jx Z<|Xw u1 Ju B1 Z<|Vs Z (Xa (a := u1) (b := .int _ _) Tryz.call63 Z Z) (c2 _ _ (Ku F1 h1)) ?_; rintro _ w10 ⟨rfl, E1⟩; have := E1.Z; refine Ut Z<|WsxI Z<|Uz Z<|Yx Z<|Ya Z<|Vp<|Vt<|Vr<|Xp Z<|Xz Z<|Vp<|Uk Z fun h6 => ?_; refine Vw<|Vt<|Rm (fun w' => Ext w w') mixed Z Ki ?_; intro w11 E2 K3 Z3; refine Mb 1 Z Z exq<|Wha [0, 2]<|Yg Z ?_ ?_
          refine Uh Jq Jj (B3.J exq) Z<|Wnx exq<|Wha [2]<|Wh1 Z<|Vs Z (Xh (a := .int _ _) Gs Z) (cC _) ?_; rintro _ w12 ⟨rfl, E3⟩; have := E3.Z; refine Wnx exq<|Wha [3]<|Wh1 Z<|Uu Z Jj Z Z Kl Kl (B2.J ((E1.K E2).K E3)) Kh (((F1.K E1).K E2).K E3) ?_; rintro w13 E4 B2 K4 Z4; have O1 := (O1.J exq).W K4 Kh; have R1 := (R1.J exq).W K4 Kh; refine Wnx E4<|Us 4 Z Z E4<|Yp Ki ?_; refine Vy ?_; rotate_left; refine Wh1 Z<|Vs Z (Xh (a := .int _ _) Gs Z) (cC _) ?_; rintro _ w12 ⟨rfl, E3⟩; have := E3.Z
          refine Wnx exq<|Wha [0]<|Wh1 Z<|Uh Jq Jj (B3.J exq) Z<|Wnx exq<|Wha [3]<|Wh1 Z<|Uu Z Jj Z Z Kl Kl (B2.J ((E1.K E2).K E3)) Kh (((F1.K E1).K E2).K E3) ?_; rintro w13 E4 B2 K4 Z4; have O1 := (O1.J exq).W K4 Kh; have R1 := (R1.J exq).W K4 Kh; refine Wnx E4<|Us 4 Z Z E4<|Yp Ki ?_; refine Vy ?_; rotate_left; exact Ks
        all_goals exact ⟨b2, u3, q1, rfl, B2, u3, q1, rfl, by repeat (first | assumption | refine Ext.trans Kk ?_), O1.rd.wide Kh Kh, R1.rd.wide Kh Kh, V3, N1⟩
      · rw [e] at c2 ⊢
        focus
          refine Ym<|Yv Z<|Vp<|Yb<|Vr<|Wo Z (Yi Z Z)<|Ya Z<|Vp<|Yt Z fun h4 => ?_; refine Vr<|Wo Z (Yi Z Z)<|Ya Z<|Vp<|Vu Z (fun h5 => ?_) (fun h5 => ?_); refine Vr<|Yl Jt Jx Z<|Xw u1 Ju B1 Z<|Vs Z (Xa (a := u1) (b := .int _ _) Tryz.call63 Z Z) (c2 _ _ (Ku F1 h1)) ?_; rintro _ w10 ⟨rfl, E1⟩; have := E1.Z; refine Ut Z<|WsxI Z<|Uz Z<|Yx Z<|Ya Z<|Vp<|Vt<|Vr<|Xp Z<|Xz Z<|Vp<|Up Z (fun h6 => ?_) (fun h6 => ?_); refine Vt<|Ym<|Uh Jq Jj (B3.J E1) Z<|Uw Jj (B2.J E1) Z (F1.K E1) ?_; rintro w11 E2 B2 K3 Z3; have O1 := (O1.J E1).W K3 Kh
          have R1 := (R1.J E1).W K3 Kh; refine Xr Z<|Vp<|Vy ?_; rotate_left; exact Ks; exact Ks
        all_goals exact ⟨b2, u3, q1, rfl, B2, u3, q1, rfl, by repeat (first | assumption | refine Ext.trans Kk ?_), O1.rd.wide Kh Kh, R1.rd.wide Kh Kh, V3, N1⟩
    by_cases g3 : s = [109, 97, 110, 121]
    · have ea : askV d.now s = decDigits (manyV d.now 0) := by unfold askV; rw [if_neg g1, if_neg g2, if_pos g3]
      rw [ea]
      focus
        refine Ym<|Yv Z<|Vp<|Yb<|Vr<|Wo Z (Yi Z Z)<|Ya Z<|Vp<|Yt Z fun h4 => ?_; refine Vr<|Wo Z (Yi Z Z)<|Ya Z<|Vp<|Yt Z fun h5 => ?_; refine Vr<|Wo Z (Yi Z Z)<|Ya Z<|Vp<|Vu Z (fun h6 => ?_) (fun h6 => ?_); refine Vt<|Rm (fun w' => Ext w w') mixed Z Ki ?_; intro w10 E1 K3 Z3; refine Sw 1 Jt Jx Z Z exq<|Wha [0, 2]<|Yg Z ?_ ?_; refine Uh Jq Jj (B3.J E1) Z<|Wnx exq<|Wha [2]<|Wh1 Z<|Xw u1 Ju (B1.J E1) Z<|Wnx exq<|Wha [3]<|Wh1 Z<|Vs Z (Xa (a := u1) (b := .int _ _) Tryz.call65 Z Z) (c3 _ _ (Ku exq h1)) ?_; rintro _ w11 ⟨rfl, E2⟩; have := E2.Z
        refine Wnx exq<|Wha [4]<|Wh1 Z<|Vs Z (Xh (a := .int _ _) Gs Z) (cM _) ?_; rintro _ w12 ⟨rfl, E3⟩; have := E3.Z; refine Wnx exq<|Wha [5]<|Wh1 Z<|Uu Z Jj Z Z Kl Kl (B2.J ((E1.K E2).K E3)) Kh (((F1.K E1).K E2).K E3) ?_; rintro w13 E4 B2 K4 Z4; have O1 := (O1.J exq).W K4 Kh; have R1 := (R1.J exq).W K4 Kh; refine Wnx E4<|Us 6 Z Z E4<|Yp Ki ?_; refine Vy ?_; rotate_left; refine Wh1 Z<|Xw u1 Ju (B1.J E1) Z<|Wnx exq<|Wha [0, 3]<|Yg Z ?_ ?_; refine Uh Jq Jj (B3.J E1) Z<|Wnx exq<|Wha [3]<|Wh1 Z<|Vs Z (Xa (a := u1) (b := .int _ _) Tryz.call65 Z Z) (c3 _ _ (Ku exq h1)) ?_; rintro _ w11 ⟨rfl, E2⟩
        have := E2.Z; refine Wnx exq<|Wha [4]<|Wh1 Z<|Vs Z (Xh (a := .int _ _) Gs Z) (cM _) ?_; rintro _ w12 ⟨rfl, E3⟩; have := E3.Z; refine Wnx exq<|Wha [5]<|Wh1 Z<|Uu Z Jj Z Z Kl Kl (B2.J ((E1.K E2).K E3)) Kh (((F1.K E1).K E2).K E3) ?_; rintro w13 E4 B2 K4 Z4; have O1 := (O1.J exq).W K4 Kh; have R1 := (R1.J exq).W K4 Kh; refine Wnx E4<|Us 6 Z Z E4<|Yp Ki ?_; refine Vy ?_; rotate_left; refine Wh1 Z<|Vs Z (Xa (a := u1) (b := .int _ _) Tryz.call65 Z Z) (c3 _ _ (Ku exq h1)) ?_; rintro _ w11 ⟨rfl, E2⟩; have := E2.Z; refine Wnx exq<|Wha [0, 4]<|Yg Z ?_ ?_
        refine Uh Jq Jj (B3.J exq) Z<|Wnx exq<|Wha [4]<|Wh1 Z<|Vs Z (Xh (a := .int _ _) Gs Z) (cM _) ?_; rintro _ w12 ⟨rfl, E3⟩; have := E3.Z; refine Wnx exq<|Wha [5]<|Wh1 Z<|Uu Z Jj Z Z Kl Kl (B2.J ((E1.K E2).K E3)) Kh (((F1.K E1).K E2).K E3) ?_; rintro w13 E4 B2 K4 Z4; have O1 := (O1.J exq).W K4 Kh; have R1 := (R1.J exq).W K4 Kh; refine Wnx E4<|Us 6 Z Z E4<|Yp Ki ?_; refine Vy ?_; rotate_left; refine Wh1 Z<|Vs Z (Xh (a := .int _ _) Gs Z) (cM _) ?_; rintro _ w12 ⟨rfl, E3⟩; have := E3.Z
        refine Wnx exq<|Wha [0]<|Wh1 Z<|Uh Jq Jj (B3.J exq) Z<|Wnx exq<|Wha [5]<|Wh1 Z<|Uu Z Jj Z Z Kl Kl (B2.J ((E1.K E2).K E3)) Kh (((F1.K E1).K E2).K E3) ?_; rintro w13 E4 B2 K4 Z4; have O1 := (O1.J exq).W K4 Kh; have R1 := (R1.J exq).W K4 Kh; refine Wnx E4<|Us 6 Z Z E4<|Yp Ki ?_; refine Vy ?_; rotate_left; exact Ks
      all_goals exact ⟨b2, u3, q1, rfl, B2, u3, q1, rfl, by repeat (first | assumption | refine Ext.trans Kk ?_), O1.rd.wide Kh Kh, R1.rd.wide Kh Kh, V3, N1⟩
    by_cases g4 : s = [111, 119, 110]
    · have ea : askV d.now s = ynV (hasV d.now 0 d.now 0) := by unfold askV; rw [if_neg g1, if_neg g2, if_neg g3, if_pos g4]
      rw [ea]
      focus
        refine Ym<|Yv Z<|Vp<|Yb<|Vr<|Wo Z (Yi Z Z)<|Ya Z<|Vp<|Yt Z fun h4 => ?_; refine Vr<|Wo Z (Yi Z Z)<|Ya Z<|Vp<|Yt Z fun h5 => ?_; refine Vr<|Wo Z (Yi Z Z)<|Ya Z<|Vp<|Yt Z fun h6 => ?_; refine Vr<|Wo Z (Yi Z Z)<|Ya Z<|Vp<|Vu Z (fun h7 => ?_) (fun h7 => ?_); refine Vt<|Rm (fun w' => Ext w w') mixed Z Ki ?_; intro w10 E1 K3 Z3; refine Sw 1 Jt Jx Z Z exq<|Sw 3 Jt Jx Z Z exq<|Wha [0, 2, 4]<|Yg Z ?_ ?_; refine Uh Jq Jj (B3.J E1) Z<|Wnx exq<|Wha [2, 4]<|Yg Z ?_ ?_
        refine Xw u1 Ju (B1.J E1) Z<|Wnx exq<|Wha [4]<|Wh1 Z<|Xw u1 Ju (B1.J E1) Z<|Wnx exq<|Wha [5]<|Wh1 Z<|Vs Z (Ss (a := u1) (b := .int _ _) (c := u1) (d := .int _ _) Zr Z Z Z Z) (c4 _ _ _ (Ku exq h1) (Ku exq h1)) ?_; rintro _ w11 ⟨rfl, E2⟩; have := E2.Z; refine Wnx exq<|Wha [6]<|Wh1 Z<|Vs Z (Xh (a := .bool _) Gx Z) (yn _ _) ?_; rintro _ w12 ⟨rfl, E3⟩; have := E3.Z; refine Wnx exq<|Wha [7]<|Wh1 Z<|Uu Z Jj Z Z Kl Kl (B2.J ((E1.K E2).K E3)) Kh (((F1.K E1).K E2).K E3) ?_; rintro w13 E4 B2 K4 Z4; have O1 := (O1.J exq).W K4 Kh; have R1 := (R1.J exq).W K4 Kh; refine Wnx E4<|Us 8 Z Z E4<|Yp Ki ?_
        refine Vy ?_; rotate_left; refine Wh1 Z<|Xw u1 Ju (B1.J E1) Z<|Wnx exq<|Wha [2]<|Wh1 Z<|Xw u1 Ju (B1.J E1) Z<|Wnx exq<|Wha [5]<|Wh1 Z<|Vs Z (Ss (a := u1) (b := .int _ _) (c := u1) (d := .int _ _) Zr Z Z Z Z) (c4 _ _ _ (Ku exq h1) (Ku exq h1)) ?_; rintro _ w11 ⟨rfl, E2⟩; have := E2.Z; refine Wnx exq<|Wha [6]<|Wh1 Z<|Vs Z (Xh (a := .bool _) Gx Z) (yn _ _) ?_; rintro _ w12 ⟨rfl, E3⟩; have := E3.Z; refine Wnx exq<|Wha [7]<|Wh1 Z<|Uu Z Jj Z Z Kl Kl (B2.J ((E1.K E2).K E3)) Kh (((F1.K E1).K E2).K E3) ?_; rintro w13 E4 B2 K4 Z4; have O1 := (O1.J exq).W K4 Kh; have R1 := (R1.J exq).W K4 Kh
        refine Wnx E4<|Us 8 Z Z E4<|Yp Ki ?_; refine Vy ?_; rotate_left; refine Yg Z ?_ ?_; refine Xw u1 Ju (B1.J E1) Z<|Wnx exq<|Wha [0, 4]<|Yg Z ?_ ?_; refine Uh Jq Jj (B3.J E1) Z<|Wnx exq<|Wha [4]<|Wh1 Z<|Xw u1 Ju (B1.J E1) Z<|Wnx exq<|Wha [5]<|Wh1 Z<|Vs Z (Ss (a := u1) (b := .int _ _) (c := u1) (d := .int _ _) Zr Z Z Z Z) (c4 _ _ _ (Ku exq h1) (Ku exq h1)) ?_; rintro _ w11 ⟨rfl, E2⟩; have := E2.Z; refine Wnx exq<|Wha [6]<|Wh1 Z<|Vs Z (Xh (a := .bool _) Gx Z) (yn _ _) ?_; rintro _ w12 ⟨rfl, E3⟩; have := E3.Z
        refine Wnx exq<|Wha [7]<|Wh1 Z<|Uu Z Jj Z Z Kl Kl (B2.J ((E1.K E2).K E3)) Kh (((F1.K E1).K E2).K E3) ?_; rintro w13 E4 B2 K4 Z4; have O1 := (O1.J exq).W K4 Kh; have R1 := (R1.J exq).W K4 Kh; refine Wnx E4<|Us 8 Z Z E4<|Yp Ki ?_; refine Vy ?_; rotate_left; refine Wh1 Z<|Xw u1 Ju (B1.J E1) Z<|Wnx exq<|Wha [0, 5]<|Yg Z ?_ ?_; refine Uh Jq Jj (B3.J E1) Z<|Wnx exq<|Wha [5]<|Wh1 Z<|Vs Z (Ss (a := u1) (b := .int _ _) (c := u1) (d := .int _ _) Zr Z Z Z Z) (c4 _ _ _ (Ku exq h1) (Ku exq h1)) ?_; rintro _ w11 ⟨rfl, E2⟩; have := E2.Z
        refine Wnx exq<|Wha [6]<|Wh1 Z<|Vs Z (Xh (a := .bool _) Gx Z) (yn _ _) ?_; rintro _ w12 ⟨rfl, E3⟩; have := E3.Z; refine Wnx exq<|Wha [7]<|Wh1 Z<|Uu Z Jj Z Z Kl Kl (B2.J ((E1.K E2).K E3)) Kh (((F1.K E1).K E2).K E3) ?_; rintro w13 E4 B2 K4 Z4; have O1 := (O1.J exq).W K4 Kh; have R1 := (R1.J exq).W K4 Kh; refine Wnx E4<|Us 8 Z Z E4<|Yp Ki ?_; refine Vy ?_; rotate_left; refine Wh1 Z<|Vs Z (Ss (a := u1) (b := .int _ _) (c := u1) (d := .int _ _) Zr Z Z Z Z) (c4 _ _ _ (Ku exq h1) (Ku exq h1)) ?_; rintro _ w11 ⟨rfl, E2⟩; have := E2.Z; refine Wnx exq<|Wha [0, 6]<|Yg Z ?_ ?_
        refine Uh Jq Jj (B3.J exq) Z<|Wnx exq<|Wha [6]<|Wh1 Z<|Vs Z (Xh (a := .bool _) Gx Z) (yn _ _) ?_; rintro _ w12 ⟨rfl, E3⟩; have := E3.Z; refine Wnx exq<|Wha [7]<|Wh1 Z<|Uu Z Jj Z Z Kl Kl (B2.J ((E1.K E2).K E3)) Kh (((F1.K E1).K E2).K E3) ?_; rintro w13 E4 B2 K4 Z4; have O1 := (O1.J exq).W K4 Kh; have R1 := (R1.J exq).W K4 Kh; refine Wnx E4<|Us 8 Z Z E4<|Yp Ki ?_; refine Vy ?_; rotate_left; refine Wh1 Z<|Vs Z (Xh (a := .bool _) Gx Z) (yn _ _) ?_; rintro _ w12 ⟨rfl, E3⟩; have := E3.Z
        refine Wnx exq<|Wha [0]<|Wh1 Z<|Uh Jq Jj (B3.J exq) Z<|Wnx exq<|Wha [7]<|Wh1 Z<|Uu Z Jj Z Z Kl Kl (B2.J ((E1.K E2).K E3)) Kh (((F1.K E1).K E2).K E3) ?_; rintro w13 E4 B2 K4 Z4; have O1 := (O1.J exq).W K4 Kh; have R1 := (R1.J exq).W K4 Kh; refine Wnx E4<|Us 8 Z Z E4<|Yp Ki ?_; refine Vy ?_; rotate_left; refine Wh1 Z<|Xw u1 Ju (B1.J E1) Z<|Wnx exq<|Wha [0, 2]<|Yg Z ?_ ?_
        refine Uh Jq Jj (B3.J E1) Z<|Wnx exq<|Wha [2]<|Wh1 Z<|Xw u1 Ju (B1.J E1) Z<|Wnx exq<|Wha [5]<|Wh1 Z<|Vs Z (Ss (a := u1) (b := .int _ _) (c := u1) (d := .int _ _) Zr Z Z Z Z) (c4 _ _ _ (Ku exq h1) (Ku exq h1)) ?_; rintro _ w11 ⟨rfl, E2⟩; have := E2.Z; refine Wnx exq<|Wha [6]<|Wh1 Z<|Vs Z (Xh (a := .bool _) Gx Z) (yn _ _) ?_; rintro _ w12 ⟨rfl, E3⟩; have := E3.Z; refine Wnx exq<|Wha [7]<|Wh1 Z<|Uu Z Jj Z Z Kl Kl (B2.J ((E1.K E2).K E3)) Kh (((F1.K E1).K E2).K E3) ?_; rintro w13 E4 B2 K4 Z4; have O1 := (O1.J exq).W K4 Kh; have R1 := (R1.J exq).W K4 Kh
        refine Wnx E4<|Us 8 Z Z E4<|Yp Ki ?_; refine Vy ?_; rotate_left; refine Wh1 Z<|Xw u1 Ju (B1.J E1) Z<|Wnx exq<|Wha [0, 5]<|Yg Z ?_ ?_; refine Uh Jq Jj (B3.J E1) Z<|Wnx exq<|Wha [5]<|Wh1 Z<|Vs Z (Ss (a := u1) (b := .int _ _) (c := u1) (d := .int _ _) Zr Z Z Z Z) (c4 _ _ _ (Ku exq h1) (Ku exq h1)) ?_; rintro _ w11 ⟨rfl, E2⟩; have := E2.Z; refine Wnx exq<|Wha [6]<|Wh1 Z<|Vs Z (Xh (a := .bool _) Gx Z) (yn _ _) ?_; rintro _ w12 ⟨rfl, E3⟩; have := E3.Z; refine Wnx exq<|Wha [7]<|Wh1 Z<|Uu Z Jj Z Z Kl Kl (B2.J ((E1.K E2).K E3)) Kh (((F1.K E1).K E2).K E3) ?_; rintro w13 E4 B2 K4 Z4
        have O1 := (O1.J exq).W K4 Kh; have R1 := (R1.J exq).W K4 Kh; refine Wnx E4<|Us 8 Z Z E4<|Yp Ki ?_; refine Vy ?_; rotate_left; refine Wh1 Z<|Vs Z (Ss (a := u1) (b := .int _ _) (c := u1) (d := .int _ _) Zr Z Z Z Z) (c4 _ _ _ (Ku exq h1) (Ku exq h1)) ?_; rintro _ w11 ⟨rfl, E2⟩; have := E2.Z; refine Wnx exq<|Wha [0, 6]<|Yg Z ?_ ?_; refine Uh Jq Jj (B3.J exq) Z<|Wnx exq<|Wha [6]<|Wh1 Z<|Vs Z (Xh (a := .bool _) Gx Z) (yn _ _) ?_; rintro _ w12 ⟨rfl, E3⟩; have := E3.Z; refine Wnx exq<|Wha [7]<|Wh1 Z<|Uu Z Jj Z Z Kl Kl (B2.J ((E1.K E2).K E3)) Kh (((F1.K E1).K E2).K E3) ?_; rintro w13 E4 B2 K4 Z4
        have O1 := (O1.J exq).W K4 Kh; have R1 := (R1.J exq).W K4 Kh; refine Wnx E4<|Us 8 Z Z E4<|Yp Ki ?_; refine Vy ?_; rotate_left; refine Wh1 Z<|Vs Z (Xh (a := .bool _) Gx Z) (yn _ _) ?_; rintro _ w12 ⟨rfl, E3⟩; have := E3.Z; refine Wnx exq<|Wha [0]<|Wh1 Z<|Uh Jq Jj (B3.J exq) Z<|Wnx exq<|Wha [7]<|Wh1 Z<|Uu Z Jj Z Z Kl Kl (B2.J ((E1.K E2).K E3)) Kh (((F1.K E1).K E2).K E3) ?_; rintro w13 E4 B2 K4 Z4; have O1 := (O1.J exq).W K4 Kh; have R1 := (R1.J exq).W K4 Kh; refine Wnx E4<|Us 8 Z Z E4<|Yp Ki ?_; refine Vy ?_; rotate_left; exact Ks
      all_goals exact ⟨b2, u3, q1, rfl, B2, u3, q1, rfl, by repeat (first | assumption | refine Ext.trans Kk ?_), O1.rd.wide Kh Kh, R1.rd.wide Kh Kh, V3, N1⟩
    by_cases g5 : s = [100, 101, 101, 112]
    · have ea : askV d.now s = if 0 ≤ deepAtV d.now 0 then decDigits (deepAtV d.now 0).toNat else [110, 111, 110, 101] := by
        unfold askV; rw [if_neg g1, if_neg g2, if_neg g3, if_neg g4, if_pos g5]
      rw [ea]
      rcases deepAtV_nat hp 0 with ⟨c, hc, e⟩ | e
      · rw [e] at c5 ⊢
        rw [if_pos Kh]
        have cC := fun w => cI w c Kh
        focus
          refine Ym<|Yv Z<|Vp<|Yb<|Vr<|Wo Z (Yi Z Z)<|Ya Z<|Vp<|Yt Z fun h4 => ?_; refine Vr<|Wo Z (Yi Z Z)<|Ya Z<|Vp<|Yt Z fun h5 => ?_; refine Vr<|Wo Z (Yi Z Z)<|Ya Z<|Vp<|Yt Z fun h6 => ?_; refine Vr<|Wo Z (Yi Z Z)<|Ya Z<|Vp<|Yt Z fun h7 => ?_; refine Vr<|Wo Z (Yi Z Z)<|Ya Z<|Vp<|Vu Z (fun h8 => ?_) (fun h8 => ?_); refine Vt<|Vr<|Yl Jt Jx Z<|Xw u1 Ju B1 Z<|Vs Z (Xa (a := u1) (b := .int _ _) Vm Z Z) (c5 _ _ (Ku F1 h1)) ?_; rintro _ w10 ⟨rfl, E1⟩; have := E1.Z; refine Yy Z<|Vp<|Yt Z fun h9 => ?_
          refine Vw<|Vt<|Rm (fun w' => Ext w w') mixed Z Ki ?_; intro w11 E2 K3 Z3; refine Sw 1 Jt Jx Z Z exq<|Wha [0, 2]<|Yg Z ?_ ?_; refine Uh Jq Jj (B3.J exq) Z<|Wnx exq<|Wha [2]<|Wh1 Z<|Xw u1 Ju (B1.J exq) Z<|Wnx exq<|Wha [3]<|Wh1 Z<|Vs Z (Xa (a := u1) (b := .int _ _) Vm Z Z) (c5 _ _ (Ku exq h1)) ?_; rintro _ w12 ⟨rfl, E3⟩; have := E3.Z; refine Wnx exq<|Wha [4]<|Wh1 Z<|Vs Z (Xh (a := .int _ _) Gs Z) (cC _) ?_; rintro _ w13 ⟨rfl, E4⟩; have := E4.Z; refine Wnx exq<|Wha [5]<|Wh1 Z<|Uu Z Jj Z Z Kl Kl (B2.J (((E1.K E2).K E3).K E4)) Kh ((((F1.K E1).K E2).K E3).K E4) ?_
          rintro w14 E5 B2 K4 Z4; have O1 := (O1.J exq).W K4 Kh; have R1 := (R1.J exq).W K4 Kh; refine Wnx E5<|Us 6 Z Z E5<|Yp Ki ?_; refine Vy ?_; rotate_left; refine Wh1 Z<|Xw u1 Ju (B1.J exq) Z<|Wnx exq<|Wha [0, 3]<|Yg Z ?_ ?_; refine Uh Jq Jj (B3.J exq) Z<|Wnx exq<|Wha [3]<|Wh1 Z<|Vs Z (Xa (a := u1) (b := .int _ _) Vm Z Z) (c5 _ _ (Ku exq h1)) ?_; rintro _ w12 ⟨rfl, E3⟩; have := E3.Z; refine Wnx exq<|Wha [4]<|Wh1 Z<|Vs Z (Xh (a := .int _ _) Gs Z) (cC _) ?_; rintro _ w13 ⟨rfl, E4⟩; have := E4.Z
          refine Wnx exq<|Wha [5]<|Wh1 Z<|Uu Z Jj Z Z Kl Kl (B2.J (((E1.K E2).K E3).K E4)) Kh ((((F1.K E1).K E2).K E3).K E4) ?_; rintro w14 E5 B2 K4 Z4; have O1 := (O1.J exq).W K4 Kh; have R1 := (R1.J exq).W K4 Kh; refine Wnx E5<|Us 6 Z Z E5<|Yp Ki ?_; refine Vy ?_; rotate_left; refine Wh1 Z<|Vs Z (Xa (a := u1) (b := .int _ _) Vm Z Z) (c5 _ _ (Ku exq h1)) ?_; rintro _ w12 ⟨rfl, E3⟩; have := E3.Z; refine Wnx exq<|Wha [0, 4]<|Yg Z ?_ ?_; refine Uh Jq Jj (B3.J exq) Z<|Wnx exq<|Wha [4]<|Wh1 Z<|Vs Z (Xh (a := .int _ _) Gs Z) (cC _) ?_; rintro _ w13 ⟨rfl, E4⟩; have := E4.Z
          refine Wnx exq<|Wha [5]<|Wh1 Z<|Uu Z Jj Z Z Kl Kl (B2.J (((E1.K E2).K E3).K E4)) Kh ((((F1.K E1).K E2).K E3).K E4) ?_; rintro w14 E5 B2 K4 Z4; have O1 := (O1.J exq).W K4 Kh; have R1 := (R1.J exq).W K4 Kh; refine Wnx E5<|Us 6 Z Z E5<|Yp Ki ?_; refine Vy ?_; rotate_left; refine Wh1 Z<|Vs Z (Xh (a := .int _ _) Gs Z) (cC _) ?_; rintro _ w13 ⟨rfl, E4⟩; have := E4.Z
          refine Wnx exq<|Wha [0]<|Wh1 Z<|Uh Jq Jj (B3.J exq) Z<|Wnx exq<|Wha [5]<|Wh1 Z<|Uu Z Jj Z Z Kl Kl (B2.J (((E1.K E2).K E3).K E4)) Kh ((((F1.K E1).K E2).K E3).K E4) ?_; rintro w14 E5 B2 K4 Z4; have O1 := (O1.J exq).W K4 Kh; have R1 := (R1.J exq).W K4 Kh; refine Wnx E5<|Us 6 Z Z E5<|Yp Ki ?_; refine Vy ?_; rotate_left; exact Ks
        all_goals exact ⟨b2, u3, q1, rfl, B2, u3, q1, rfl, by repeat (first | assumption | refine Ext.trans Kk ?_), O1.rd.wide Kh Kh, R1.rd.wide Kh Kh, V3, N1⟩
      · rw [e] at c5 ⊢
        rw [if_neg Kh]
        focus
          refine Ym<|Yv Z<|Vp<|Yb<|Vr<|Wo Z (Yi Z Z)<|Ya Z<|Vp<|Yt Z fun h4 => ?_; refine Vr<|Wo Z (Yi Z Z)<|Ya Z<|Vp<|Yt Z fun h5 => ?_; refine Vr<|Wo Z (Yi Z Z)<|Ya Z<|Vp<|Yt Z fun h6 => ?_; refine Vr<|Wo Z (Yi Z Z)<|Ya Z<|Vp<|Yt Z fun h7 => ?_; refine Vr<|Wo Z (Yi Z Z)<|Ya Z<|Vp<|Vu Z (fun h8 => ?_) (fun h8 => ?_); refine Vt<|Vr<|Yl Jt Jx Z<|Xw u1 Ju B1 Z<|Vs Z (Xa (a := u1) (b := .int _ _) Vm Z Z) (c5 _ _ (Ku F1 h1)) ?_; rintro _ w10 ⟨rfl, E1⟩; have := E1.Z; refine Yy Z<|Vp<|Vu Z (fun h9 => ?_) (fun h9 => ?_)
          refine Vr<|Uh Jq Jj (B3.J E1) Z<|Uw Jj (B2.J E1) Z (F1.K E1) ?_; rintro w11 E2 B2 K3 Z3; have O1 := (O1.J E1).W K3 Kh; have R1 := (R1.J E1).W K3 Kh; refine Xr Z<|Vp<|Vy ?_; rotate_left; exact Ks; exact Ks
        all_goals exact ⟨b2, u3, q1, rfl, B2, u3, q1, rfl, by repeat (first | assumption | refine Ext.trans Kk ?_), O1.rd.wide Kh Kh, R1.rd.wide Kh Kh, V3, N1⟩
    by_cases g6 : s = [102, 111, 117, 110, 100, 101, 100]
    · have ea : askV d.now s = decDigits (faV d.now).length := by unfold askV; rw [if_neg g1, if_neg g2, if_neg g3, if_neg g4, if_neg g5, if_pos g6]
      rw [ea]
      focus
        refine Ym<|Yv Z<|Vp<|Yb<|Vr<|Wo Z (Yi Z Z)<|Ya Z<|Vp<|Yt Z fun h4 => ?_; refine Vr<|Wo Z (Yi Z Z)<|Ya Z<|Vp<|Yt Z fun h5 => ?_; refine Vr<|Wo Z (Yi Z Z)<|Ya Z<|Vp<|Yt Z fun h6 => ?_; refine Vr<|Wo Z (Yi Z Z)<|Ya Z<|Vp<|Yt Z fun h7 => ?_; refine Vr<|Wo Z (Yi Z Z)<|Ya Z<|Vp<|Yt Z fun h8 => ?_; refine Vr<|Wo Z (Yi Z Z)<|Ya Z<|Vp<|Vu Z (fun h9 => ?_) (fun h9 => ?_); refine Vt<|Rm (fun w' => Ext w w') mixed Z Ki ?_; intro w10 E1 K3 Z3; refine Sw 1 Jt Jx Z Z exq<|Wha [0, 2]<|Yg Z ?_ ?_
        refine Uh Jq Jj (B3.J E1) Z<|Wnx exq<|Wha [2]<|Wh1 Z<|Xw u1 Ju (B1.J E1) Z<|Wnx exq<|Wha [3]<|Wh1 Z<|Vs Z (Xh (a := u1) Tryz.call69 Z) (c6 _ _ (Ku exq h1)) ?_; rintro u4 w11 ⟨E2, O2⟩; have := E2.Z; refine Wnx exq<|Yc 4 Z Ki Ki Z (fun _ _ => Rw Jl Z (Kv O2)) exq ?_; refine Wha [5]<|Wh1 Z<|Vs Z (Xh (a := .int _ _) Gs Z) (cF _) ?_; rintro _ w12 ⟨rfl, E3⟩; have := E3.Z; refine Wnx exq<|Wha [6]<|Wh1 Z<|Uu Z Jj Z Z Kl Kl (B2.J ((E1.K E2).K E3)) Kh (((F1.K E1).K E2).K E3) ?_; rintro w13 E4 B2 K4 Z4; have O1 := (O1.J exq).W K4 Kh; have R1 := (R1.J exq).W K4 Kh
        refine Wnx E4<|Us 7 Z Z E4<|Yp Ki ?_; refine Vy ?_; rotate_left; refine Wh1 Z<|Xw u1 Ju (B1.J E1) Z<|Wnx exq<|Wha [0, 3]<|Yg Z ?_ ?_; refine Uh Jq Jj (B3.J E1) Z<|Wnx exq<|Wha [3]<|Wh1 Z<|Vs Z (Xh (a := u1) Tryz.call69 Z) (c6 _ _ (Ku exq h1)) ?_; rintro u4 w11 ⟨E2, O2⟩; have := E2.Z; refine Wnx exq<|Yc 4 Z Ki Ki Z (fun _ _ => Rw Jl Z (Kv O2)) exq ?_; refine Wha [5]<|Wh1 Z<|Vs Z (Xh (a := .int _ _) Gs Z) (cF _) ?_; rintro _ w12 ⟨rfl, E3⟩; have := E3.Z; refine Wnx exq<|Wha [6]<|Wh1 Z<|Uu Z Jj Z Z Kl Kl (B2.J ((E1.K E2).K E3)) Kh (((F1.K E1).K E2).K E3) ?_
        rintro w13 E4 B2 K4 Z4; have O1 := (O1.J exq).W K4 Kh; have R1 := (R1.J exq).W K4 Kh; refine Wnx E4<|Us 7 Z Z E4<|Yp Ki ?_; refine Vy ?_; rotate_left; refine Wh1 Z<|Vs Z (Xh (a := u1) Tryz.call69 Z) (c6 _ _ (Ku exq h1)) ?_; rintro u4 w11 ⟨E2, O2⟩; have := E2.Z; refine Wnx exq<|Yc 4 Z Ki Ki Z (fun _ _ => Rw Jl Z (Kv O2)) exq ?_; refine Wha [0, 5]<|Yg Z ?_ ?_; refine Uh Jq Jj (B3.J exq) Z<|Wnx exq<|Wha [5]<|Wh1 Z<|Vs Z (Xh (a := .int _ _) Gs Z) (cF _) ?_; rintro _ w12 ⟨rfl, E3⟩; have := E3.Z
        refine Wnx exq<|Wha [6]<|Wh1 Z<|Uu Z Jj Z Z Kl Kl (B2.J ((E1.K E2).K E3)) Kh (((F1.K E1).K E2).K E3) ?_; rintro w13 E4 B2 K4 Z4; have O1 := (O1.J exq).W K4 Kh; have R1 := (R1.J exq).W K4 Kh; refine Wnx E4<|Us 7 Z Z E4<|Yp Ki ?_; refine Vy ?_; rotate_left; refine Wh1 Z<|Vs Z (Xh (a := .int _ _) Gs Z) (cF _) ?_; rintro _ w12 ⟨rfl, E3⟩; have := E3.Z; refine Wnx exq<|Wha [0]<|Wh1 Z<|Uh Jq Jj (B3.J exq) Z<|Wnx exq<|Wha [6]<|Wh1 Z<|Uu Z Jj Z Z Kl Kl (B2.J ((E1.K E2).K E3)) Kh (((F1.K E1).K E2).K E3) ?_; rintro w13 E4 B2 K4 Z4
        have O1 := (O1.J exq).W K4 Kh; have R1 := (R1.J exq).W K4 Kh; refine Wnx E4<|Us 7 Z Z E4<|Yp Ki ?_; refine Vy ?_; rotate_left; exact Ks
      all_goals exact ⟨b2, u3, q1, rfl, B2, u3, q1, rfl, by repeat (first | assumption | refine Ext.trans Kk ?_), O1.rd.wide Kh Kh, R1.rd.wide Kh Kh, V3, N1⟩
    have ea : askV d.now s = if (cutF 32 s).2.2 then ask2 d.now (cutF 32 s).1 (cutF 32 s).2.1 else [119, 104, 97, 116] := by
      unfold askV; rw [if_neg g1, if_neg g2, if_neg g3, if_neg g4, if_neg g5, if_neg g6]
    rw [ea]
    rcases ask_words d.now s with ⟨ps, e1, e2, e3⟩ | ⟨a, r, e1, e2, e3⟩
    · rw [e1] at c7
      rw [e3]
      focus
        refine Ym<|Yv Z<|Vp<|Yb<|Vr<|Wo Z (Yi Z Z)<|Ya Z<|Vp<|Yt Z fun h4 => ?_; refine Vr<|Wo Z (Yi Z Z)<|Ya Z<|Vp<|Yt Z fun h5 => ?_; refine Vr<|Wo Z (Yi Z Z)<|Ya Z<|Vp<|Yt Z fun h6 => ?_; refine Vr<|Wo Z (Yi Z Z)<|Ya Z<|Vp<|Yt Z fun h7 => ?_; refine Vr<|Wo Z (Yi Z Z)<|Ya Z<|Vp<|Yt Z fun h8 => ?_; refine Vr<|Wo Z (Yi Z Z)<|Ya Z<|Vp<|Yt Z fun h9 => ?_; refine Vw<|Vr<|Yv Z<|Vs Z (Xa (a := .string _) (b := .int _ _) Tryz.call70 Z Z) (c7 _) ?_; rintro u4 w10 ⟨E1, O2⟩; have := E1.Z
        refine Uc u4 Z<|Vp<|Vt<|Vr<|Yj u4 Z<|Ys Jv Z (Kv O2)<|Yo Z<|Vp<|Vv Z fun h10 => ?_; refine Vw<|Vr<|Uh Jq Jj (B3.J E1) Z<|Uw Jj (B2.J E1) Z (F1.K E1) ?_; rintro w11 E2 B2 K3 Z3; have O1 := (O1.J E1).W K3 Kh; have R1 := (R1.J E1).W K3 Kh; refine Xr Z<|Vp<|Vy ?_
      all_goals exact ⟨b2, u3, q1, rfl, B2, u3, q1, rfl, by repeat (first | assumption | refine Ext.trans Kk ?_), O1.rd.wide Kh Kh, R1.rd.wide Kh Kh, V3, N1⟩
    · rw [e1] at c7
      rw [e3]
      have c8 : ∀ (w : World) (v : Value), ESl Ints w v d.now → Dz 71 [v, str a, str r] w (Ret w (str (ask2 d.now a r))) := fun w v h => l11Ask_ok w v d.now h hp a r Kh
      have stop30 : True := trivial
      focus
        have szEw1 := F1.Z; refine Ym<|Yv Z<|Vp<|Yb<|Vr<|Wo Z (Yi Z Z)<|Ya Z<|Vp<|Yt Z fun h4 => ?_; refine Vr<|Wo Z (Yi Z Z)<|Ya Z<|Vp<|Yt Z fun h5 => ?_; refine Vr<|Wo Z (Yi Z Z)<|Ya Z<|Vp<|Yt Z fun h6 => ?_; refine Vr<|Wo Z (Yi Z Z)<|Ya Z<|Vp<|Yt Z fun h7 => ?_; refine Vr<|Wo Z (Yi Z Z)<|Ya Z<|Vp<|Yt Z fun h8 => ?_; refine Vr<|Wo Z (Yi Z Z)<|Ya Z<|Vp<|Yt Z fun h9 => ?_; refine Vw<|Vr<|Yv Z<|Vs Z (Xa (a := .string _) (b := .int _ _) Tryz.call70 Z Z) (c7 _) ?_; rintro u4 w10 ⟨E1, O2⟩; have ichO2 := Kx (Je O2); have := E1.Z
        refine Uc u4 Z<|Vp<|Vt<|Vr<|Yj u4 Z<|Ys Jv Z (Kv O2)<|Yo Z<|Vp<|Vu Z (fun h10 => ?_) (fun h10 => ?_); refine Vt ?_; rotate_left; exact Ks
      clear stop30
      obtain ⟨wb, wc, rfl, _⟩ := O2.lit Kp
      focus
        have B3 := (B3.J E1); have B1 := (B1.J E1); have B2 := (B2.J E1); have O1 := (O1.J E1); have R1 := (R1.J E1); have O2 := O2.toB; have F2 := (F1.K E1); clear F1; clear szEw1; clear E1
      have heldS : w = w := rfl
      focus
        refine Rm (fun w' => Ext w w') mixed Z Ki ?_; intro w11 E1 K3 Z3; refine Sw 1 Jt Jx Z Z exq<|WtmS 3 Z Z exq<|Yc 4 Z Ki Ki Z (fun _ _ => Yk (k := 0) Jv Jo Z Z Kh) exq ?_; refine WtmS 6 Z Z exq<|Yc 7 Z Ki Ki Z (fun _ _ => Yk (k := 1) Jv Jo Z Z Kh) exq ?_; refine Wha [0, 2, 5, 8]<|Yg Z ?_ ?_; refine Uh Jq Jj (B3.J E1) Z<|Wnx exq<|Wha [2, 5, 8]<|Yg Z ?_ ?_; refine Xw u1 Ju (B1.J E1) Z<|Wnx exq<|Wha [5, 8]<|Yg Z ?_ ?_; refine Qa Jp Z Z (Ku E1 (Kw O2)) Km ?_; rintro _ ⟨rfl, -⟩
        refine Wnx exq<|Wha [8]<|Wh1 Z<|Qa Jp Z Z (Ku E1 (Kw O2)) Km ?_; rintro _ ⟨rfl, -⟩; refine Wnx exq<|Wha [9]<|Wh1 Z<|Vs Z (Qq (a := u1) (b := .string _) (c := .string _) Gg Z Z Z) (c8 _ _ (Ku exq h1)) ?_; rintro _ w12 ⟨rfl, E2⟩; have := E2.Z; refine Wnx exq<|Wha [10]<|Wh1 Z<|Uw Jj (B2.J (E1.K E2)) Z ((F2.K E1).K E2) ?_; rintro w13 E3 B2 K4 Z4; have O1 := (O1.J exq).W K4 Kh; have R1 := (R1.J exq).W K4 Kh; refine Wnx E3<|Us 11 Z Z E3<|Yp Ki ?_; refine Vy ?_; rotate_left; refine Wh1 Z<|Qa Jp Z Z (Ku E1 (Kw O2)) Km ?_; rintro _ ⟨rfl, -⟩
        refine Wnx exq<|Wha [5]<|Wh1 Z<|Qa Jp Z Z (Ku E1 (Kw O2)) Km ?_; rintro _ ⟨rfl, -⟩; refine Wnx exq<|Wha [9]<|Wh1 Z<|Vs Z (Qq (a := u1) (b := .string _) (c := .string _) Gg Z Z Z) (c8 _ _ (Ku exq h1)) ?_; rintro _ w12 ⟨rfl, E2⟩; have := E2.Z; refine Wnx exq<|Wha [10]<|Wh1 Z<|Uw Jj (B2.J (E1.K E2)) Z ((F2.K E1).K E2) ?_; rintro w13 E3 B2 K4 Z4; have O1 := (O1.J exq).W K4 Kh; have R1 := (R1.J exq).W K4 Kh; refine Wnx E3<|Us 11 Z Z E3<|Yp Ki ?_; refine Vy ?_; rotate_left; refine Yg Z ?_ ?_; refine Qa Jp Z Z (Ku E1 (Kw O2)) Km ?_; rintro _ ⟨rfl, -⟩
        refine Wnx exq<|Wha [2, 8]<|Yg Z ?_ ?_; refine Xw u1 Ju (B1.J E1) Z<|Wnx exq<|Wha [8]<|Wh1 Z<|Qa Jp Z Z (Ku E1 (Kw O2)) Km ?_; rintro _ ⟨rfl, -⟩; refine Wnx exq<|Wha [9]<|Wh1 Z<|Vs Z (Qq (a := u1) (b := .string _) (c := .string _) Gg Z Z Z) (c8 _ _ (Ku exq h1)) ?_; rintro _ w12 ⟨rfl, E2⟩; have := E2.Z; refine Wnx exq<|Wha [10]<|Wh1 Z<|Uw Jj (B2.J (E1.K E2)) Z ((F2.K E1).K E2) ?_; rintro w13 E3 B2 K4 Z4; have O1 := (O1.J exq).W K4 Kh; have R1 := (R1.J exq).W K4 Kh; refine Wnx E3<|Us 11 Z Z E3<|Yp Ki ?_; refine Vy ?_; rotate_left
        refine Wh1 Z<|Qa Jp Z Z (Ku E1 (Kw O2)) Km ?_; rintro _ ⟨rfl, -⟩; refine Wnx exq<|Wha [2]<|Wh1 Z<|Xw u1 Ju (B1.J E1) Z<|Wnx exq<|Wha [9]<|Wh1 Z<|Vs Z (Qq (a := u1) (b := .string _) (c := .string _) Gg Z Z Z) (c8 _ _ (Ku exq h1)) ?_; rintro _ w12 ⟨rfl, E2⟩; have := E2.Z; refine Wnx exq<|Wha [10]<|Wh1 Z<|Uw Jj (B2.J (E1.K E2)) Z ((F2.K E1).K E2) ?_; rintro w13 E3 B2 K4 Z4; have O1 := (O1.J exq).W K4 Kh; have R1 := (R1.J exq).W K4 Kh; refine Wnx E3<|Us 11 Z Z E3<|Yp Ki ?_; refine Vy ?_; rotate_left; refine Wh1 Z<|Qa Jp Z Z (Ku E1 (Kw O2)) Km ?_; rintro _ ⟨rfl, -⟩
        refine Wnx exq<|Wha [2, 5]<|Yg Z ?_ ?_; refine Xw u1 Ju (B1.J E1) Z<|Wnx exq<|Wha [5]<|Wh1 Z<|Qa Jp Z Z (Ku E1 (Kw O2)) Km ?_; rintro _ ⟨rfl, -⟩; refine Wnx exq<|Wha [9]<|Wh1 Z<|Vs Z (Qq (a := u1) (b := .string _) (c := .string _) Gg Z Z Z) (c8 _ _ (Ku exq h1)) ?_; rintro _ w12 ⟨rfl, E2⟩; have := E2.Z; refine Wnx exq<|Wha [10]<|Wh1 Z<|Uw Jj (B2.J (E1.K E2)) Z ((F2.K E1).K E2) ?_; rintro w13 E3 B2 K4 Z4; have O1 := (O1.J exq).W K4 Kh; have R1 := (R1.J exq).W K4 Kh; refine Wnx E3<|Us 11 Z Z E3<|Yp Ki ?_; refine Vy ?_; rotate_left
        refine Wh1 Z<|Qa Jp Z Z (Ku E1 (Kw O2)) Km ?_; rintro _ ⟨rfl, -⟩; refine Wnx exq<|Wha [2]<|Wh1 Z<|Xw u1 Ju (B1.J E1) Z<|Wnx exq<|Wha [9]<|Wh1 Z<|Vs Z (Qq (a := u1) (b := .string _) (c := .string _) Gg Z Z Z) (c8 _ _ (Ku exq h1)) ?_; rintro _ w12 ⟨rfl, E2⟩; have := E2.Z; refine Wnx exq<|Wha [10]<|Wh1 Z<|Uw Jj (B2.J (E1.K E2)) Z ((F2.K E1).K E2) ?_; rintro w13 E3 B2 K4 Z4; have O1 := (O1.J exq).W K4 Kh; have R1 := (R1.J exq).W K4 Kh; refine Wnx E3<|Us 11 Z Z E3<|Yp Ki ?_; refine Vy ?_; rotate_left; refine Yg Z ?_ ?_; refine Xw u1 Ju (B1.J E1) Z<|Wnx exq<|Wha [0, 5, 8]<|Yg Z ?_ ?_
        refine Uh Jq Jj (B3.J E1) Z<|Wnx exq<|Wha [5, 8]<|Yg Z ?_ ?_; refine Qa Jp Z Z (Ku E1 (Kw O2)) Km ?_; rintro _ ⟨rfl, -⟩; refine Wnx exq<|Wha [8]<|Wh1 Z<|Qa Jp Z Z (Ku E1 (Kw O2)) Km ?_; rintro _ ⟨rfl, -⟩; refine Wnx exq<|Wha [9]<|Wh1 Z<|Vs Z (Qq (a := u1) (b := .string _) (c := .string _) Gg Z Z Z) (c8 _ _ (Ku exq h1)) ?_; rintro _ w12 ⟨rfl, E2⟩; have := E2.Z; refine Wnx exq<|Wha [10]<|Wh1 Z<|Uw Jj (B2.J (E1.K E2)) Z ((F2.K E1).K E2) ?_; rintro w13 E3 B2 K4 Z4; have O1 := (O1.J exq).W K4 Kh; have R1 := (R1.J exq).W K4 Kh; refine Wnx E3<|Us 11 Z Z E3<|Yp Ki ?_
        refine Vy ?_; rotate_left; refine Wh1 Z<|Qa Jp Z Z (Ku E1 (Kw O2)) Km ?_; rintro _ ⟨rfl, -⟩; refine Wnx exq<|Wha [5]<|Wh1 Z<|Qa Jp Z Z (Ku E1 (Kw O2)) Km ?_; rintro _ ⟨rfl, -⟩; refine Wnx exq<|Wha [9]<|Wh1 Z<|Vs Z (Qq (a := u1) (b := .string _) (c := .string _) Gg Z Z Z) (c8 _ _ (Ku exq h1)) ?_; rintro _ w12 ⟨rfl, E2⟩; have := E2.Z; refine Wnx exq<|Wha [10]<|Wh1 Z<|Uw Jj (B2.J (E1.K E2)) Z ((F2.K E1).K E2) ?_; rintro w13 E3 B2 K4 Z4; have O1 := (O1.J exq).W K4 Kh; have R1 := (R1.J exq).W K4 Kh; refine Wnx E3<|Us 11 Z Z E3<|Yp Ki ?_; refine Vy ?_; rotate_left; refine Yg Z ?_ ?_
        refine Qa Jp Z Z (Ku E1 (Kw O2)) Km ?_; rintro _ ⟨rfl, -⟩; refine Wnx exq<|Wha [0, 8]<|Yg Z ?_ ?_; refine Uh Jq Jj (B3.J E1) Z<|Wnx exq<|Wha [8]<|Wh1 Z<|Qa Jp Z Z (Ku E1 (Kw O2)) Km ?_; rintro _ ⟨rfl, -⟩; refine Wnx exq<|Wha [9]<|Wh1 Z<|Vs Z (Qq (a := u1) (b := .string _) (c := .string _) Gg Z Z Z) (c8 _ _ (Ku exq h1)) ?_; rintro _ w12 ⟨rfl, E2⟩; have := E2.Z; refine Wnx exq<|Wha [10]<|Wh1 Z<|Uw Jj (B2.J (E1.K E2)) Z ((F2.K E1).K E2) ?_; rintro w13 E3 B2 K4 Z4; have O1 := (O1.J exq).W K4 Kh; have R1 := (R1.J exq).W K4 Kh; refine Wnx E3<|Us 11 Z Z E3<|Yp Ki ?_
        refine Vy ?_; rotate_left; refine Wh1 Z<|Qa Jp Z Z (Ku E1 (Kw O2)) Km ?_; rintro _ ⟨rfl, -⟩; refine Wnx exq<|Wha [0, 9]<|Yg Z ?_ ?_; refine Uh Jq Jj (B3.J E1) Z<|Wnx exq<|Wha [9]<|Wh1 Z<|Vs Z (Qq (a := u1) (b := .string _) (c := .string _) Gg Z Z Z) (c8 _ _ (Ku exq h1)) ?_; rintro _ w12 ⟨rfl, E2⟩; have := E2.Z; refine Wnx exq<|Wha [10]<|Wh1 Z<|Uw Jj (B2.J (E1.K E2)) Z ((F2.K E1).K E2) ?_; rintro w13 E3 B2 K4 Z4; have O1 := (O1.J exq).W K4 Kh; have R1 := (R1.J exq).W K4 Kh; refine Wnx E3<|Us 11 Z Z E3<|Yp Ki ?_; refine Vy ?_; rotate_left
        refine Wh1 Z<|Vs Z (Qq (a := u1) (b := .string _) (c := .string _) Gg Z Z Z) (c8 _ _ (Ku exq h1)) ?_; rintro _ w12 ⟨rfl, E2⟩; have := E2.Z; refine Wnx exq<|Wha [0]<|Wh1 Z<|Uh Jq Jj (B3.J exq) Z<|Wnx exq<|Wha [10]<|Wh1 Z<|Uw Jj (B2.J (E1.K E2)) Z ((F2.K E1).K E2) ?_; rintro w13 E3 B2 K4 Z4; have O1 := (O1.J exq).W K4 Kh; have R1 := (R1.J exq).W K4 Kh; refine Wnx E3<|Us 11 Z Z E3<|Yp Ki ?_; refine Vy ?_; rotate_left; refine Wh1 Z<|Qa Jp Z Z (Ku E1 (Kw O2)) Km ?_; rintro _ ⟨rfl, -⟩; refine Wnx exq<|Wha [0, 5]<|Yg Z ?_ ?_
        refine Uh Jq Jj (B3.J E1) Z<|Wnx exq<|Wha [5]<|Wh1 Z<|Qa Jp Z Z (Ku E1 (Kw O2)) Km ?_; rintro _ ⟨rfl, -⟩; refine Wnx exq<|Wha [9]<|Wh1 Z<|Vs Z (Qq (a := u1) (b := .string _) (c := .string _) Gg Z Z Z) (c8 _ _ (Ku exq h1)) ?_; rintro _ w12 ⟨rfl, E2⟩; have := E2.Z; refine Wnx exq<|Wha [10]<|Wh1 Z<|Uw Jj (B2.J (E1.K E2)) Z ((F2.K E1).K E2) ?_; rintro w13 E3 B2 K4 Z4; have O1 := (O1.J exq).W K4 Kh; have R1 := (R1.J exq).W K4 Kh; refine Wnx E3<|Us 11 Z Z E3<|Yp Ki ?_; refine Vy ?_; rotate_left; refine Wh1 Z<|Qa Jp Z Z (Ku E1 (Kw O2)) Km ?_; rintro _ ⟨rfl, -⟩
        refine Wnx exq<|Wha [0, 9]<|Yg Z ?_ ?_; refine Uh Jq Jj (B3.J E1) Z<|Wnx exq<|Wha [9]<|Wh1 Z<|Vs Z (Qq (a := u1) (b := .string _) (c := .string _) Gg Z Z Z) (c8 _ _ (Ku exq h1)) ?_; rintro _ w12 ⟨rfl, E2⟩; have := E2.Z; refine Wnx exq<|Wha [10]<|Wh1 Z<|Uw Jj (B2.J (E1.K E2)) Z ((F2.K E1).K E2) ?_; rintro w13 E3 B2 K4 Z4; have O1 := (O1.J exq).W K4 Kh; have R1 := (R1.J exq).W K4 Kh; refine Wnx E3<|Us 11 Z Z E3<|Yp Ki ?_; refine Vy ?_; rotate_left; refine Wh1 Z<|Vs Z (Qq (a := u1) (b := .string _) (c := .string _) Gg Z Z Z) (c8 _ _ (Ku exq h1)) ?_; rintro _ w12 ⟨rfl, E2⟩; have := E2.Z
        refine Wnx exq<|Wha [0]<|Wh1 Z<|Uh Jq Jj (B3.J exq) Z<|Wnx exq<|Wha [10]<|Wh1 Z<|Uw Jj (B2.J (E1.K E2)) Z ((F2.K E1).K E2) ?_; rintro w13 E3 B2 K4 Z4; have O1 := (O1.J exq).W K4 Kh; have R1 := (R1.J exq).W K4 Kh; refine Wnx E3<|Us 11 Z Z E3<|Yp Ki ?_; refine Vy ?_; rotate_left; refine Yg Z ?_ ?_; refine Qa Jp Z Z (Ku E1 (Kw O2)) Km ?_; rintro _ ⟨rfl, -⟩; refine Wnx exq<|Wha [0, 2, 8]<|Yg Z ?_ ?_; refine Uh Jq Jj (B3.J E1) Z<|Wnx exq<|Wha [2, 8]<|Yg Z ?_ ?_
        refine Xw u1 Ju (B1.J E1) Z<|Wnx exq<|Wha [8]<|Wh1 Z<|Qa Jp Z Z (Ku E1 (Kw O2)) Km ?_; rintro _ ⟨rfl, -⟩; refine Wnx exq<|Wha [9]<|Wh1 Z<|Vs Z (Qq (a := u1) (b := .string _) (c := .string _) Gg Z Z Z) (c8 _ _ (Ku exq h1)) ?_; rintro _ w12 ⟨rfl, E2⟩; have := E2.Z; refine Wnx exq<|Wha [10]<|Wh1 Z<|Uw Jj (B2.J (E1.K E2)) Z ((F2.K E1).K E2) ?_; rintro w13 E3 B2 K4 Z4; have O1 := (O1.J exq).W K4 Kh; have R1 := (R1.J exq).W K4 Kh; refine Wnx E3<|Us 11 Z Z E3<|Yp Ki ?_; refine Vy ?_; rotate_left; refine Wh1 Z<|Qa Jp Z Z (Ku E1 (Kw O2)) Km ?_; rintro _ ⟨rfl, -⟩
        refine Wnx exq<|Wha [2]<|Wh1 Z<|Xw u1 Ju (B1.J E1) Z<|Wnx exq<|Wha [9]<|Wh1 Z<|Vs Z (Qq (a := u1) (b := .string _) (c := .string _) Gg Z Z Z) (c8 _ _ (Ku exq h1)) ?_; rintro _ w12 ⟨rfl, E2⟩; have := E2.Z; refine Wnx exq<|Wha [10]<|Wh1 Z<|Uw Jj (B2.J (E1.K E2)) Z ((F2.K E1).K E2) ?_; rintro w13 E3 B2 K4 Z4; have O1 := (O1.J exq).W K4 Kh; have R1 := (R1.J exq).W K4 Kh; refine Wnx E3<|Us 11 Z Z E3<|Yp Ki ?_; refine Vy ?_; rotate_left; refine Yg Z ?_ ?_; refine Xw u1 Ju (B1.J E1) Z<|Wnx exq<|Wha [0, 8]<|Yg Z ?_ ?_
        refine Uh Jq Jj (B3.J E1) Z<|Wnx exq<|Wha [8]<|Wh1 Z<|Qa Jp Z Z (Ku E1 (Kw O2)) Km ?_; rintro _ ⟨rfl, -⟩; refine Wnx exq<|Wha [9]<|Wh1 Z<|Vs Z (Qq (a := u1) (b := .string _) (c := .string _) Gg Z Z Z) (c8 _ _ (Ku exq h1)) ?_; rintro _ w12 ⟨rfl, E2⟩; have := E2.Z; refine Wnx exq<|Wha [10]<|Wh1 Z<|Uw Jj (B2.J (E1.K E2)) Z ((F2.K E1).K E2) ?_; rintro w13 E3 B2 K4 Z4; have O1 := (O1.J exq).W K4 Kh; have R1 := (R1.J exq).W K4 Kh; refine Wnx E3<|Us 11 Z Z E3<|Yp Ki ?_; refine Vy ?_; rotate_left; refine Wh1 Z<|Qa Jp Z Z (Ku E1 (Kw O2)) Km ?_; rintro _ ⟨rfl, -⟩
        refine Wnx exq<|Wha [0, 9]<|Yg Z ?_ ?_; refine Uh Jq Jj (B3.J E1) Z<|Wnx exq<|Wha [9]<|Wh1 Z<|Vs Z (Qq (a := u1) (b := .string _) (c := .string _) Gg Z Z Z) (c8 _ _ (Ku exq h1)) ?_; rintro _ w12 ⟨rfl, E2⟩; have := E2.Z; refine Wnx exq<|Wha [10]<|Wh1 Z<|Uw Jj (B2.J (E1.K E2)) Z ((F2.K E1).K E2) ?_; rintro w13 E3 B2 K4 Z4; have O1 := (O1.J exq).W K4 Kh; have R1 := (R1.J exq).W K4 Kh; refine Wnx E3<|Us 11 Z Z E3<|Yp Ki ?_; refine Vy ?_; rotate_left; refine Wh1 Z<|Vs Z (Qq (a := u1) (b := .string _) (c := .string _) Gg Z Z Z) (c8 _ _ (Ku exq h1)) ?_; rintro _ w12 ⟨rfl, E2⟩; have := E2.Z
        refine Wnx exq<|Wha [0]<|Wh1 Z<|Uh Jq Jj (B3.J exq) Z<|Wnx exq<|Wha [10]<|Wh1 Z<|Uw Jj (B2.J (E1.K E2)) Z ((F2.K E1).K E2) ?_; rintro w13 E3 B2 K4 Z4; have O1 := (O1.J exq).W K4 Kh; have R1 := (R1.J exq).W K4 Kh; refine Wnx E3<|Us 11 Z Z E3<|Yp Ki ?_; refine Vy ?_; rotate_left; refine Wh1 Z<|Qa Jp Z Z (Ku E1 (Kw O2)) Km ?_; rintro _ ⟨rfl, -⟩; refine Wnx exq<|Wha [0, 2]<|Yg Z ?_ ?_; refine Uh Jq Jj (B3.J E1) Z<|Wnx exq<|Wha [2]<|Wh1 Z<|Xw u1 Ju (B1.J E1) Z<|Wnx exq<|Wha [9]<|Wh1 Z<|Vs Z (Qq (a := u1) (b := .string _) (c := .string _) Gg Z Z Z) (c8 _ _ (Ku exq h1)) ?_
        rintro _ w12 ⟨rfl, E2⟩; have := E2.Z; refine Wnx exq<|Wha [10]<|Wh1 Z<|Uw Jj (B2.J (E1.K E2)) Z ((F2.K E1).K E2) ?_; rintro w13 E3 B2 K4 Z4; have O1 := (O1.J exq).W K4 Kh; have R1 := (R1.J exq).W K4 Kh; refine Wnx E3<|Us 11 Z Z E3<|Yp Ki ?_; refine Vy ?_; rotate_left; refine Wh1 Z<|Xw u1 Ju (B1.J E1) Z<|Wnx exq<|Wha [0, 9]<|Yg Z ?_ ?_; refine Uh Jq Jj (B3.J E1) Z<|Wnx exq<|Wha [9]<|Wh1 Z<|Vs Z (Qq (a := u1) (b := .string _) (c := .string _) Gg Z Z Z) (c8 _ _ (Ku exq h1)) ?_; rintro _ w12 ⟨rfl, E2⟩; have := E2.Z; refine Wnx exq<|Wha [10]<|Wh1 Z<|Uw Jj (B2.J (E1.K E2)) Z ((F2.K E1).K E2) ?_; rintro w13 E3 B2 K4 Z4
        have O1 := (O1.J exq).W K4 Kh; have R1 := (R1.J exq).W K4 Kh; refine Wnx E3<|Us 11 Z Z E3<|Yp Ki ?_; refine Vy ?_; rotate_left; refine Wh1 Z<|Vs Z (Qq (a := u1) (b := .string _) (c := .string _) Gg Z Z Z) (c8 _ _ (Ku exq h1)) ?_; rintro _ w12 ⟨rfl, E2⟩; have := E2.Z; refine Wnx exq<|Wha [0]<|Wh1 Z<|Uh Jq Jj (B3.J exq) Z<|Wnx exq<|Wha [10]<|Wh1 Z<|Uw Jj (B2.J (E1.K E2)) Z ((F2.K E1).K E2) ?_; rintro w13 E3 B2 K4 Z4; have O1 := (O1.J exq).W K4 Kh; have R1 := (R1.J exq).W K4 Kh; refine Wnx E3<|Us 11 Z Z E3<|Yp Ki ?_; refine Vy ?_; rotate_left
        refine Wh1 Z<|Qa Jp Z Z (Ku E1 (Kw O2)) Km ?_; rintro _ ⟨rfl, -⟩; refine Wnx exq<|Wha [0, 2, 5]<|Yg Z ?_ ?_; refine Uh Jq Jj (B3.J E1) Z<|Wnx exq<|Wha [2, 5]<|Yg Z ?_ ?_; refine Xw u1 Ju (B1.J E1) Z<|Wnx exq<|Wha [5]<|Wh1 Z<|Qa Jp Z Z (Ku E1 (Kw O2)) Km ?_; rintro _ ⟨rfl, -⟩; refine Wnx exq<|Wha [9]<|Wh1 Z<|Vs Z (Qq (a := u1) (b := .string _) (c := .string _) Gg Z Z Z) (c8 _ _ (Ku exq h1)) ?_; rintro _ w12 ⟨rfl, E2⟩; have := E2.Z; refine Wnx exq<|Wha [10]<|Wh1 Z<|Uw Jj (B2.J (E1.K E2)) Z ((F2.K E1).K E2) ?_; rintro w13 E3 B2 K4 Z4; have O1 := (O1.J exq).W K4 Kh
        have R1 := (R1.J exq).W K4 Kh; refine Wnx E3<|Us 11 Z Z E3<|Yp Ki ?_; refine Vy ?_; rotate_left; refine Wh1 Z<|Qa Jp Z Z (Ku E1 (Kw O2)) Km ?_; rintro _ ⟨rfl, -⟩; refine Wnx exq<|Wha [2]<|Wh1 Z<|Xw u1 Ju (B1.J E1) Z<|Wnx exq<|Wha [9]<|Wh1 Z<|Vs Z (Qq (a := u1) (b := .string _) (c := .string _) Gg Z Z Z) (c8 _ _ (Ku exq h1)) ?_; rintro _ w12 ⟨rfl, E2⟩; have := E2.Z; refine Wnx exq<|Wha [10]<|Wh1 Z<|Uw Jj (B2.J (E1.K E2)) Z ((F2.K E1).K E2) ?_; rintro w13 E3 B2 K4 Z4; have O1 := (O1.J exq).W K4 Kh; have R1 := (R1.J exq).W K4 Kh; refine Wnx E3<|Us 11 Z Z E3<|Yp Ki ?_; refine Vy ?_; rotate_left
        refine Yg Z ?_ ?_; refine Xw u1 Ju (B1.J E1) Z<|Wnx exq<|Wha [0, 5]<|Yg Z ?_ ?_; refine Uh Jq Jj (B3.J E1) Z<|Wnx exq<|Wha [5]<|Wh1 Z<|Qa Jp Z Z (Ku E1 (Kw O2)) Km ?_; rintro _ ⟨rfl, -⟩; refine Wnx exq<|Wha [9]<|Wh1 Z<|Vs Z (Qq (a := u1) (b := .string _) (c := .string _) Gg Z Z Z) (c8 _ _ (Ku exq h1)) ?_; rintro _ w12 ⟨rfl, E2⟩; have := E2.Z; refine Wnx exq<|Wha [10]<|Wh1 Z<|Uw Jj (B2.J (E1.K E2)) Z ((F2.K E1).K E2) ?_; rintro w13 E3 B2 K4 Z4; have O1 := (O1.J exq).W K4 Kh; have R1 := (R1.J exq).W K4 Kh; refine Wnx E3<|Us 11 Z Z E3<|Yp Ki ?_; refine Vy ?_; rotate_left
        refine Wh1 Z<|Qa Jp Z Z (Ku E1 (Kw O2)) Km ?_; rintro _ ⟨rfl, -⟩; refine Wnx exq<|Wha [0, 9]<|Yg Z ?_ ?_; refine Uh Jq Jj (B3.J E1) Z<|Wnx exq<|Wha [9]<|Wh1 Z<|Vs Z (Qq (a := u1) (b := .string _) (c := .string _) Gg Z Z Z) (c8 _ _ (Ku exq h1)) ?_; rintro _ w12 ⟨rfl, E2⟩; have := E2.Z; refine Wnx exq<|Wha [10]<|Wh1 Z<|Uw Jj (B2.J (E1.K E2)) Z ((F2.K E1).K E2) ?_; rintro w13 E3 B2 K4 Z4; have O1 := (O1.J exq).W K4 Kh; have R1 := (R1.J exq).W K4 Kh; refine Wnx E3<|Us 11 Z Z E3<|Yp Ki ?_; refine Vy ?_; rotate_left
        refine Wh1 Z<|Vs Z (Qq (a := u1) (b := .string _) (c := .string _) Gg Z Z Z) (c8 _ _ (Ku exq h1)) ?_; rintro _ w12 ⟨rfl, E2⟩; have := E2.Z; refine Wnx exq<|Wha [0]<|Wh1 Z<|Uh Jq Jj (B3.J exq) Z<|Wnx exq<|Wha [10]<|Wh1 Z<|Uw Jj (B2.J (E1.K E2)) Z ((F2.K E1).K E2) ?_; rintro w13 E3 B2 K4 Z4; have O1 := (O1.J exq).W K4 Kh; have R1 := (R1.J exq).W K4 Kh; refine Wnx E3<|Us 11 Z Z E3<|Yp Ki ?_; refine Vy ?_; rotate_left; refine Wh1 Z<|Qa Jp Z Z (Ku E1 (Kw O2)) Km ?_; rintro _ ⟨rfl, -⟩; refine Wnx exq<|Wha [0, 2]<|Yg Z ?_ ?_
        refine Uh Jq Jj (B3.J E1) Z<|Wnx exq<|Wha [2]<|Wh1 Z<|Xw u1 Ju (B1.J E1) Z<|Wnx exq<|Wha [9]<|Wh1 Z<|Vs Z (Qq (a := u1) (b := .string _) (c := .string _) Gg Z Z Z) (c8 _ _ (Ku exq h1)) ?_; rintro _ w12 ⟨rfl, E2⟩; have := E2.Z; refine Wnx exq<|Wha [10]<|Wh1 Z<|Uw Jj (B2.J (E1.K E2)) Z ((F2.K E1).K E2) ?_; rintro w13 E3 B2 K4 Z4; have O1 := (O1.J exq).W K4 Kh; have R1 := (R1.J exq).W K4 Kh; refine Wnx E3<|Us 11 Z Z E3<|Yp Ki ?_; refine Vy ?_; rotate_left; refine Wh1 Z<|Xw u1 Ju (B1.J E1) Z<|Wnx exq<|Wha [0, 9]<|Yg Z ?_ ?_
        refine Uh Jq Jj (B3.J E1) Z<|Wnx exq<|Wha [9]<|Wh1 Z<|Vs Z (Qq (a := u1) (b := .string _) (c := .string _) Gg Z Z Z) (c8 _ _ (Ku exq h1)) ?_; rintro _ w12 ⟨rfl, E2⟩; have := E2.Z; refine Wnx exq<|Wha [10]<|Wh1 Z<|Uw Jj (B2.J (E1.K E2)) Z ((F2.K E1).K E2) ?_; rintro w13 E3 B2 K4 Z4; have O1 := (O1.J exq).W K4 Kh; have R1 := (R1.J exq).W K4 Kh; refine Wnx E3<|Us 11 Z Z E3<|Yp Ki ?_; refine Vy ?_; rotate_left; refine Wh1 Z<|Vs Z (Qq (a := u1) (b := .string _) (c := .string _) Gg Z Z Z) (c8 _ _ (Ku exq h1)) ?_; rintro _ w12 ⟨rfl, E2⟩; have := E2.Z
        refine Wnx exq<|Wha [0]<|Wh1 Z<|Uh Jq Jj (B3.J exq) Z<|Wnx exq<|Wha [10]<|Wh1 Z<|Uw Jj (B2.J (E1.K E2)) Z ((F2.K E1).K E2) ?_; rintro w13 E3 B2 K4 Z4; have O1 := (O1.J exq).W K4 Kh; have R1 := (R1.J exq).W K4 Kh; refine Wnx E3<|Us 11 Z Z E3<|Yp Ki ?_; refine Vy ?_; rotate_left
      all_goals exact ⟨b2, u3, q1, rfl, B2, u3, q1, rfl, by repeat (first | assumption | refine Ext.trans Kk ?_), O1.rd.wide Kh Kh, R1.rd.wide Kh Kh, V3, N1⟩
 ·rw [show dlV d s=(⟨[],[]⟩,[]) from if_neg hd]
  have k0 : ∀ w,ESl Ints w u1 d.now→ESl (ESl Ints) w u2 d.past→Dz 16 [.agg #[u1,u2]] w (Ret w (.bool false)):=fun w h1 h2=>by
   have:=Sa w u1 u2 d h1 h2;rwa [decide_eq_false hd] at this
  focus
   refine Vr<|Xu Z Z Z ?_;rintro b1 w1 H1 E1 B1;have:=B1.lt;refine Xk Z Ug ?_;rintro b2 w2 H2 E2 B2;refine Xr Z<|Vp<|Vt<|Vr<|Uh Jq Jj (B1.J E2) Z<|Vs Z (Xh (a:=.agg _) Gv Z) (k0 _ (Ku exq h1) (Ku exq h2)) ?_;rintro _ w3 ⟨rfl,E3⟩;refine Xz Z<|Vp<|Up Z (fun h3=>?_) (fun h3=>?_);refine Vr<|Wo Z (Yu (ps:=[]) (cs:=[_,_]) Ug Z Z)<|Uw Jj (B2.J E3) Z ((E1.K E2).K E3) ?_;rintro w4 E4 B2 K1 Z1;have E5:=(E2.K E3).A exq E4 K1 Z1 Kh;have:=E5.Z;refine Xr Z<|Vp<|Vy ?_;rotate_left;exact Ks
  exact ⟨b2,_,_,rfl,B2,_,_,rfl,by exact E4,nil1 _ _ Kh,nil2 _ _ Kh,rfl,rfl⟩
theorem sameDesk_ok (w:World) (u1 u2 v1 v2:Value) (p p':List (List Int)) (q q':List (List (List Int))) (h1:ESl Ints w u1 p) (h2:ESl (ESl Ints) w u2 q) (h3:ESl Ints w v1 p') (h4:ESl (ESl Ints) w v2 q') :
  Dz 15 [.agg #[u1,u2],.agg #[v1,v2]] w (Ret w (.bool (decide (p=p'∧q=q')))):=by
 have V1:isCell u1=true:=Qy h1
 have V2:isCell u2=true:=Qy h2
 have icv1:isCell v1=true:=Qy h3
 have icv2:isCell v2=true:=Qy h4
 have hle:=h2.le
 have hle':=h4.le
 refine Yr Tryz.func15 Z Tryz.results15 Tryz.ntmps15 Z ?_
 focus
  refine Vr<|Xu Z Z Z ?_;rintro b1 w1 H1 E1 B1;refine Xu Z Z Z ?_;rintro b2 w2 H2 E2 B2;refine Ya Z<|Vp<|Vt<|Vr<|Yl Jt Ga Z<|Xw u2 Gd (B1.J E2) Z<|Ys Gc Z h2<|Yl Jt Ga Z<|Xw v2 Gd B2 Z<|Ys Gc Z h4<|Qg Z<|Vp<|Xn Z (fun h5=>?_) (fun h5=>?_);refine Vr<|Ya Z<|Vp<|Vy ?_;refine Yh (v:=.bool _) Z ?_;refine ⟨congrArg Value.bool ?_,exq⟩;rotate_left;refine Vw<|Vt<|Vr<|Yx Z<|Vp<|Yb ?_;rotate_left
 ·exact (Jc (fun e=>by obtain ⟨_,e⟩:=e;subst e;omega)).symm
 refine Xt [4,5,13,14,15,16,17,18,19,20,21,22,23,24,25,26,27,28,29,30,31] (fun (k:Nat)=>[(5,.int .i64 (k:Nat))]) (fun k w'=>Ext w2 w'∧k≤q.length∧q.take k=q'.take k) (fun x=>q.length - x) 0 Kn ?_ ?_
 ·exact ⟨Jf _,Ja _,Kp⟩
 rintro k ρj w3 ⟨E3,hk,he⟩
 focus
  refine Vt<|Vr<|Vz Z<|Yl Jt Ga Z<|Xw u2 Gd (B1.J exq) Z<|Ys Gc Z h2<|Yy Z<|Vp<|Vu Z (fun h6=>?_) (fun h6=>?_);refine Vw<|Vt<|Yb<|Vt<|Qe mixed Ki Z ?_;refine Qu Jt Ga Z<|Uq (v:=u2) Z (fun w' hw'=>Xd Gd Z (((B1.J exq).J hw').cell Z)) ?_;refine Sv Z<|Qf Gc Jx Ju Z (fun _=>Z) Z h2 exq Z Km ?_;rintro _ u3 C1;refine Qu Jt Ga Z<|Uq (v:=v2) Z (fun w' hw'=>Xd Gd Z (((B2.J E3).J hw').cell Z)) ?_
  refine Sv Z<|Qf Gc Jx Ju Z (fun _=>Z) Z h4 exq Z Km ?_;rintro _ u4 C2;refine Rb Z (fun _ _=>Xa (a:=u3) (b:=u4) Tryz.call72 Z Z) (fun w' hw'=>(sameRows_ok _ _ _ _ _ (Ku exq C1) (Ku exq C2))) ?_;refine Mi Z<|Ux (fun w4 E4=>?_);refine Xn Z (fun h7=>?_) (fun h7=>?_);refine Vr<|Ya Z<|Vp<|Vy ?_;refine Yh (v:=.bool _) Z ?_;refine ⟨congrArg Value.bool ?_,exq⟩;rotate_left;refine Vw<|Ym<|Vz Z<|Xf Z<|Yx Z<|Vp ?_;rotate_left;refine Xm ?_;refine Yn ?_
  refine Vr<|Yl Jt Jx Z<|Xw u1 Ju (B1.J exq) Z<|Yl Jt Jx Z<|Xw v1 Ju (B2.J E3) Z<|Vs Z (Xa (a:=u1) (b:=v1) Tryz.call72 Z Z) (sameRows_ok _ _ _ _ _ (Ku exq h1) (Ku exq h3)) ?_;rintro _ w4 ⟨rfl,E4⟩;refine Ya Z<|Vp<|Vy ?_;refine Yh (v:=.bool _) Z ?_;refine ⟨congrArg Value.bool ?_,exq⟩;rotate_left
 ·exact (Jc (fun e=>ne_at (k:=k) Kh Kh Kk e.2)).symm
 ·refine ⟨(k+1),Kn,Ko,?_,?_⟩
  ·exact ⟨E3.K Kk,Kh,(Tz Kh Kh).2 ⟨he,Kk⟩⟩
  ·omega
 ·obtain rfl:k=q.length:=by omega
  have hq:=ext_take Kh he
  rw [hq]
  simp
theorem noDesk_ok (w:World) (u1 u2:Value) (p:List (List Int)) (q:List (List (List Int))) (h1:ESl Ints w u1 p) (h2:ESl (ESl Ints) w u2 q) :
  Dz 17 [.agg #[u1,u2]] w (Ret w (.bool (decide (p=[]∧q=[])))):=by
 have V1:isCell u1=true:=Qy h1
 have V2:isCell u2=true:=Qy h2
 have kD:=fun (w:World) (h1:ESl Ints w u1 p) (h2:ESl (ESl Ints) w u2 q)=>sameDesk_ok w u1 u2 (.slice none 0 0) (.slice none 0 0) p [] q [] h1 h2 ⟨_,_,rfl,RSl.nil⟩ ⟨_,_,rfl,RSl.nil⟩
 refine Yr Tryz.func17 Z Tryz.results17 Tryz.ntmps17 Z ?_
 focus
  refine Vr<|Xu Z Z Z ?_;rintro b1 w1 H1 E1 B1;refine Ya Z<|Vp<|Vt<|Ym<|Uh Jq Jj B1 Z<|Wo Z (Yu (ps:=[]) (cs:=[_,_]) Ug Z Z)<|Vs Z (Xa (a:=.agg _) (b:=.agg _) Vh Z Z) (kD _ (Ku E1 h1) (Ku E1 h2)) ?_;rintro _ w2 ⟨rfl,E2⟩;refine Ya Z<|Vp<|Vy ?_;exact ⟨rfl,exq⟩
theorem lnV_ok {d:Dsk} (h:DkOk d) (s:List UInt8):DkOk (lnV d s).1:=by
 unfold lnV
 split
 ·exact doV_ok h
 ·exact h
theorem Twin_ok {w0:World} (w:World) {br m:Nat} (n:Int) (hr:Rdr w0 w br m) (hm:m≤10000000) (hn:0≤n∧n≤1000) :
  Dz 105 [.pointer (some ⟨br,0,none⟩),.int .i64 n] w (RetDO w0 w br (m+63) XR (fun p=>p.length≤5∧∀ r ∈ p,r.length≤6)):=by
 refine Yr Tryz.func105 Z Tryz.results105 Tryz.ntmps105 Z ?_
 have hG:w.grownBy w (some br):=Ru _ _
 have hlr:=hr.lt
 have hgr:=hr.ge
 focus
  refine Vr<|Uj Z<|Vp<|Vr<|Uv Z<|Vz Z<|Vs Z (Xa (a:=.pointer _) (b:=.int _ _) Tryz.call151 Z Z) (Picture_ok _ _ Kk Kh Kk) ?_;rintro u1 w1 ⟨E1,Q1,x1,O1,L1⟩;(try dsimp only at L1);have hG:=Ye hG E1;refine Uc u1 Z<|Vp<|Vt<|Vt<|Ym<|Yj u1 Z ?_
 by_cases hp:Pic x1
 ·have hk : ∀ w u,ESl Ints w u x1→Dz 115 [u] w (Ret w (.bool true)):=fun w u h=>by
   have:=Ql w u x1 h
   rw [decide_eq_true hp] at this;exact this
  focus
   refine Vs Z (Xh (a:=u1) Gu Z) (hk _ _ (Kv O1)) ?_;rintro _ w2 ⟨rfl,E2⟩;have Q1:=Q1.J E2;have hG:=Yf hG E2;refine Xp Z<|Yj u1 Z<|Ys Jm Z (Kv O1)<|Qo Z<|Xy Z<|Xi Z (fun h1=>?_) (fun h1=>?_);refine Uv Z<|Vs Z (Xa (a:=.pointer _) (b:=.int _ _) Jy Z Z) (Xs _ _ Kk Kh) ?_;rintro _ w3 ⟨y1,rfl,E3,Q2,L2⟩;(try dsimp only at L2);have O1:=(O1.toB.J E2).G E3 Kh;have hG:=Ye hG E3;refine Yo Z<|Xy Z<|Vp<|Vu Z (fun h2=>?_) (fun h2=>?_);refine Vr<|Uv Z<|Yj u1 Z<|Ys Jm Z (Kw O1)<|Vs Z (Xa (a:=.pointer _) (b:=.int _ _) Jy Z Z) (Xs _ _ Kk Kh) ?_
   rintro _ w4 ⟨y2,rfl,E4,Q3,L3⟩;(try dsimp only at L3);have O1:=O1.G E4 Kh;have hG:=Ye hG E4;refine Yx Z<|Vp<|Vr<|Uv Z<|Yj u1 Z<|Ys Jm Z (Kw O1)<|Vs Z (Xa (a:=.pointer _) (b:=.int _ _) Jy Z Z) (Xs _ _ Kk Kh) ?_;rintro _ w5 ⟨y3,rfl,E5,Q4,L4⟩;(try dsimp only at L4);have O1:=O1.G E5 Kh;have hG:=Ye hG E5;refine Yx Z<|Vp<|Vr<|Yx Z<|Vp<|Yb ?_;rotate_left;refine Vw<|Vr<|Yj u1 Z<|Uc u1 Z<|Vp<|Vy ?_;refine Yh (v:=u1) Z ?_;rotate_left;refine Vq Z<|Vq Z<|Vq Z<|Xb Z<|Vp<|Vx Z ?_;refine Vw<|Vr<|Yj u1 Z<|Uc u1 Z<|Vp<|Vy ?_;refine Yh (v:=u1) Z ?_
   rotate_left
  ·have hy3':=L3 Kh
   have hy4':=L4 Kh
   have hlen : ∀ r ∈ x1,r.length=x1.length:=fun r hr=>(hp.2.2 r hr).1
   clear hp hk
   refine Xt [8,32,33,34,35,36,37,38,39,40,41,42,43,44,45,46,47,48,49,50] (fun (j,rows)=>[(8,.int .i64 (j:Nat))]) (fun (j,rows) w'=>w.grownBy w' (some br)∧Rdr w0 w' br (m+63)∧j≤x1.length∧Owned w.heap.size XR w' u1 rows∧rows.length=x1.length∧∀ r ∈ rows,r.length=x1.length) (fun x=>x1.length - x.1) (0,x1) Kn ?_ ?_
   ·exact ⟨hG,Q4,Ja _,O1.o,rfl,hlen⟩
   rintro ⟨j,rows⟩ ρj w6 ⟨U6,Q6,hj,O6,hrl,hrr⟩
   have E6:=Q6.old
   by_cases hlt:j < x1.length
   ·obtain ⟨ub,uc,rfl,_⟩:=O6.lit Kh
    have hrb:=hrr rows[y3] (List.getElem_mem Kh)
    have hra:=hrr rows[y2] (List.getElem_mem Kh)
    have hset : ∀ r':List Int,r'.length=x1.length→∀ r ∈ rows.set y3 r',r.length=x1.length:=by
     intro r' h9 r Q9
     rcases List.mem_or_eq_of_mem_set Q9 with h | h
     ·exact hrr r h
     ·rw [h];exact h9
    focus
     refine Vt<|Vr<|Vz Z<|Ri Z<|Ys Jm Z (Kv O6)<|Yy Z<|Vp<|Vu Z (fun h3=>?_) (fun h3=>?_);refine Vw<|Vt<|Yb<|Rm (fun _=>True) mixed Z Ki ?_;intro w7 E7 K1 Z1;have U6:=Yf U6 E7;have Q6:=Q6.J E7;refine WtmS 0 Z Z trivial<|Mb 1 Z Z trivial<|Yc 2 Z Ki Ki Z (fun _ _=>Yk Jm Jw Z Z Kh) trivial ?_;refine Mb 4 Z Z trivial<|WtmS 5 Z Z trivial<|Mb 6 Z Z trivial<|Yc 7 Z Ki Ki Z (fun _ _=>Yk Jm Jw Z Z Kh) trivial ?_;refine Mb 9 Z Z trivial<|Wha [3,8]<|Yg Z ?_ ?_;rotate_left;refine Wh1 Z ?_;rotate_left;exact Kt
    all_goals
     have O7:=O6.J E7
     obtain ⟨bra,cra,hRa,ha1,ha2,ha3,ha4⟩:=rowCell O7 (i:=y2) (j:=j) Kh Kh
     obtain ⟨brb,crb,hRb,H1,H2,H3,H4⟩:=rowCell O7 (i:=y3) (j:=j) Kh Kh
    ·focus
      refine Wo Z (Xd Jz Z Kk) ?_;refine Wnt<|Wha [8]<|Wh1 Z<|Wo Z (Xd Jz Z Kk) ?_;refine Wnt<|Yc 10 Z Ki Ki Z (fun _ _=>Yk Jl Ji Z Z Kh) trivial ?_;refine Wha [11]<|Wh1 Z<|Wo Z (Xd Jk Z Kk) ?_;refine Wnt<|Yc 12 Z Ki Ki Z (fun _ _=>Yk Jl Ji Z Z Kh) trivial ?_;refine Wha [13]<|Wh1 Z<|Th Z Ji Z Z (O6.toB.J E7) hRb Km Km ?_;rintro w8 O6 hRb On1 K2 Z2;have E8:=On1.ext1 (E6.K E7) Kh;have U6:=Yw U6 (E6.K E7) E8 K2 Z2 Kd
      have Q6:=Q6.W E8 (K2 _ Kh) Z2;refine Wnt<|Yp Ki ?_;refine Ym<|Vz Z<|Xf Z<|Yx Z<|Vp ?_;rotate_left
     refine ⟨((j+1,rows.set y3 (rows[y3].set j rows[y2][j]))),Kn,Ko,?_,?_⟩
     ·exact ⟨U6,Q6,Kh,O6,by simp [hrl],hset _ (by simp [hrb])⟩
     ·simp only;omega
    ·focus
      refine Wo Z (Xd Jz Z Kk) ?_;refine Wnt<|Yc 10 Z Ki Ki Z (fun _ _=>Yk Jl Ji Z Z Kh) trivial ?_;refine Wha [3,11]<|Yg Z ?_ ?_;refine Wo Z (Xd Jz Z Kk) ?_;refine Wnt<|Wha [11]<|Wh1 Z<|Wo Z (Xd Jk Z Kk) ?_;refine Wnt<|Yc 12 Z Ki Ki Z (fun _ _=>Yk Jl Ji Z Z Kh) trivial ?_;refine Wha [13]<|Wh1 Z<|Th Z Ji Z Z (O6.toB.J E7) hRb Km Km ?_;rintro w8 O6 hRb On1 K2 Z2;have E8:=On1.ext1 (E6.K E7) Kh;have U6:=Yw U6 (E6.K E7) E8 K2 Z2 Kd
      have Q6:=Q6.W E8 (K2 _ Kh) Z2;refine Wnt<|Yp Ki ?_;refine Ym<|Vz Z<|Xf Z<|Yx Z<|Vp ?_;rotate_left;refine Wh1 Z<|Wo Z (Xd Jk Z Kk) ?_;refine Wnt<|Wha [3]<|Wh1 Z<|Wo Z (Xd Jz Z Kk) ?_;refine Wnt<|Yc 12 Z Ki Ki Z (fun _ _=>Yk Jl Ji Z Z Kh) trivial ?_;refine Wha [13]<|Wh1 Z<|Th Z Ji Z Z (O6.toB.J E7) hRb Km Km ?_;rintro w8 O6 hRb On1 K2 Z2;have E8:=On1.ext1 (E6.K E7) Kh;have U6:=Yw U6 (E6.K E7) E8 K2 Z2 Kd;have Q6:=Q6.W E8 (K2 _ Kh) Z2;refine Wnt<|Yp Ki ?_
      refine Ym<|Vz Z<|Xf Z<|Yx Z<|Vp ?_;rotate_left
     ·refine ⟨((j+1,rows.set y3 (rows[y3].set j rows[y2][j]))),Kn,Ko,?_,?_⟩
      ·exact ⟨U6,Q6,Kh,O6,by simp [hrl],hset _ (by simp [hrb])⟩
      ·simp only;omega
     ·refine ⟨((j+1,rows.set y3 (rows[y3].set j rows[y2][j]))),Kn,Ko,?_,?_⟩
      ·exact ⟨U6,Q6,Kh,O6,by simp [hrl],hset _ (by simp [hrb])⟩
      ·simp only;omega
   ·obtain rfl:j=x1.length:=by omega
    focus
     refine Vt<|Vr<|Vz Z<|Yj u1 Z<|Ys Jm Z (Kv O6)<|Yy Z<|Vp<|Vv Z fun h3=>?_;refine Xm ?_;refine Yn ?_;refine Vr<|Yj u1 Z<|Uc u1 Z<|Vp<|Vy ?_;refine Yh (v:=u1) Z ?_
    exact ⟨U6,Q6,_,O6,Kh,fun r h=>by have:=hrr r h;omega⟩
  ·exact ⟨hG,Q2.le Kh,_,O1.o,L1⟩
  ·exact ⟨hG,Q1.le Kh,_,O1.J E2,L1⟩
 ·have hk : ∀ w u,ESl Ints w u x1→Dz 115 [u] w (Ret w (.bool false)):=fun w u h=>by
   have:=Ql w u x1 h
   rw [decide_eq_false hp] at this;exact this
  focus
   refine Vs Z (Xh (a:=u1) Gu Z) (hk _ _ (Kv O1)) ?_;rintro _ w2 ⟨rfl,E2⟩;have Q1:=Q1.J E2;have hG:=Yf hG E2;refine Xp Z<|Vq Z<|Vq Z<|Vq Z<|Xb Z<|Xp Z<|Vq Z<|Vq Z<|Vq Z<|Xb Z<|Vp<|Vx Z ?_;refine Vw<|Vr<|Yj u1 Z<|Uc u1 Z<|Vp<|Vy ?_;refine Yh (v:=u1) Z ?_
  exact ⟨hG,Q1.le Kh,_,O1.J E2,L1⟩
end Go.Proofs.YtbgpppaljpngmaaGreatDoor
