/- Lemmas for FnDeskSay. -/
import Derived.Test.YtbgpppaljpngmaaGreatDoorMFnDeskSay7
namespace Go.Proofs.YtbgpppaljpngmaaGreatDoor
open Go.Hs
set_option maxRecDepth 10000
set_option maxHeartbeats 4000000
set_option linter.unusedVariables false
set_option linter.unusedSimpArgs false
open Classical in
theorem l11Made_ok (w:World) (v:Value) (p:List (List Int)) (h:ESl Ints w v p) (hp:Pic p) (k n:Int) (t:List UInt8) (ht:t.length≤1048576) :
  Dz 93 [v,.agg #[.int .i64 k,str t,.int .i64 n]] w (RetOB w XR (og (madeV p ⟨k,t,n⟩)) (madeV p ⟨k,t,n⟩).isSome):=by
 have hle:=h.le
 have W1:=hp.1
 have W5:=hp.2.1
 have hN:Nod p (0:Nat):=⟨hp,Kj,Kh⟩
 obtain ⟨Q,hQ⟩ : ∃ Q,Q=(rdP t).getD []:=⟨_,rfl⟩
 obtain ⟨B,hB⟩ : ∃ B,B=(rdP t).isSome:=⟨_,rfl⟩
 obtain ⟨M,hM⟩ : ∃ M,M=madeV p ⟨k,t,n⟩:=⟨_,rfl⟩
 rw [← hM]
 have k0 : ∀ w,Dz 122 [str t] w (RetOB w XR Q B):=fun w=>hQ ▸ hB ▸ Tw w t ht
 refine Qc Tryz.func93 Z Tryz.results93 Tryz.ntmps93 Z ?_
 by_cases e0:k=0
 ·subst e0
  by_cases e:t=[]∧n=0
  ·obtain ⟨rfl,rfl⟩:=e
   have hm:M=pairV p 0 p 0:=hM.trans (by simp [madeV])
   rw [hm]
   have k1 : ∀ (w:World) (v u:Value),ESl Ints w v p→ESl Ints w u p→Dz 141 [v,.int .i64 0,u,.int .i64 0] w (RetOB w XR (og (pairV p 0 p 0)) (pairV p 0 p 0).isSome):=fun w v u h1 h2=>PairOf_ok w v u p p h1 h2 0 0 hN hN
   focus
    refine Vw<|Xx Z Z Z ?_;rintro b1 w1 R1 E1 B1;have:=B1.lt;refine Um Z<|Yf Z<|Vt<|Vw<|Yq Jo Jn Z<|Rd Jp B1 Z<|Vv Z (Xl (a:=.string _) Gn Z) (k0 _) ?_;rintro _ w2 ⟨u1,rfl,E2,O1⟩;have:=E2.Z;refine Uy Z<|Qz u1 Z<|Qd Z<|Ug u1 Z<|Yf Z<|Vt<|Vx<|Ye<|Vw<|Yq Jo Ji Z<|Uf Jk (B1.J E2) Z<|Yt Z<|Xo Z (fun h1=>?_) (fun h1=>?_);refine Yq Jo Jn Z<|Rd Jp (B1.J E2) Z<|Wo Z (Yn Z Z)<|Ue Z<|Xo Z (fun h2=>?_) (fun h2=>?_)
    refine Yq Jo Ji Z<|Uf Jk (B1.J E2) Z<|Yt Z<|Ue Z<|Yf Z<|Vt<|Vy Z (fun h3=>?_) (fun h3=>?_);refine Vw<|Ym v Z<|Ym v Z<|Vv Z (Su (a:=v) (b:=.int _ _) (c:=v) (d:=.int _ _) Tryz.call141 Z Z Z Z) (k1 _ _ _ (Ku exq h) (Ku exq h)) ?_;rintro _ w3 ⟨u2,rfl,E3,O2⟩;refine Qz u2 Z<|Qd Z<|Ug u2 Z<|Yf Z<|Vt<|Yc ?_;refine Yl (v:=.tuple #[u2,.bool _]) Z ?_;exact ⟨_,rfl,exq,O2.toB.o.mono Kh⟩;exact Ks;exact Ks;exact Ks
  ·have hm:M=none:=hM.trans (by simp only [madeV];rw [if_neg (fun h=>e ⟨h.2.1,h.2.2⟩),if_neg (fun h=>absurd h.1 Kj),if_neg (fun h=>absurd h.1 Kj),if_neg (fun h=>absurd h.1 Kj)])
   rw [hm,show og none=[] from rfl,show (none:Option (List (List Int))).isSome=false from rfl]
   by_cases et:t=[]
   ·have en : ¬n=0:=fun h=>e ⟨et,h⟩
    subst et
    focus
     refine Vw<|Xx Z Z Z ?_;rintro b1 w1 R1 E1 B1;have:=B1.lt;refine Um Z<|Yf Z<|Vt<|Vw<|Yq Jo Jn Z<|Rd Jp B1 Z<|Vv Z (Xl (a:=.string _) Gn Z) (k0 _) ?_;rintro _ w2 ⟨u1,rfl,E2,O1⟩;have:=E2.Z;refine Uy Z<|Qz u1 Z<|Qd Z<|Ug u1 Z<|Yf Z<|Vt<|Vx<|Ye<|Vw<|Yq Jo Ji Z<|Uf Jk (B1.J E2) Z<|Yt Z<|Xo Z (fun h1=>?_) (fun h1=>?_);refine Yq Jo Jn Z<|Rd Jp (B1.J E2) Z<|Wo Z (Yn Z Z)<|Ue Z<|Xo Z (fun h2=>?_) (fun h2=>?_);refine Yq Jo Ji Z<|Uf Jk (B1.J E2) Z<|Yt Z<|Ue Z<|Yf Z<|Vt<|Yy Z fun h3=>?_
     refine Vw<|Yq Jo Ji Z<|Uf Jk (B1.J E2) Z<|Yt Z<|Un Z fun h4=>?_;refine Vu Z<|Xg Z<|Xu Z<|Vu Z<|Vu Z<|Vu Z<|Xg Z<|Yf Z<|Vt<|Yb Z ?_;refine Vw<|Yq Jo Ji Z<|Uf Jk (B1.J E2) Z<|Yt Z<|Un Z fun h5=>?_;refine Vu Z<|Xg Z<|Xu Z<|Vu Z<|Vu Z<|Vu Z<|Xg Z<|Yf Z<|Vt<|Yb Z ?_;refine Vx<|Qi mixed Ki Z ?_;refine Rb Jo Ji Z<|Uv (v:=.int _ _) Z (fun w' hw'=>Xh Jk Z (((B1.J E2).J hw').cell Z)) ?_;refine Sv Z<|Rp Z (fun h6=>?_) (fun h6=>?_);exact Ks
     refine Yh Z<|Yh Z<|Yh Z<|So Z<|Td Z<|Yh Z<|Yh Z<|Yh Z<|Yh Z<|Yh Z<|Yh Z<|So Z<|Td Z<|Yh Z<|Yh Z<|Yh Z<|Yh Z<|Yh Z<|Yh Z<|Yh Z<|Yh Z<|So Z<|Mh Z<|Qb (fun w3 E3=>?_);have:=E3.Z;refine Yb Z ?_;refine Ya<|Vw<|Uq (XSl 3 XInt) Z Sl Jw ?_;rintro b2 w4 R2 b2lt E4 O2;refine Um Z<|Yf Z<|Vt<|Yc ?_;refine Yl (v:=.tuple #[.slice _ _ _,.bool _]) Z ?_;exact ⟨_,rfl,exq,O2.toB.o.mono Kh⟩;exact Ks;exact Ks
   ·focus
     refine Vw<|Xx Z Z Z ?_;rintro b1 w1 R1 E1 B1;have:=B1.lt;refine Um Z<|Yf Z<|Vt<|Vw<|Yq Jo Jn Z<|Rd Jp B1 Z<|Vv Z (Xl (a:=.string _) Gn Z) (k0 _) ?_;rintro _ w2 ⟨u1,rfl,E2,O1⟩;have:=E2.Z;refine Uy Z<|Qz u1 Z<|Qd Z<|Ug u1 Z<|Yf Z<|Vt<|Vx<|Ye<|Vw<|Yq Jo Ji Z<|Uf Jk (B1.J E2) Z<|Yt Z<|Xo Z (fun h1=>?_) (fun h1=>?_);refine Yq Jo Jn Z<|Rd Jp (B1.J E2) Z<|Wo Z (Yn Z Z)<|Ue Z<|Un Z fun h2=>?_;refine Vu Z<|Vu Z<|Vu Z<|Xg Z<|Yf Z<|Vt<|Yb Z ?_
     refine Vw<|Yq Jo Ji Z<|Uf Jk (B1.J E2) Z<|Yt Z<|Un Z fun h3=>?_;refine Vu Z<|Xg Z<|Xu Z<|Vu Z<|Vu Z<|Vu Z<|Xg Z<|Yf Z<|Vt<|Yb Z ?_;refine Vw<|Yq Jo Ji Z<|Uf Jk (B1.J E2) Z<|Yt Z<|Un Z fun h4=>?_;refine Vu Z<|Xg Z<|Xu Z<|Vu Z<|Vu Z<|Vu Z<|Xg Z<|Yf Z<|Vt<|Yb Z ?_;refine Vx<|Qi mixed Ki Z ?_;refine Rb Jo Ji Z<|Uv (v:=.int _ _) Z (fun w' hw'=>Xh Jk Z (((B1.J E2).J hw').cell Z)) ?_;refine Sv Z<|Rp Z (fun h5=>?_) (fun h5=>?_);exact Ks
     refine Yh Z<|Yh Z<|Yh Z<|So Z<|Td Z<|Yh Z<|Yh Z<|Yh Z<|Yh Z<|Yh Z<|Yh Z<|So Z<|Td Z<|Yh Z<|Yh Z<|Yh Z<|Yh Z<|Yh Z<|Yh Z<|Yh Z<|Yh Z<|So Z<|Mh Z<|Qb (fun w3 E3=>?_);have:=E3.Z;refine Yb Z ?_;refine Ya<|Vw<|Uq (XSl 3 XInt) Z Sl Jw ?_;rintro b2 w4 R2 b2lt E4 O2;refine Um Z<|Yf Z<|Vt<|Yc ?_;refine Yl (v:=.tuple #[.slice _ _ _,.bool _]) Z ?_;exact ⟨_,rfl,exq,O2.toB.o.mono Kh⟩;exact Ks
 by_cases e1:k=1
 ·subst e1
  by_cases en:n=0
  ·subst en
   have hm:M=(rdP t).bind fun q=>(pairV q 0 q 0).bind fun s=>togV p 0 s 0:=hM.trans (by simp only [madeV];rw [if_neg (fun h=>absurd h.1 Kj),if_pos Kp])
   cases hr:rdP t with
   | none =>
     rw [hr] at hm hB hQ
     rw [hm, show og (none.bind fun q => (pairV q 0 q 0).bind fun s => togV p 0 s 0) = [] from rfl, show (none.bind fun q => (pairV q 0 q 0).bind fun s => togV p 0 s 0).isSome = false from rfl]
     rw [hB, show (none : Option (List (List Int))).isSome = false from rfl] at k0
     focus
       refine Vw<|Xx Z Z Z ?_; rintro b1 w1 R1 E1 B1; have := B1.lt; refine Um Z<|Yf Z<|Vt<|Vw<|Yq Jo Jn Z<|Rd Jp B1 Z<|Vv Z (Xl (a := .string _) Gn Z) (k0 _) ?_; rintro _ w2 ⟨u1, rfl, E2, O1⟩; have := E2.Z; refine Uy Z<|Qz u1 Z<|Qd Z<|Ug u1 Z<|Yf Z<|Vt<|Vx<|Ye<|Vw<|Yq Jo Ji Z<|Uf Jk (B1.J E2) Z<|Yt Z<|Un Z fun h1 => ?_; refine Vu Z<|Vu Z<|Vu Z<|Xg Z<|Xu Z<|Vu Z<|Vu Z<|Vu Z<|Xg Z<|Yf Z<|Vt<|Yb Z ?_; refine Vw<|Yq Jo Ji Z<|Uf Jk (B1.J E2) Z<|Yt Z<|Xo Z (fun h2 => ?_) (fun h2 => ?_)
       refine Xu Z<|Ue Z<|Xu Z<|Vu Z<|Vu Z<|Vu Z<|Xg Z<|Yf Z<|Vt<|Yb Z ?_; refine Vw<|Yq Jo Ji Z<|Uf Jk (B1.J E2) Z<|Yt Z<|Un Z fun h3 => ?_; refine Vu Z<|Xg Z<|Xu Z<|Vu Z<|Vu Z<|Vu Z<|Xg Z<|Yf Z<|Vt<|Yb Z ?_; refine Vx<|Qi mixed Ki Z ?_; refine Rb Jo Ji Z<|Uv (v := .int _ _) Z (fun w' hw' => Xh Jk Z (((B1.J E2).J hw').cell Z)) ?_; refine Sv Z<|Rp Z (fun h4 => ?_) (fun h4 => ?_); exact Ks
       refine Yh Z<|Yh Z<|Yh Z<|So Z<|Td Z<|Yh Z<|Yh Z<|Yh Z<|Yh Z<|Yh Z<|Yh Z<|So Z<|Td Z<|Yh Z<|Yh Z<|Yh Z<|Yh Z<|Yh Z<|Yh Z<|Yh Z<|Yh Z<|So Z<|Mh Z<|Qb (fun w3 E3 => ?_); have := E3.Z; refine Yb Z ?_; refine Ya<|Vw<|Uq (XSl 3 XInt) Z Sl Jw ?_; rintro b2 w4 R2 b2lt E4 O2; refine Um Z<|Yf Z<|Vt<|Yc ?_; refine Yl (v := .tuple #[.slice _ _ _, .bool _]) Z ?_; exact ⟨_, rfl, exq, O2.toB.o.mono Kh⟩; exact Ks
   | some q =>
     rw [hr] at hm hB hQ
     rw [hB, hQ, show (some q).isSome = true from rfl, show (some q).getD [] = q from rfl] at k0
     have hq := (Ty hr).1
     have hNq : Nod q (0 : Nat) := ⟨hq, Kj, by have := hq.1; omega⟩
     have k1 : ∀ (w : World) (v u : Value), ESl Ints w v q → ESl Ints w u q → Dz 141 [v, .int .i64 0, u, .int .i64 0] w (RetOB w XR (og (pairV q 0 q 0)) (pairV q 0 q 0).isSome) := fun w v u h1 h2 => PairOf_ok w v u q q h1 h2 0 0 hNq hNq
     rw [hm, show ((some q).bind fun q => (pairV q 0 q 0).bind fun s => togV p 0 s 0) = (pairV q 0 q 0).bind fun s => togV p 0 s 0 from rfl]
     cases hs : pairV q 0 q 0 with
     | none =>
       rw [hs] at k1
       rw [show (none.bind fun s => togV p 0 s 0) = none from rfl]
       rw [show og none = [] from rfl, show (none : Option (List (List Int))).isSome = false from rfl] at k1 ⊢
       focus
         refine Vw<|Xx Z Z Z ?_; rintro b1 w1 R1 E1 B1; have := B1.lt; refine Um Z<|Yf Z<|Vt<|Vw<|Yq Jo Jn Z<|Rd Jp B1 Z<|Vv Z (Xl (a := .string _) Gn Z) (k0 _) ?_; rintro _ w2 ⟨u1, rfl, E2, O1⟩; have := E2.Z; refine Uy Z<|Qz u1 Z<|Qd Z<|Ug u1 Z<|Yf Z<|Vt<|Vx<|Ye<|Vw<|Yq Jo Ji Z<|Uf Jk (B1.J E2) Z<|Yt Z<|Un Z fun h1 => ?_; refine Vu Z<|Vu Z<|Vu Z<|Xg Z<|Xu Z<|Vu Z<|Vu Z<|Vu Z<|Xg Z<|Yf Z<|Vt<|Yb Z ?_; refine Vw<|Yq Jo Ji Z<|Uf Jk (B1.J E2) Z<|Yt Z<|Xo Z (fun h2 => ?_) (fun h2 => ?_)
         refine Xu Z<|Ue Z<|Xu Z<|Yq Jo Ji Z<|Uf Jk (B1.J E2) Z<|Yt Z<|Ue Z<|Yf Z<|Vt<|Vy Z (fun h3 => ?_) (fun h3 => ?_); refine Vx<|Ys<|Ym u1 Z<|Ym u1 Z<|Vv Z (Su (a := u1) (b := .int _ _) (c := u1) (d := .int _ _) Tryz.call141 Z Z Z Z) (k1 _ _ _ (Kv O1) (Kv O1)) ?_; rintro _ w3 ⟨u2, rfl, E3, O2⟩; have := E3.Z; refine Uy Z<|Qz u2 Z<|Qd Z<|Ug u2 Z<|Yf Z<|Vt<|Vx<|Vw<|Xu Z<|Ub Z<|Vt<|Ut Z (fun h4 => ?_) (fun h4 => ?_); refine Vw<|Uq (XSl 3 XInt) Z Sl Jw ?_; rintro b2 w4 R2 b2lt E4 O3; refine Um Z<|Yf Z<|Vt<|Yc ?_; refine Yl (v := .tuple #[.slice _ _ _, .bool _]) Z ?_; exact ⟨_, rfl, exq, O3.toB.o.mono Kh⟩
         exact Ks; exact Ks; exact Ks
     | some s =>
       rw [hs] at k1
       rw [show ((some s).bind fun s => togV p 0 s 0) = togV p 0 s 0 from rfl]
       rw [show og (some s) = s from rfl, show (some s).isSome = true from rfl] at k1
       have hsp := (Lq hq hq hs).1
       have hNs : Nod s (0 : Nat) := ⟨hsp, Kj, by have := hsp.1; omega⟩
       have k2 : ∀ (w : World) (v u : Value), ESl Ints w v p → ESl Ints w u s → Dz 142 [v, .int .i64 0, u, .int .i64 0] w (RetOB w XR (og (togV p 0 s 0)) (togV p 0 s 0).isSome) := fun w v u h1 h2 => TogetherOf_ok w v u p s h1 h2 0 0 hN hNs
       focus
         refine Vw<|Xx Z Z Z ?_; rintro b1 w1 R1 E1 B1; have := B1.lt; refine Um Z<|Yf Z<|Vt<|Vw<|Yq Jo Jn Z<|Rd Jp B1 Z<|Vv Z (Xl (a := .string _) Gn Z) (k0 _) ?_; rintro _ w2 ⟨u1, rfl, E2, O1⟩; have := E2.Z; refine Uy Z<|Qz u1 Z<|Qd Z<|Ug u1 Z<|Yf Z<|Vt<|Vx<|Ye<|Vw<|Yq Jo Ji Z<|Uf Jk (B1.J E2) Z<|Yt Z<|Un Z fun h1 => ?_; refine Vu Z<|Vu Z<|Vu Z<|Xg Z<|Xu Z<|Vu Z<|Vu Z<|Vu Z<|Xg Z<|Yf Z<|Vt<|Yb Z ?_; refine Vw<|Yq Jo Ji Z<|Uf Jk (B1.J E2) Z<|Yt Z<|Xo Z (fun h2 => ?_) (fun h2 => ?_)
         refine Xu Z<|Ue Z<|Xu Z<|Yq Jo Ji Z<|Uf Jk (B1.J E2) Z<|Yt Z<|Ue Z<|Yf Z<|Vt<|Vy Z (fun h3 => ?_) (fun h3 => ?_); refine Vx<|Ys<|Ym u1 Z<|Ym u1 Z<|Vv Z (Su (a := u1) (b := .int _ _) (c := u1) (d := .int _ _) Tryz.call141 Z Z Z Z) (k1 _ _ _ (Kv O1) (Kv O1)) ?_; rintro _ w3 ⟨u2, rfl, E3, O2⟩; have := E3.Z; refine Uy Z<|Qz u2 Z<|Qd Z<|Ug u2 Z<|Yf Z<|Vt<|Vx<|Vw<|Xu Z<|Ub Z<|Vt<|Uo Z fun h4 => ?_; refine Ya<|Vw<|Ym v Z<|Ym u2 Z<|Vv Z (Su (a := v) (b := .int _ _) (c := u2) (d := .int _ _) Tryz.call142 Z Z Z Z) (k2 _ _ _ (Ku exq h) (Kv O2)) ?_; rintro _ w4 ⟨u3, rfl, E4, O3⟩
         refine Qz u3 Z<|Qd Z<|Ug u3 Z<|Yf Z<|Vt<|Yc ?_; refine Yl (v := .tuple #[u3, .bool _]) Z ?_; exact ⟨_, rfl, exq, O3.toB.o.mono Kh⟩; exact Ks; exact Ks
  ·have hm:M=none:=hM.trans (by simp only [madeV];rw [if_neg (fun h=>absurd h.1 Kj),if_neg (fun h=>en h.2),if_neg (fun h=>absurd h.1 Kj),if_neg (fun h=>absurd h.1 Kj)])
   rw [hm,show og none=[] from rfl,show (none:Option (List (List Int))).isSome=false from rfl]
   cases B
   ·focus
     refine Vw<|Xx Z Z Z ?_;rintro b1 w1 R1 E1 B1;have:=B1.lt;refine Um Z<|Yf Z<|Vt<|Vw<|Yq Jo Jn Z<|Rd Jp B1 Z<|Vv Z (Xl (a:=.string _) Gn Z) (k0 _) ?_;rintro _ w2 ⟨u1,rfl,E2,O1⟩;have:=E2.Z;refine Uy Z<|Qz u1 Z<|Qd Z<|Ug u1 Z<|Yf Z<|Vt<|Vx<|Ye<|Vw<|Yq Jo Ji Z<|Uf Jk (B1.J E2) Z<|Yt Z<|Un Z fun h1=>?_;refine Vu Z<|Vu Z<|Vu Z<|Xg Z<|Xu Z<|Vu Z<|Vu Z<|Vu Z<|Xg Z<|Yf Z<|Vt<|Yb Z ?_;refine Vw<|Yq Jo Ji Z<|Uf Jk (B1.J E2) Z<|Yt Z<|Xo Z (fun h2=>?_) (fun h2=>?_)
     refine Xu Z<|Ue Z<|Xu Z<|Vu Z<|Vu Z<|Vu Z<|Xg Z<|Yf Z<|Vt<|Yb Z ?_;refine Vw<|Yq Jo Ji Z<|Uf Jk (B1.J E2) Z<|Yt Z<|Un Z fun h3=>?_;refine Vu Z<|Xg Z<|Xu Z<|Vu Z<|Vu Z<|Vu Z<|Xg Z<|Yf Z<|Vt<|Yb Z ?_;refine Vx<|Qi mixed Ki Z ?_;refine Rb Jo Ji Z<|Uv (v:=.int _ _) Z (fun w' hw'=>Xh Jk Z (((B1.J E2).J hw').cell Z)) ?_;refine Sv Z<|Rp Z (fun h4=>?_) (fun h4=>?_);exact Ks
     refine Yh Z<|Yh Z<|Yh Z<|So Z<|Td Z<|Yh Z<|Yh Z<|Yh Z<|Yh Z<|Yh Z<|Yh Z<|So Z<|Td Z<|Yh Z<|Yh Z<|Yh Z<|Yh Z<|Yh Z<|Yh Z<|Yh Z<|Yh Z<|So Z<|Mh Z<|Qb (fun w3 E3=>?_);have:=E3.Z;refine Yb Z ?_;refine Ya<|Vw<|Uq (XSl 3 XInt) Z Sl Jw ?_;rintro b2 w4 R2 b2lt E4 O2;refine Um Z<|Yf Z<|Vt<|Yc ?_;refine Yl (v:=.tuple #[.slice _ _ _,.bool _]) Z ?_;exact ⟨_,rfl,exq,O2.toB.o.mono Kh⟩;exact Ks
   ·focus
     refine Vw<|Xx Z Z Z ?_;rintro b1 w1 R1 E1 B1;have:=B1.lt;refine Um Z<|Yf Z<|Vt<|Vw<|Yq Jo Jn Z<|Rd Jp B1 Z<|Vv Z (Xl (a:=.string _) Gn Z) (k0 _) ?_;rintro _ w2 ⟨u1,rfl,E2,O1⟩;have:=E2.Z;refine Uy Z<|Qz u1 Z<|Qd Z<|Ug u1 Z<|Yf Z<|Vt<|Vx<|Ye<|Vw<|Yq Jo Ji Z<|Uf Jk (B1.J E2) Z<|Yt Z<|Un Z fun h1=>?_;refine Vu Z<|Vu Z<|Vu Z<|Xg Z<|Xu Z<|Vu Z<|Vu Z<|Vu Z<|Xg Z<|Yf Z<|Vt<|Yb Z ?_;refine Vw<|Yq Jo Ji Z<|Uf Jk (B1.J E2) Z<|Yt Z<|Xo Z (fun h2=>?_) (fun h2=>?_)
     refine Xu Z<|Ue Z<|Xu Z<|Yq Jo Ji Z<|Uf Jk (B1.J E2) Z<|Yt Z<|Ue Z<|Yf Z<|Vt<|Yy Z fun h3=>?_;refine Vw<|Yq Jo Ji Z<|Uf Jk (B1.J E2) Z<|Yt Z<|Un Z fun h4=>?_;refine Vu Z<|Xg Z<|Xu Z<|Vu Z<|Vu Z<|Vu Z<|Xg Z<|Yf Z<|Vt<|Yb Z ?_;refine Vx<|Qi mixed Ki Z ?_;refine Rb Jo Ji Z<|Uv (v:=.int _ _) Z (fun w' hw'=>Xh Jk Z (((B1.J E2).J hw').cell Z)) ?_;refine Sv Z<|Rp Z (fun h5=>?_) (fun h5=>?_);exact Ks
     refine Yh Z<|Yh Z<|Yh Z<|So Z<|Td Z<|Yh Z<|Yh Z<|Yh Z<|Yh Z<|Yh Z<|Yh Z<|So Z<|Td Z<|Yh Z<|Yh Z<|Yh Z<|Yh Z<|Yh Z<|Yh Z<|Yh Z<|Yh Z<|So Z<|Mh Z<|Qb (fun w3 E3=>?_);have:=E3.Z;refine Yb Z ?_;refine Ya<|Vw<|Uq (XSl 3 XInt) Z Sl Jw ?_;rintro b2 w4 R2 b2lt E4 O2;refine Um Z<|Yf Z<|Vt<|Yc ?_;refine Yl (v:=.tuple #[.slice _ _ _,.bool _]) Z ?_;exact ⟨_,rfl,exq,O2.toB.o.mono Kh⟩;exact Ks
 by_cases e2:k=2
 ·subst e2
  by_cases en:n=0
  ·subst en
   have hm:M=(rdP t).bind fun q=>wosV p 0 q 0:=hM.trans (by simp only [madeV];rw [if_neg (fun h=>absurd h.1 Kj),if_neg (fun h=>absurd h.1 Kj),if_pos Kp])
   cases hr:rdP t with
   | none =>
     rw [hr] at hm hB hQ
     rw [hm, show og (none.bind fun q => wosV p 0 q 0) = [] from rfl, show (none.bind fun q => wosV p 0 q 0).isSome = false from rfl]
     rw [hB, show (none : Option (List (List Int))).isSome = false from rfl] at k0
     focus
       refine Vw<|Xx Z Z Z ?_; rintro b1 w1 R1 E1 B1; have := B1.lt; refine Um Z<|Yf Z<|Vt<|Vw<|Yq Jo Jn Z<|Rd Jp B1 Z<|Vv Z (Xl (a := .string _) Gn Z) (k0 _) ?_; rintro _ w2 ⟨u1, rfl, E2, O1⟩; have := E2.Z; refine Uy Z<|Qz u1 Z<|Qd Z<|Ug u1 Z<|Yf Z<|Vt<|Vx<|Ye<|Vw<|Yq Jo Ji Z<|Uf Jk (B1.J E2) Z<|Yt Z<|Un Z fun h1 => ?_; refine Vu Z<|Vu Z<|Vu Z<|Xg Z<|Xu Z<|Vu Z<|Vu Z<|Vu Z<|Xg Z<|Yf Z<|Vt<|Yb Z ?_; refine Vw<|Yq Jo Ji Z<|Uf Jk (B1.J E2) Z<|Yt Z<|Un Z fun h2 => ?_
       refine Vu Z<|Xg Z<|Xu Z<|Vu Z<|Vu Z<|Vu Z<|Xg Z<|Yf Z<|Vt<|Yb Z ?_; refine Vw<|Yq Jo Ji Z<|Uf Jk (B1.J E2) Z<|Yt Z<|Xo Z (fun h3 => ?_) (fun h3 => ?_); refine Xu Z<|Ue Z<|Xu Z<|Vu Z<|Vu Z<|Vu Z<|Xg Z<|Yf Z<|Vt<|Yb Z ?_; refine Vx<|Qi mixed Ki Z ?_; refine Rb Jo Ji Z<|Uv (v := .int _ _) Z (fun w' hw' => Xh Jk Z (((B1.J E2).J hw').cell Z)) ?_; refine Sv Z<|Rp Z (fun h4 => ?_) (fun h4 => ?_); exact Ks
       refine Yh Z<|Yh Z<|Yh Z<|So Z<|Td Z<|Yh Z<|Yh Z<|Yh Z<|Yh Z<|Yh Z<|Yh Z<|So Z<|Td Z<|Yh Z<|Yh Z<|Yh Z<|Yh Z<|Yh Z<|Yh Z<|Yh Z<|Yh Z<|So Z<|Mh Z<|Qb (fun w3 E3 => ?_); have := E3.Z; refine Yb Z ?_; refine Ya<|Vw<|Uq (XSl 3 XInt) Z Sl Jw ?_; rintro b2 w4 R2 b2lt E4 O2; refine Um Z<|Yf Z<|Vt<|Yc ?_; refine Yl (v := .tuple #[.slice _ _ _, .bool _]) Z ?_; exact ⟨_, rfl, exq, O2.toB.o.mono Kh⟩; exact Ks
   | some q =>
     rw [hr] at hm hB hQ
     rw [hB, hQ, show (some q).isSome = true from rfl, show (some q).getD [] = q from rfl] at k0
     have hq := (Ty hr).1
     have hNq : Nod q (0 : Nat) := ⟨hq, Kj, by have := hq.1; omega⟩
     have k1 : ∀ (w : World) (v u : Value), ESl Ints w v p → ESl Ints w u q → Dz 143 [v, .int .i64 0, u, .int .i64 0] w (RetOB w XR (og (wosV p 0 q 0)) (wosV p 0 q 0).isSome) := fun w v u h1 h2 => WithoutSet_ok w v u p q h1 h2 0 0 hN hNq
     rw [hm, show ((some q).bind fun q => wosV p 0 q 0) = wosV p 0 q 0 from rfl]
     focus
       refine Vw<|Xx Z Z Z ?_; rintro b1 w1 R1 E1 B1; have := B1.lt; refine Um Z<|Yf Z<|Vt<|Vw<|Yq Jo Jn Z<|Rd Jp B1 Z<|Vv Z (Xl (a := .string _) Gn Z) (k0 _) ?_; rintro _ w2 ⟨u1, rfl, E2, O1⟩; have := E2.Z; refine Uy Z<|Qz u1 Z<|Qd Z<|Ug u1 Z<|Yf Z<|Vt<|Vx<|Ye<|Vw<|Yq Jo Ji Z<|Uf Jk (B1.J E2) Z<|Yt Z<|Un Z fun h1 => ?_; refine Vu Z<|Vu Z<|Vu Z<|Xg Z<|Xu Z<|Vu Z<|Vu Z<|Vu Z<|Xg Z<|Yf Z<|Vt<|Yb Z ?_; refine Vw<|Yq Jo Ji Z<|Uf Jk (B1.J E2) Z<|Yt Z<|Un Z fun h2 => ?_
       refine Vu Z<|Xg Z<|Xu Z<|Vu Z<|Vu Z<|Vu Z<|Xg Z<|Yf Z<|Vt<|Yb Z ?_; refine Vw<|Yq Jo Ji Z<|Uf Jk (B1.J E2) Z<|Yt Z<|Xo Z (fun h3 => ?_) (fun h3 => ?_); refine Xu Z<|Ue Z<|Xu Z<|Yq Jo Ji Z<|Uf Jk (B1.J E2) Z<|Yt Z<|Ue Z<|Yf Z<|Vt<|Vy Z (fun h4 => ?_) (fun h4 => ?_); refine Vx<|Ys<|Ym v Z<|Ym u1 Z<|Vv Z (Su (a := v) (b := .int _ _) (c := u1) (d := .int _ _) Tryz.call143 Z Z Z Z) (k1 _ _ _ (Ku exq h) (Kv O1)) ?_; rintro _ w3 ⟨u2, rfl, E3, O2⟩; refine Qz u2 Z<|Qd Z<|Ug u2 Z<|Yf Z<|Vt<|Yc ?_; refine Yl (v := .tuple #[u2, .bool _]) Z ?_
       exact ⟨_, rfl, exq, O2.toB.o.mono Kh⟩; exact Ks; exact Ks
  ·have hm:M=none:=hM.trans (by simp only [madeV];rw [if_neg (fun h=>absurd h.1 Kj),if_neg (fun h=>absurd h.1 Kj),if_neg (fun h=>en h.2),if_neg (fun h=>absurd h.1 Kj)])
   rw [hm,show og none=[] from rfl,show (none:Option (List (List Int))).isSome=false from rfl]
   cases B
   ·focus
     refine Vw<|Xx Z Z Z ?_;rintro b1 w1 R1 E1 B1;have:=B1.lt;refine Um Z<|Yf Z<|Vt<|Vw<|Yq Jo Jn Z<|Rd Jp B1 Z<|Vv Z (Xl (a:=.string _) Gn Z) (k0 _) ?_;rintro _ w2 ⟨u1,rfl,E2,O1⟩;have:=E2.Z;refine Uy Z<|Qz u1 Z<|Qd Z<|Ug u1 Z<|Yf Z<|Vt<|Vx<|Ye<|Vw<|Yq Jo Ji Z<|Uf Jk (B1.J E2) Z<|Yt Z<|Un Z fun h1=>?_;refine Vu Z<|Vu Z<|Vu Z<|Xg Z<|Xu Z<|Vu Z<|Vu Z<|Vu Z<|Xg Z<|Yf Z<|Vt<|Yb Z ?_;refine Vw<|Yq Jo Ji Z<|Uf Jk (B1.J E2) Z<|Yt Z<|Un Z fun h2=>?_
     refine Vu Z<|Xg Z<|Xu Z<|Vu Z<|Vu Z<|Vu Z<|Xg Z<|Yf Z<|Vt<|Yb Z ?_;refine Vw<|Yq Jo Ji Z<|Uf Jk (B1.J E2) Z<|Yt Z<|Xo Z (fun h3=>?_) (fun h3=>?_);refine Xu Z<|Ue Z<|Xu Z<|Vu Z<|Vu Z<|Vu Z<|Xg Z<|Yf Z<|Vt<|Yb Z ?_;refine Vx<|Qi mixed Ki Z ?_;refine Rb Jo Ji Z<|Uv (v:=.int _ _) Z (fun w' hw'=>Xh Jk Z (((B1.J E2).J hw').cell Z)) ?_;refine Sv Z<|Rp Z (fun h4=>?_) (fun h4=>?_);exact Ks
     refine Yh Z<|Yh Z<|Yh Z<|So Z<|Td Z<|Yh Z<|Yh Z<|Yh Z<|Yh Z<|Yh Z<|Yh Z<|So Z<|Td Z<|Yh Z<|Yh Z<|Yh Z<|Yh Z<|Yh Z<|Yh Z<|Yh Z<|Yh Z<|So Z<|Mh Z<|Qb (fun w3 E3=>?_);have:=E3.Z;refine Yb Z ?_;refine Ya<|Vw<|Uq (XSl 3 XInt) Z Sl Jw ?_;rintro b2 w4 R2 b2lt E4 O2;refine Um Z<|Yf Z<|Vt<|Yc ?_;refine Yl (v:=.tuple #[.slice _ _ _,.bool _]) Z ?_;exact ⟨_,rfl,exq,O2.toB.o.mono Kh⟩;exact Ks
   ·focus
     refine Vw<|Xx Z Z Z ?_;rintro b1 w1 R1 E1 B1;have:=B1.lt;refine Um Z<|Yf Z<|Vt<|Vw<|Yq Jo Jn Z<|Rd Jp B1 Z<|Vv Z (Xl (a:=.string _) Gn Z) (k0 _) ?_;rintro _ w2 ⟨u1,rfl,E2,O1⟩;have:=E2.Z;refine Uy Z<|Qz u1 Z<|Qd Z<|Ug u1 Z<|Yf Z<|Vt<|Vx<|Ye<|Vw<|Yq Jo Ji Z<|Uf Jk (B1.J E2) Z<|Yt Z<|Un Z fun h1=>?_;refine Vu Z<|Vu Z<|Vu Z<|Xg Z<|Xu Z<|Vu Z<|Vu Z<|Vu Z<|Xg Z<|Yf Z<|Vt<|Yb Z ?_;refine Vw<|Yq Jo Ji Z<|Uf Jk (B1.J E2) Z<|Yt Z<|Un Z fun h2=>?_
     refine Vu Z<|Xg Z<|Xu Z<|Vu Z<|Vu Z<|Vu Z<|Xg Z<|Yf Z<|Vt<|Yb Z ?_;refine Vw<|Yq Jo Ji Z<|Uf Jk (B1.J E2) Z<|Yt Z<|Xo Z (fun h3=>?_) (fun h3=>?_);refine Xu Z<|Ue Z<|Xu Z<|Yq Jo Ji Z<|Uf Jk (B1.J E2) Z<|Yt Z<|Ue Z<|Yf Z<|Vt<|Yy Z fun h4=>?_;refine Vx<|Qi mixed Ki Z ?_;refine Rb Jo Ji Z<|Uv (v:=.int _ _) Z (fun w' hw'=>Xh Jk Z (((B1.J E2).J hw').cell Z)) ?_;refine Sv Z<|Rp Z (fun h5=>?_) (fun h5=>?_);exact Ks
     refine Yh Z<|Yh Z<|Yh Z<|So Z<|Td Z<|Yh Z<|Yh Z<|Yh Z<|Yh Z<|Yh Z<|Yh Z<|So Z<|Td Z<|Yh Z<|Yh Z<|Yh Z<|Yh Z<|Yh Z<|Yh Z<|Yh Z<|Yh Z<|So Z<|Mh Z<|Qb (fun w3 E3=>?_);have:=E3.Z;refine Yb Z ?_;refine Ya<|Vw<|Uq (XSl 3 XInt) Z Sl Jw ?_;rintro b2 w4 R2 b2lt E4 O2;refine Um Z<|Yf Z<|Vt<|Yc ?_;refine Yl (v:=.tuple #[.slice _ _ _,.bool _]) Z ?_;exact ⟨_,rfl,exq,O2.toB.o.mono Kh⟩;exact Ks
 by_cases e3:k=3
 ·subst e3
  by_cases et:t=[]
  ·subst et
   by_cases en:0≤n∧n≤(p.length:Int) - 1
   ·have k2 : ∀ w,Dz 116 [.int .i64 n,.int .i64 0,.int .i64 ((p.length:Int) - 1)] w (Ret w (.bool true)):=fun w=>by
     have:=Rt n 0 ((p.length:Int) - 1) w;rwa [decide_eq_true en] at this
    have hrow:p[0].length=p.length:=hp.row W1
    obtain ⟨i,rfl⟩ : ∃ i:Nat,n=i:=⟨n.toNat,Kh⟩
    have hbit:bit p 0 i=p[0][i]:=by unfold bit;rw [Xr W1,Xr (show i < p[0].length by omega)]
    by_cases eb:p[0][i]=1
    ·have hm:M=some (lst p i):=hM.trans (by simp only [madeV];rw [if_neg (fun h=>absurd h.1 Kj),if_neg (fun h=>absurd h.1 Kj),if_neg (fun h=>absurd h.1 Kj),if_pos ⟨trivial,trivial,Kh,Kh,by rw [Int.toNat_natCast,hbit,eb]⟩,Int.toNat_natCast])
     have hNi:Nod p (i:Int):=⟨hp,Kh,Kh⟩
     have k3 : ∀ (w:World) (v:Value),ESl Ints w v p→Dz 126 [v,.int .i64 (i:Int)] w (RetO w XR (lst p i)):=fun w v h=>by
      have:=Tp w v p h (i:Int);rw [if_pos hNi] at this;exact this
     rw [hm,show og (some (lst p i))=lst p i from rfl,show (some (lst p i)).isSome=true from rfl]
     focus
      refine Vw<|Xx Z Z Z ?_;rintro b1 w1 R1 E1 B1;have:=B1.lt;refine Um Z<|Yf Z<|Vt<|Vw<|Yq Jo Jn Z<|Rd Jp B1 Z<|Vv Z (Xl (a:=.string _) Gn Z) (k0 _) ?_;rintro _ w2 ⟨u1,rfl,E2,O1⟩;have:=E2.Z;refine Uy Z<|Qz u1 Z<|Qd Z<|Ug u1 Z<|Yf Z<|Vt<|Vx<|Ye<|Vw<|Yq Jo Ji Z<|Uf Jk (B1.J E2) Z<|Yt Z<|Un Z fun h1=>?_;refine Vu Z<|Vu Z<|Vu Z<|Xg Z<|Xu Z<|Vu Z<|Vu Z<|Vu Z<|Xg Z<|Yf Z<|Vt<|Yb Z ?_;refine Vw<|Yq Jo Ji Z<|Uf Jk (B1.J E2) Z<|Yt Z<|Un Z fun h2=>?_
      refine Vu Z<|Xg Z<|Xu Z<|Vu Z<|Vu Z<|Vu Z<|Xg Z<|Yf Z<|Vt<|Yb Z ?_;refine Vw<|Yq Jo Ji Z<|Uf Jk (B1.J E2) Z<|Yt Z<|Un Z fun h3=>?_;refine Vu Z<|Xg Z<|Xu Z<|Vu Z<|Vu Z<|Vu Z<|Xg Z<|Yf Z<|Vt<|Yb Z ?_;refine Vx<|Qi mixed Ki Z ?_;refine Rb Jo Ji Z<|Uv (v:=.int _ _) Z (fun w' hw'=>Xh Jk Z (((B1.J E2).J hw').cell Z)) ?_;refine Sv Z<|Rp Z (fun h4=>?_) (fun h4=>?_);refine Rb Jo Jn Z<|Uv (v:=.string _) Z (fun w' hw'=>Xh Jp Z (((B1.J E2).J hw').cell Z)) ?_
      refine Uv Z (fun _ _=>Yn Z Z) ?_;refine Mm Z<|Rp Z (fun h5=>?_) (fun h5=>?_);refine Rb Jo Ji Z<|Uv (v:=.int _ _) Z (fun w' hw'=>Xh Jk Z (((B1.J E2).J hw').cell Z)) ?_;refine Sd v Z<|Uv Z (fun _ _=>Sa Jm Z h) ?_;refine Uv Z (fun _ _=>Lu Z Z Kh) ?_;refine Rg Z (fun _ _=>Qt (a:=.int _ _) (b:=.int _ _) (c:=.int _ _) Gl Z Z Z) (fun w' hw'=>(k2 _)) ?_;refine Mm Z<|Td Z<|Sd v Z<|Qe (k:=0) Jm Jw Jz Z (fun _=>Z) Z h exq Z Km ?_;rintro _ u2 C1;refine Rb Jo Ji Z<|Uv (v:=.int _ _) Z (fun w' hw'=>Xh Jk Z (((B1.J E2).J hw').cell Z)) ?_
      refine Qe Jl Ji Jk Z (fun _=>Z) Z C1 exq Z Km ?_;rintro _ _ rfl;refine Sv Z<|Mm Z<|Mh Z<|Qb (fun w3 E3=>?_);have:=E3.Z;refine Vy Z (fun h6=>?_) (fun h6=>?_);refine Vw<|Ym v Z<|Yq Jo Ji Z<|Uf Jk (B1.J exq) Z<|Vv Z (Xd (a:=v) (b:=.int _ _) Zl Z Z) (k3 _ _ (Ku exq h)) ?_;rintro u3 w4 ⟨E4,O2⟩;refine Ug u3 Z<|Yf Z<|Vt<|Yc ?_;refine Yl (v:=.tuple #[u3,.bool _]) Z ?_;exact ⟨_,rfl,exq,O2.toB.o.mono Kh⟩;exact Ks;exact Ks;exact Ks
    ·have hm:M=none:=hM.trans (by simp only [madeV];rw [if_neg (fun h=>absurd h.1 Kj),if_neg (fun h=>absurd h.1 Kj),if_neg (fun h=>absurd h.1 Kj),if_neg (fun h=>eb (by have:=h.2.2.2.2;rwa [Int.toNat_natCast,hbit] at this))])
     rw [hm,show og none=[] from rfl,show (none:Option (List (List Int))).isSome=false from rfl]
     focus
      refine Vw<|Xx Z Z Z ?_;rintro b1 w1 R1 E1 B1;have:=B1.lt;refine Um Z<|Yf Z<|Vt<|Vw<|Yq Jo Jn Z<|Rd Jp B1 Z<|Vv Z (Xl (a:=.string _) Gn Z) (k0 _) ?_;rintro _ w2 ⟨u1,rfl,E2,O1⟩;have:=E2.Z;refine Uy Z<|Qz u1 Z<|Qd Z<|Ug u1 Z<|Yf Z<|Vt<|Vx<|Ye<|Vw<|Yq Jo Ji Z<|Uf Jk (B1.J E2) Z<|Yt Z<|Un Z fun h1=>?_;refine Vu Z<|Vu Z<|Vu Z<|Xg Z<|Xu Z<|Vu Z<|Vu Z<|Vu Z<|Xg Z<|Yf Z<|Vt<|Yb Z ?_;refine Vw<|Yq Jo Ji Z<|Uf Jk (B1.J E2) Z<|Yt Z<|Un Z fun h2=>?_
      refine Vu Z<|Xg Z<|Xu Z<|Vu Z<|Vu Z<|Vu Z<|Xg Z<|Yf Z<|Vt<|Yb Z ?_;refine Vw<|Yq Jo Ji Z<|Uf Jk (B1.J E2) Z<|Yt Z<|Un Z fun h3=>?_;refine Vu Z<|Xg Z<|Xu Z<|Vu Z<|Vu Z<|Vu Z<|Xg Z<|Yf Z<|Vt<|Yb Z ?_;refine Vx<|Qi mixed Ki Z ?_;refine Rb Jo Ji Z<|Uv (v:=.int _ _) Z (fun w' hw'=>Xh Jk Z (((B1.J E2).J hw').cell Z)) ?_;refine Sv Z<|Rp Z (fun h4=>?_) (fun h4=>?_);refine Rb Jo Jn Z<|Uv (v:=.string _) Z (fun w' hw'=>Xh Jp Z (((B1.J E2).J hw').cell Z)) ?_
      refine Uv Z (fun _ _=>Yn Z Z) ?_;refine Mm Z<|Rp Z (fun h5=>?_) (fun h5=>?_);refine Rb Jo Ji Z<|Uv (v:=.int _ _) Z (fun w' hw'=>Xh Jk Z (((B1.J E2).J hw').cell Z)) ?_;refine Sd v Z<|Uv Z (fun _ _=>Sa Jm Z h) ?_;refine Uv Z (fun _ _=>Lu Z Z Kh) ?_;refine Rg Z (fun _ _=>Qt (a:=.int _ _) (b:=.int _ _) (c:=.int _ _) Gl Z Z Z) (fun w' hw'=>(k2 _)) ?_;refine Mm Z<|Td Z<|Sd v Z<|Qe (k:=0) Jm Jw Jz Z (fun _=>Z) Z h exq Z Km ?_;rintro _ u2 C1;refine Rb Jo Ji Z<|Uv (v:=.int _ _) Z (fun w' hw'=>Xh Jk Z (((B1.J E2).J hw').cell Z)) ?_
      refine Qe Jl Ji Jk Z (fun _=>Z) Z C1 exq Z Km ?_;rintro _ _ rfl;refine Sv Z<|Mm Z<|Mh Z<|Qb (fun w3 E3=>?_);have:=E3.Z;refine Yy Z fun h6=>?_;refine Ya<|Vw<|Uq (XSl 3 XInt) Z Sl Jw ?_;rintro b2 w4 R2 b2lt E4 O2;refine Um Z<|Yf Z<|Vt<|Yc ?_;refine Yl (v:=.tuple #[.slice _ _ _,.bool _]) Z ?_;exact ⟨_,rfl,exq,O2.toB.o.mono Kh⟩;exact Ks;exact Ks
   ·have k2 : ∀ w,Dz 116 [.int .i64 n,.int .i64 0,.int .i64 ((p.length:Int) - 1)] w (Ret w (.bool false)):=fun w=>by
     have:=Rt n 0 ((p.length:Int) - 1) w;rwa [decide_eq_false en] at this
    have hm:M=none:=hM.trans (by simp only [madeV];rw [if_neg (fun h=>absurd h.1 Kj),if_neg (fun h=>absurd h.1 Kj),if_neg (fun h=>absurd h.1 Kj),if_neg (fun h=>en ⟨h.2.2.1,by have:=h.2.2.2.1;omega⟩)])
    rw [hm,show og none=[] from rfl,show (none:Option (List (List Int))).isSome=false from rfl]
    focus
     refine Vw<|Xx Z Z Z ?_;rintro b1 w1 R1 E1 B1;have:=B1.lt;refine Um Z<|Yf Z<|Vt<|Vw<|Yq Jo Jn Z<|Rd Jp B1 Z<|Vv Z (Xl (a:=.string _) Gn Z) (k0 _) ?_;rintro _ w2 ⟨u1,rfl,E2,O1⟩;have:=E2.Z;refine Uy Z<|Qz u1 Z<|Qd Z<|Ug u1 Z<|Yf Z<|Vt<|Vx<|Ye<|Vw<|Yq Jo Ji Z<|Uf Jk (B1.J E2) Z<|Yt Z<|Un Z fun h1=>?_;refine Vu Z<|Vu Z<|Vu Z<|Xg Z<|Xu Z<|Vu Z<|Vu Z<|Vu Z<|Xg Z<|Yf Z<|Vt<|Yb Z ?_;refine Vw<|Yq Jo Ji Z<|Uf Jk (B1.J E2) Z<|Yt Z<|Un Z fun h2=>?_
     refine Vu Z<|Xg Z<|Xu Z<|Vu Z<|Vu Z<|Vu Z<|Xg Z<|Yf Z<|Vt<|Yb Z ?_;refine Vw<|Yq Jo Ji Z<|Uf Jk (B1.J E2) Z<|Yt Z<|Un Z fun h3=>?_;refine Vu Z<|Xg Z<|Xu Z<|Vu Z<|Vu Z<|Vu Z<|Xg Z<|Yf Z<|Vt<|Yb Z ?_;refine Vx<|Qi mixed Ki Z ?_;refine Rb Jo Ji Z<|Uv (v:=.int _ _) Z (fun w' hw'=>Xh Jk Z (((B1.J E2).J hw').cell Z)) ?_;refine Sv Z<|Rp Z (fun h4=>?_) (fun h4=>?_);refine Rb Jo Jn Z<|Uv (v:=.string _) Z (fun w' hw'=>Xh Jp Z (((B1.J E2).J hw').cell Z)) ?_
     refine Uv Z (fun _ _=>Yn Z Z) ?_;refine Mm Z<|Rp Z (fun h5=>?_) (fun h5=>?_);refine Rb Jo Ji Z<|Uv (v:=.int _ _) Z (fun w' hw'=>Xh Jk Z (((B1.J E2).J hw').cell Z)) ?_;refine Sd v Z<|Uv Z (fun _ _=>Sa Jm Z h) ?_;refine Uv Z (fun _ _=>Lu Z Z Kh) ?_;refine Rg Z (fun _ _=>Qt (a:=.int _ _) (b:=.int _ _) (c:=.int _ _) Gl Z Z Z) (fun w' hw'=>(k2 _)) ?_;refine Mm Z<|Td Z<|Yh Z<|Yh Z<|Yh Z<|Yh Z<|Yh Z<|Yh Z<|Yh Z<|Yh Z<|So Z<|Mh Z<|Qb (fun w3 E3=>?_);have:=E3.Z;refine Yb Z ?_;refine Ya<|Vw<|Uq (XSl 3 XInt) Z Sl Jw ?_;rintro b2 w4 R2 b2lt E4 O2
     refine Um Z<|Yf Z<|Vt<|Yc ?_;refine Yl (v:=.tuple #[.slice _ _ _,.bool _]) Z ?_;exact ⟨_,rfl,exq,O2.toB.o.mono Kh⟩;exact Ks;exact Ks
  ·have hm:M=none:=hM.trans (by simp only [madeV];rw [if_neg (fun h=>absurd h.1 Kj),if_neg (fun h=>absurd h.1 Kj),if_neg (fun h=>absurd h.1 Kj),if_neg (fun h=>et h.2.1)])
   rw [hm,show og none=[] from rfl,show (none:Option (List (List Int))).isSome=false from rfl]
   focus
    refine Vw<|Xx Z Z Z ?_;rintro b1 w1 R1 E1 B1;have:=B1.lt;refine Um Z<|Yf Z<|Vt<|Vw<|Yq Jo Jn Z<|Rd Jp B1 Z<|Vv Z (Xl (a:=.string _) Gn Z) (k0 _) ?_;rintro _ w2 ⟨u1,rfl,E2,O1⟩;have:=E2.Z;refine Uy Z<|Qz u1 Z<|Qd Z<|Ug u1 Z<|Yf Z<|Vt<|Vx<|Ye<|Vw<|Yq Jo Ji Z<|Uf Jk (B1.J E2) Z<|Yt Z<|Un Z fun h1=>?_;refine Vu Z<|Vu Z<|Vu Z<|Xg Z<|Xu Z<|Vu Z<|Vu Z<|Vu Z<|Xg Z<|Yf Z<|Vt<|Yb Z ?_;refine Vw<|Yq Jo Ji Z<|Uf Jk (B1.J E2) Z<|Yt Z<|Un Z fun h2=>?_
    refine Vu Z<|Xg Z<|Xu Z<|Vu Z<|Vu Z<|Vu Z<|Xg Z<|Yf Z<|Vt<|Yb Z ?_;refine Vw<|Yq Jo Ji Z<|Uf Jk (B1.J E2) Z<|Yt Z<|Un Z fun h3=>?_;refine Vu Z<|Xg Z<|Xu Z<|Vu Z<|Vu Z<|Vu Z<|Xg Z<|Yf Z<|Vt<|Yb Z ?_;refine Vx<|Qi mixed Ki Z ?_;refine Rb Jo Ji Z<|Uv (v:=.int _ _) Z (fun w' hw'=>Xh Jk Z (((B1.J E2).J hw').cell Z)) ?_;refine Sv Z<|Rp Z (fun h4=>?_) (fun h4=>?_);refine Rb Jo Jn Z<|Uv (v:=.string _) Z (fun w' hw'=>Xh Jp Z (((B1.J E2).J hw').cell Z)) ?_
    refine Uv Z (fun _ _=>Yn Z Z) ?_;refine Mm Z<|Rp Z (fun h5=>?_) (fun h5=>?_);exact Ks;refine Yh Z<|Yh Z<|Yh Z<|Yh Z<|Yh Z<|Yh Z<|So Z<|Td Z<|Yh Z<|Yh Z<|Yh Z<|Yh Z<|Yh Z<|Yh Z<|Yh Z<|Yh Z<|So Z<|Mh Z<|Qb (fun w3 E3=>?_);have:=E3.Z;refine Yb Z ?_;refine Ya<|Vw<|Uq (XSl 3 XInt) Z Sl Jw ?_;rintro b2 w4 R2 b2lt E4 O2;refine Um Z<|Yf Z<|Vt<|Yc ?_;refine Yl (v:=.tuple #[.slice _ _ _,.bool _]) Z ?_;exact ⟨_,rfl,exq,O2.toB.o.mono Kh⟩;exact Ks
 have hm:M=none:=hM.trans (by simp only [madeV];rw [if_neg (fun h=>e0 h.1),if_neg (fun h=>e1 h.1),if_neg (fun h=>e2 h.1),if_neg (fun h=>e3 h.1)])
 rw [hm,show og none=[] from rfl,show (none:Option (List (List Int))).isSome=false from rfl]
 focus
  refine Vw<|Xx Z Z Z ?_;rintro b1 w1 R1 E1 B1;have:=B1.lt;refine Um Z<|Yf Z<|Vt<|Vw<|Yq Jo Jn Z<|Rd Jp B1 Z<|Vv Z (Xl (a:=.string _) Gn Z) (k0 _) ?_;rintro _ w2 ⟨u1,rfl,E2,O1⟩;have:=E2.Z;refine Uy Z<|Qz u1 Z<|Qd Z<|Ug u1 Z<|Yf Z<|Vt<|Vx<|Ye<|Vw<|Yq Jo Ji Z<|Uf Jk (B1.J E2) Z<|Yt Z<|Un Z fun h1=>?_;refine Vu Z<|Vu Z<|Vu Z<|Xg Z<|Xu Z<|Vu Z<|Vu Z<|Vu Z<|Xg Z<|Yf Z<|Vt<|Yb Z ?_;refine Vw<|Yq Jo Ji Z<|Uf Jk (B1.J E2) Z<|Yt Z<|Un Z fun h2=>?_
  refine Vu Z<|Xg Z<|Xu Z<|Vu Z<|Vu Z<|Vu Z<|Xg Z<|Yf Z<|Vt<|Yb Z ?_;refine Vw<|Yq Jo Ji Z<|Uf Jk (B1.J E2) Z<|Yt Z<|Un Z fun h3=>?_;refine Vu Z<|Xg Z<|Xu Z<|Vu Z<|Vu Z<|Vu Z<|Xg Z<|Yf Z<|Vt<|Yb Z ?_;refine Vx<|Qi mixed Ki Z ?_;refine Rb Jo Ji Z<|Uv (v:=.int _ _) Z (fun w' hw'=>Xh Jk Z (((B1.J E2).J hw').cell Z)) ?_;refine Sv Z<|Rp Z (fun h4=>?_) (fun h4=>?_);exact Ks
  refine Yh Z<|Yh Z<|Yh Z<|So Z<|Td Z<|Yh Z<|Yh Z<|Yh Z<|Yh Z<|Yh Z<|Yh Z<|So Z<|Td Z<|Yh Z<|Yh Z<|Yh Z<|Yh Z<|Yh Z<|Yh Z<|Yh Z<|Yh Z<|So Z<|Mh Z<|Qb (fun w3 E3=>?_);have:=E3.Z;refine Yb Z ?_;refine Ya<|Vw<|Uq (XSl 3 XInt) Z Sl Jw ?_;rintro b2 w4 R2 b2lt E4 O2;refine Um Z<|Yf Z<|Vt<|Yc ?_;refine Yl (v:=.tuple #[.slice _ _ _,.bool _]) Z ?_;exact ⟨_,rfl,exq,O2.toB.o.mono Kh⟩
open Classical in
theorem spec_DeskDo_ok (w:World) (u1 u2:Value) (d:Dsk) (h1:ESl Ints w u1 d.now) (h2:ESl (ESl Ints) w u2 d.past) (k n:Int) (t:List UInt8) (ht:t.length≤1048576) :
  Dz 37 [.agg #[u1,u2],.agg #[.int .i64 k,str t,.int .i64 n]] w (RetDkAB w (if DkOk d then (doV d ⟨k,t,n⟩).1.now else []) (if DkOk d then (doV d ⟨k,t,n⟩).1.past else []) (decide (DkOk d) && (doV d ⟨k,t,n⟩).2)):=by
 obtain ⟨p,pp⟩:=d
 have hle:=h2.le
 have i1:isCell u1=true:=Qy h1
 have i2:isCell u2=true:=Qy h2
 simp only at h1 h2 hle
 refine Sy Tryz.func37 Z Tryz.results37 Tryz.ntmps37 Z Jq Jj ?_
 by_cases hd:DkOk ⟨p,pp⟩
 ·have k0 : ∀ w,ESl Ints w u1 p→ESl (ESl Ints) w u2 pp→Dz 16 [.agg #[u1,u2]] w (Ret w (.bool true)):=fun w h1 h2=>by
   have:=Rk w u1 u2 ⟨p,pp⟩ h1 h2;rwa [decide_eq_true hd] at this
  have hpp:Pic p:=hd.1.1
  have hppl:pp.length≤8:=hd.2.1
  have R1:p.length≤100∧∀ r ∈ p,r.length≤100:=⟨by have:=hpp.2.1;omega,fun r hr=>by rw [(hpp.2.2 r hr).1];have:=hpp.2.1;omega⟩
  have R2 : ∀ q ∈ pp,q.length≤100∧∀ r ∈ q,r.length≤100:=fun q hq=>by
   have hq:=(hd.2.2 q hq).1
   exact ⟨by have:=hq.2.1;omega,fun r hr=>by rw [(hq.2.2 r hr).1];have:=hq.2.1;omega⟩
  have k1 : ∀ w,ESl Ints w u1 p→ESl (ESl Ints) w u2 pp→Dz 60 [.agg #[u1,u2]] w (RetDk w 23 88 3 p pp):=fun w h1 h2=>Lt w u1 u2 p pp h1 h2 R1 Kh R2
  rw [if_pos hd,if_pos hd,decide_eq_true hd,Bool.true_and]
  by_cases hb:isBack ⟨p,pp⟩ ⟨k,t,n⟩
  ·obtain ⟨e,hne⟩:=hb
   cases e
   have hpl:0 < pp.length:=List.length_pos_iff.2 hne
   have hdo:doV ⟨p,pp⟩ ⟨4,[],0⟩=(⟨pp.getLastD [],pp.dropLast⟩,true):=by unfold doV;rw [if_pos ⟨rfl,hne⟩]
   rw [hdo]
   simp only
   have stop6:True:=trivial
   focus
    refine Vw<|Xx Z Z Z ?_;rintro b1 w1 R3 E1 B1;have:=B1.lt;have:=E1.Z;refine Xx Z Z Z ?_;rintro b2 w2 R4 E2 B2;have:=B2.lt;refine Xi Z Xz ?_;rintro b3 w3 R5 E3 B3;have:=B3.lt;refine Yf Z<|Vt<|Vx<|Vx<|Ys<|Uk Jq Jj (B1.J exq) Z<|Vv Z (Xl (a:=.agg _) Gp Z) (k0 _ (Ku exq h1) (Ku exq h2)) ?_;rintro _ w4 ⟨rfl,E4⟩;have:=E4.Z;refine Ub Z<|Vt<|Uo Z fun h3=>?_;refine Ya<|Vw<|Uk Jq Jj (B1.J exq) Z<|Vv Z (Xl (a:=.agg _) Zk Z) (k1 _ (Ku exq h1) (Ku exq h2)) ?_;rintro _ w5 ⟨u3,q1,m1,rfl,E5,O1,H1,X1,U1⟩;have Y3:=Kx O1;have N1:=Kx (Je H1);have cpq1:=OwnedB.capOk (Je H1)
    have:=E5.Z;refine Xi Z Xz ?_;rintro b4 w6 R6 E6 B4;refine Up Z Jj Z Z Kl Kl B4 Kh (((((E1.K E2).K E3).K E4).K E5).K E6) ?_;rintro w7 E7 B4 K1 Q1;have E8:=((((E2.K E3).K E4).K E5).K E6).A exq E7 K1 Q1 Kh;have:=E8.Z;have E9:=(((E3.K E4).K E5).K E6).A exq E7 K1 Q1 Kh;have E10:=((E4.K E5).K E6).A exq E7 K1 Q1 Kh;have E11:=(E5.K E6).A exq E7 K1 Q1 Kh;have E12:=E6.A exq E7 K1 Q1 Kh;have B1:=(B1.J exq).Y (K1 _ Kh);have B2:=(B2.J exq).Y (K1 _ Kh);have B3:=(B3.J exq).Y (K1 _ Kh);have O1:=(O1.J E6).W K1 Kh;have H1:=(H1.toB.J E6).W K1 Kh
    refine Vt<|Vx<|Vw<|Rq Gb Ju B2 Z<|Wo Z (Yz (ps:=[(0,.int _ _)]) (cs:=[_,_,_]) Xt Z Z)<|Wo Z (Nb Z Z)<|Xo Z (fun h4=>?_) (fun h4=>?_);refine Yq Jv Ga Z<|Uc u2 Gd B1 Z<|Yu Gc Z h2<|Qg Z<|Ue Z<|Vt<|Vy Z (fun h5=>?_) (fun h5=>?_);refine Vw<|Yq Jv Ga Z<|Uc q1 Gd B4 Z<|Yu Gc Z (Kw H1)<|Sg Z<|Xc Z<|Vt<|Vx ?_;rotate_left;exact Kt;exact Ks
   clear stop6
   obtain ⟨qb,qc,ur,rfl,hqc,hcl,hel,hqb,hqb2,icr⟩:=H1.elem (i:=pp.length - 1) Kh
   have hcl:w7.cell? ⟨qb,0+((pp.length:Int) - 1).toNat,none⟩=some ur:=by rw [Nat.zero_add,show ((pp.length:Int) - 1).toNat=pp.length - 1 by omega];exact hcl
   focus
    have:=E7.Z;refine Ys<|Yq Jv Ga Z<|Rn Gd B4 Z<|Yd Z<|Wo Z (Qx Gc Jx Z Z Kh) ?_;refine Wo Z (Xh Jt Z Kk) ?_;refine Yq Jv Jx Z<|Us (v:=ur) Z Jx Z Z (Kx hel) B4 Kp Kh E7 ?_;rintro w8 E13 B4 K2 Q2;have E14:=E8.A E7 E13 K2 Q2 Kh;have E15:=E9.A E7 E13 K2 Q2 Kh;simp only [List.set] at B4;have B3:=B3.Y (K2 _ Kh);have H1:=H1.W K2 Kh;have hel:=hel.W K2 Kh;refine Vt<|Vx<|Ys<|Yq Jv Ga Z<|Rn Gd B4 Z<|Yd Z<|Wo Z (Sp Gc Jx Z Z Kh) ?_
    refine Yq Jv Ga Z<|Us (v:=.slice _ _ _) Z Ga Z Z Z B4 Kp Kh E13 ?_;rintro w9 E19 B4 K3 Q3;simp only [List.set] at B4;have B3:=B3.Y (K3 _ Kh);have H1:=H1.W K3 Kh;have hel:=hel.W K3 Kh;refine Vt<|Vw<|Uk Jq Jj B4 Z<|Uz Jj B3 Z E19 ?_;rintro w10 E25 B3 K4 Q4;have H1:=H1.W K4 Kh;have hel:=hel.W K4 Kh;refine Yf Z<|Vt<|Yc ?_
   have hlast:pp.getLastD []=pp[pp.length - 1]:=by rw [List.getLastD_eq_getLast?,List.getLast?_eq_getElem?,List.getElem?_eq_getElem Kh];rfl
   rw [hlast,List.dropLast_eq_take]
   refine ⟨b3,ur,_,Z,B3,ur,_,Z,E25,hel.above.mono Kh,?_,icr,Z,Kh⟩
   rw [show ((pp.length:Int) - 1).toNat=pp.length - 1 by omega]
   exact (H1.above.mono Kh).takeS Kh
  ·have hdo:doV ⟨p,pp⟩ ⟨k,t,n⟩=match nextV p ⟨k,t,n⟩ with
    | some c=>(⟨c,last8 (pp++[p])⟩,true)
    | none=>(⟨p,pp⟩,false):=by unfold doV;rw [if_neg hb];rfl
   rw [hdo]
   have hback:(⟨k,t,n⟩:Deed)=⟨4,[],0⟩→pp.length=0:=fun e=>Classical.byContradiction fun h=>hb ⟨e,fun h'=>h (by rw [show pp=[] from h'];rfl)⟩
   have k2 : ∀ w,ESl Ints w u1 p→Dz 93 [u1,.agg #[.int .i64 k,str t,.int .i64 n]] w (RetOB w XR (og (madeV p ⟨k,t,n⟩)) (madeV p ⟨k,t,n⟩).isSome):=fun w h=>l11Made_ok w u1 p h hpp k n t ht
   have litown:True:=trivial
   by_cases ha:(⟨k,t,n⟩:Deed)=⟨4,[],0⟩
   ·have hpl0:=hback ha
    cases ha
    have hmv:madeV p ⟨4,[],0⟩=none:=by simp [madeV]
    have hnx:nextV p ⟨4,[],0⟩=none:=by unfold nextV;rw [hmv]
    rw [hmv,show og none=[] from rfl,show (none:Option (List (List Int))).isSome=false from rfl] at k2
    rw [hnx]
    simp only
    focus
     refine Vw<|Xx Z Z Z ?_;rintro b1 w1 R3 E1 B1;have:=B1.lt;refine Xx Z Z Z ?_;rintro b2 w2 R4 E2 B2;have:=B2.lt;refine Xi Z Xz ?_;rintro b3 w3 R5 E3 B3;have:=B3.lt;refine Yf Z<|Vt<|Vx<|Vx<|Ys<|Uk Jq Jj (B1.J exq) Z<|Vv Z (Xl (a:=.agg _) Gp Z) (k0 _ (Ku exq h1) (Ku exq h2)) ?_;rintro _ w4 ⟨rfl,E4⟩;have:=E4.Z;refine Ub Z<|Vt<|Uo Z fun h3=>?_;refine Ya<|Vw<|Uk Jq Jj (B1.J exq) Z<|Vv Z (Xl (a:=.agg _) Zk Z) (k1 _ (Ku exq h1) (Ku exq h2)) ?_;rintro _ w5 ⟨u3,q1,m1,rfl,E5,O1,H1,X1,U1⟩;have Y3:=Kx O1;have N1:=Kx (Je H1);have:=E5.Z;refine Xi Z Xz ?_
     rintro b4 w6 R6 E6 B4;refine Up Z Jj Z Z Kl Kl B4 Kh (((((E1.K E2).K E3).K E4).K E5).K E6) ?_;rintro w7 E7 B4 K1 Q1;have E8:=((((E2.K E3).K E4).K E5).K E6).A exq E7 K1 Q1 Kh;have B1:=(B1.J exq).Y (K1 _ Kh);have B2:=(B2.J exq).Y (K1 _ Kh);have B3:=(B3.J exq).Y (K1 _ Kh);have O1:=(O1.J E6).W K1 Kh;have H1:=(H1.toB.J E6).W K1 Kh;refine Vt<|Vx<|Vw<|Rq Gb Ju B2 Z<|Wo Z (Yz (ps:=[(0,.int _ _)]) (cs:=[_,_,_]) Xt Z Z)<|Wo Z (Nb Z Z)<|Xo Z (fun h4=>?_) (fun h4=>?_)
     refine Yq Jv Ga Z<|Uc u2 Gd B1 Z<|Yu Gc Z h2<|Qg Z<|Ue Z<|Vt<|Vz Z fun h5=>?_;refine Ya<|Vx<|Ys<|Yq Jv Jx Z<|Uc u1 Jt B1 Z<|Rq Gb Ju B2 Z<|Vv Z (Xd (a:=u1) (b:=.agg _) Ve Z Z) (k2 _ (Ku E7 h1)) ?_;rintro _ w8 ⟨u4,rfl,E13,O2⟩;refine Uy Z<|Qz u4 Z<|Qd Z<|Ug u4 Z<|Yf Z<|Vt<|Vx<|Vx<|Qi mixed Ki Z ?_;refine Td Z<|Mp Z<|St Z (fun _ _=>Xn (v:=.bool _) Z) (fun h6=>?_) (fun h6=>?_)
     refine Yh Z<|Yh Z<|Yh Z<|Yh Z<|Yh Z<|Yh Z<|Yh Z<|Yh Z<|Yh Z<|Yh Z<|Yh Z<|Yh Z<|Yh Z<|Yh Z<|Mm Z<|Qb (fun w9 E14=>?_);refine Xj Z ?_;refine Vw<|Uk Jq Jj (B4.J exq) Z<|Uz Jj (B3.J (E13.K E14)) Z ((E7.K E13).K E14) ?_;rintro w10 E15 B3 K2 Q2;have E16:=((E8.K E13).K E14).A exq E15 K2 Q2 Kh;have:=E16.Z;have O1:=(O1.J exq).W K2 Kh;have H1:=(H1.J exq).W K2 Kh;refine Yf Z<|Vt<|Yc ?_;rotate_left;exact Ks;exact Ks
    exact ⟨b3,u3,q1,rfl,B3,u3,q1,rfl,by exact E15,O1.above.mono Kh,H1.above.mono Kh,Y3,N1,Kh⟩
   ·cases hmv:madeV p ⟨k,t,n⟩ with
    | none =>
      have hnx : nextV p ⟨k, t, n⟩ = none := by unfold nextV; rw [hmv]
      rw [hmv, show og none = [] from rfl, show (none : Option (List (List Int))).isSome = false from rfl] at k2
      rw [hnx]
      simp only
      focus
        refine Vw<|Xx Z Z Z ?_; rintro b1 w1 R3 E1 B1; have := B1.lt; refine Xx Z Z Z ?_; rintro b2 w2 R4 E2 B2; have := B2.lt; refine Xi Z Xz ?_; rintro b3 w3 R5 E3 B3; have := B3.lt; refine Yf Z<|Vt<|Vx<|Vx<|Ys<|Uk Jq Jj (B1.J exq) Z<|Vv Z (Xl (a := .agg _) Gp Z) (k0 _ (Ku exq h1) (Ku exq h2)) ?_; rintro _ w4 ⟨rfl, E4⟩; have := E4.Z; refine Ub Z<|Vt<|Uo Z fun h3 => ?_; refine Ya<|Vw<|Uk Jq Jj (B1.J exq) Z<|Vv Z (Xl (a := .agg _) Zk Z) (k1 _ (Ku exq h1) (Ku exq h2)) ?_; rintro _ w5 ⟨u3, q1, m1, rfl, E5, O1, H1, X1, U1⟩; have Y3 := Kx O1; have N1 := Kx (Je H1); have := E5.Z; refine Xi Z Xz ?_
        rintro b4 w6 R6 E6 B4; refine Up Z Jj Z Z Kl Kl B4 Kh (((((E1.K E2).K E3).K E4).K E5).K E6) ?_; rintro w7 E7 B4 K1 Q1; have E8 := ((((E2.K E3).K E4).K E5).K E6).A exq E7 K1 Q1 Kh; have B1 := (B1.J exq).Y (K1 _ Kh); have B2 := (B2.J exq).Y (K1 _ Kh); have B3 := (B3.J exq).Y (K1 _ Kh); have O1 := (O1.J E6).W K1 Kh; have H1 := (H1.toB.J E6).W K1 Kh; refine Vt<|Vx<|Vw<|Rq Gb Ju B2 Z<|Wo Z (Yz (ps := [(0, .int _ _)]) (cs := [_, _, _]) Xt Z Z)<|Wo Z (Nb Z Z)<|Un Z fun h4 => ?_; refine Vu Z<|Vu Z<|Vu Z<|Vu Z<|Xg Z<|Vt<|Yb Z ?_
        refine Ya<|Vx<|Ys<|Yq Jv Jx Z<|Uc u1 Jt B1 Z<|Rq Gb Ju B2 Z<|Vv Z (Xd (a := u1) (b := .agg _) Ve Z Z) (k2 _ (Ku E7 h1)) ?_; rintro _ w8 ⟨u4, rfl, E13, O2⟩; refine Uy Z<|Qz u4 Z<|Qd Z<|Ug u4 Z<|Yf Z<|Vt<|Vx<|Vx<|Qi mixed Ki Z ?_; refine Td Z<|Mp Z<|St Z (fun _ _ => Xn (v := .bool _) Z) (fun h5 => ?_) (fun h5 => ?_); refine Yh Z<|Yh Z<|Yh Z<|Yh Z<|Yh Z<|Yh Z<|Yh Z<|Yh Z<|Yh Z<|Yh Z<|Yh Z<|Yh Z<|Yh Z<|Yh Z<|Mm Z<|Qb (fun w9 E14 => ?_); refine Xj Z ?_
        refine Vw<|Uk Jq Jj (B4.J exq) Z<|Uz Jj (B3.J (E13.K E14)) Z ((E7.K E13).K E14) ?_; rintro w10 E15 B3 K2 Q2; have E16 := ((E8.K E13).K E14).A exq E15 K2 Q2 Kh; have := E16.Z; have O1 := (O1.J exq).W K2 Kh; have H1 := (H1.J exq).W K2 Kh; refine Yf Z<|Vt<|Yc ?_; rotate_left; exact Ks
      exact ⟨b3, u3, q1, rfl, B3, u3, q1, rfl, by exact E15, O1.above.mono Kh, H1.above.mono Kh, Y3, N1, Kh⟩
    | some c =>
      rw [hmv, show og (some c) = c from rfl, show (some c).isSome = true from rfl] at k2
      have hc : LeastP c := Mx hpp hmv
      have hcp := hc.1
      have k3 : ∀ (w : World) (v : Value), ESl Ints w v c → Dz 62 [v] w (Ret w (str (txt c))) := fun w v h => by
        have := Qq w v _ h
        rwa [if_pos hcp] at this
      by_cases hcq : c = p
      · subst hcq
        have hnx : nextV c ⟨k, t, n⟩ = none := by unfold nextV; rw [hmv]; simp
        rw [hnx]
        simp only
        focus
          refine Vw<|Xx Z Z Z ?_; rintro b1 w1 R3 E1 B1; have := B1.lt; refine Xx Z Z Z ?_; rintro b2 w2 R4 E2 B2; have := B2.lt; refine Xi Z Xz ?_; rintro b3 w3 R5 E3 B3; have := B3.lt; refine Yf Z<|Vt<|Vx<|Vx<|Ys<|Uk Jq Jj (B1.J exq) Z<|Vv Z (Xl (a := .agg _) Gp Z) (k0 _ (Ku exq h1) (Ku exq h2)) ?_; rintro _ w4 ⟨rfl, E4⟩; have := E4.Z; refine Ub Z<|Vt<|Uo Z fun h3 => ?_; refine Ya<|Vw<|Uk Jq Jj (B1.J exq) Z<|Vv Z (Xl (a := .agg _) Zk Z) (k1 _ (Ku exq h1) (Ku exq h2)) ?_; rintro _ w5 ⟨u3, q1, m1, rfl, E5, O1, H1, X1, U1⟩; have Y3 := Kx O1; have N1 := Kx (Je H1); have := E5.Z; refine Xi Z Xz ?_
          rintro b4 w6 R6 E6 B4; refine Up Z Jj Z Z Kl Kl B4 Kh (((((E1.K E2).K E3).K E4).K E5).K E6) ?_; rintro w7 E7 B4 K1 Q1; have E8 := ((((E2.K E3).K E4).K E5).K E6).A exq E7 K1 Q1 Kh; have B1 := (B1.J exq).Y (K1 _ Kh); have B2 := (B2.J exq).Y (K1 _ Kh); have B3 := (B3.J exq).Y (K1 _ Kh); have O1 := (O1.J E6).W K1 Kh; have H1 := (H1.toB.J E6).W K1 Kh; refine Vt<|Vx<|Vw<|Rq Gb Ju B2 Z<|Wo Z (Yz (ps := [(0, .int _ _)]) (cs := [_, _, _]) Xt Z Z)<|Wo Z (Nb Z Z)<|Un Z fun h4 => ?_; refine Vu Z<|Vu Z<|Vu Z<|Vu Z<|Xg Z<|Vt<|Yb Z ?_
          refine Ya<|Vx<|Ys<|Yq Jv Jx Z<|Uc u1 Jt B1 Z<|Rq Gb Ju B2 Z<|Vv Z (Xd (a := u1) (b := .agg _) Ve Z Z) (k2 _ (Ku E7 h1)) ?_; rintro _ w8 ⟨u4, rfl, E13, O2⟩; refine Uy Z<|Qz u4 Z<|Qd Z<|Ug u4 Z<|Yf Z<|Vt<|Vx<|Vx<|Qi mixed Ki Z ?_; refine Td Z<|Mp Z<|St Z (fun _ _ => Xn (v := .bool _) Z) (fun h5 => ?_) (fun h5 => ?_); exact Ks; refine Sd u4 Z<|Uv Z (fun _ _ => Sa Jm Z (Kv O2)) ?_; refine Rb Jv Jx Z<|Uv (v := u1) Z (fun w' hw' => Xh Jt Z (((B1.J E13).J hw').cell Z)) ?_; refine Uv Z (fun _ _ => Sa Jm Z h1) ?_
          refine Sv Z<|Rp Z (fun h6 => ?_) (fun h6 => ?_); refine Sd u4 Z<|Rg Z (fun _ _ => Xl (a := u4) Gi Z) (fun w' hw' => (k3 _ _ ((Ku hw' (Kv O2))))) ?_; refine Rb Jv Jx Z<|Uv (v := u1) Z (fun w' hw' => Xh Jt Z (((B1.J E13).J hw').cell Z)) ?_; refine Rg Z (fun _ _ => Xl (a := u1) Gi Z) (fun w' hw' => (k3 _ _ (Ku exq h1))) ?_; refine Uv Z (fun _ _ => Yn Z Z) ?_; refine Mm Z<|So Z<|Qb (fun w9 E14 => ?_); refine Vy Z (fun h7 => ?_) (fun h7 => ?_); refine Vw<|Uk Jq Jj (B4.J exq) Z<|Uz Jj (B3.J (E13.K E14)) Z ((E7.K E13).K E14) ?_; rintro w10 E15 B3 K2 Q2; have E16 := ((E8.K E13).K E14).A exq E15 K2 Q2 Kh; have := E16.Z
          have O1 := (O1.J exq).W K2 Kh; have H1 := (H1.J exq).W K2 Kh; refine Yf Z<|Vt<|Yc ?_; rotate_left; exact Ks; exact Ks
        exact ⟨b3, u3, q1, rfl, B3, u3, q1, rfl, by exact E15, O1.above.mono Kh, H1.above.mono Kh, Y3, N1, Kh⟩
      · have hnx : nextV p ⟨k, t, n⟩ = some c := by unfold nextV; rw [hmv]; simp [hcq]
        rw [hnx]
        simp only
        have k4 : ∀ (w : World) (v : Value), ESl Ints w v p → Dz 62 [v] w (Ret w (str (txt p))) := fun w v h => by
          have := Qq w v _ h
          rwa [if_pos hpp] at this
        have htx : txt c ≠ txt p := fun e => hcq (txt_inj hcp.gr hpp.gr e)
        have stop12 : True := trivial
        focus
          refine Vw<|Xx Z Z Z ?_; rintro b1 w1 R3 E1 B1; have := B1.lt; have := E1.Z; refine Xx Z Z Z ?_; rintro b2 w2 R4 E2 B2; have := B2.lt; refine Xi Z Xz ?_; rintro b3 w3 R5 E3 B3; have := B3.lt; refine Yf Z<|Vt<|Vx<|Vx<|Ys<|Uk Jq Jj (B1.J exq) Z<|Vv Z (Xl (a := .agg _) Gp Z) (k0 _ (Ku exq h1) (Ku exq h2)) ?_; rintro _ w4 ⟨rfl, E4⟩; have := E4.Z; refine Ub Z<|Vt<|Uo Z fun h3 => ?_; refine Ya<|Vw<|Uk Jq Jj (B1.J exq) Z<|Vv Z (Xl (a := .agg _) Zk Z) (k1 _ (Ku exq h1) (Ku exq h2)) ?_; rintro _ w5 ⟨u3, q1, m1, rfl, E5, O1, H1, X1, U1⟩; have Y3 := Kx O1; have N1 := Kx (Je H1); have := E5.Z; refine Xi Z Xz ?_
          rintro b4 w6 R6 E6 B4; have := B4.lt; have := E6.Z; refine Up Z Jj Z Z Kl Kl B4 Kh (((((E1.K E2).K E3).K E4).K E5).K E6) ?_; rintro w7 E7 B4 K1 Q1; have E8 := ((((E2.K E3).K E4).K E5).K E6).A exq E7 K1 Q1 Kh; have E9 := (((E3.K E4).K E5).K E6).A exq E7 K1 Q1 Kh; have E10 := ((E4.K E5).K E6).A exq E7 K1 Q1 Kh; have E11 := (E5.K E6).A exq E7 K1 Q1 Kh; have B1 := (B1.J exq).Y (K1 _ Kh); have B2 := (B2.J exq).Y (K1 _ Kh); have B3 := (B3.J exq).Y (K1 _ Kh); have O1 := (O1.J E6).W K1 Kh; have H1 := (H1.toB.J E6).W K1 Kh
          refine Vt<|Vx<|Vw<|Rq Gb Ju B2 Z<|Wo Z (Yz (ps := [(0, .int _ _)]) (cs := [_, _, _]) Xt Z Z)<|Wo Z (Nb Z Z)<|Un Z fun h4 => ?_; refine Vu Z<|Vu Z<|Vu Z<|Vu Z<|Xg Z<|Vt<|Yb Z ?_; refine Ya<|Vx<|Ys<|Yq Jv Jx Z<|Uc u1 Jt B1 Z<|Rq Gb Ju B2 Z<|Vv Z (Xd (a := u1) (b := .agg _) Ve Z Z) (k2 _ (Ku E7 h1)) ?_; rintro _ w8 ⟨u4, rfl, E13, O2⟩; have ichO2 := Kx (Je O2); have := E13.Z; refine Uy Z<|Qz u4 Z<|Qd Z<|Ug u4 Z<|Yf Z<|Vt<|Vx<|Vx<|Qi mixed Ki Z ?_
          refine Td Z<|Mp Z<|St Z (fun _ _ => Xn (v := .bool _) Z) (fun h5 => ?_) (fun h5 => ?_); exact Ks; refine Sd u4 Z<|Uv Z (fun _ _ => Sa Jm Z (Kv O2)) ?_; refine Rb Jv Jx Z<|Uv (v := u1) Z (fun w' hw' => Xh Jt Z (((B1.J E13).J hw').cell Z)) ?_; refine Uv Z (fun _ _ => Sa Jm Z h1) ?_; refine Sv Z<|Rp Z (fun h6 => ?_) (fun h6 => ?_); refine Sd u4 Z<|Rg Z (fun _ _ => Xl (a := u4) Gi Z) (fun w' hw' => (k3 _ _ ((Ku hw' (Kv O2))))) ?_; refine Rb Jv Jx Z<|Uv (v := u1) Z (fun w' hw' => Xh Jt Z (((B1.J E13).J hw').cell Z)) ?_
          refine Rg Z (fun _ _ => Xl (a := u1) Gi Z) (fun w' hw' => (k4 _ _ (Ku exq h1))) ?_; refine Uv Z (fun _ _ => Yn Z Z) ?_; refine Mm Z<|So Z<|Qb (fun w9 E14 => ?_); have := E14.Z; refine Yy Z fun h7 => ?_; refine Ya<|Vx ?_; rotate_left; refine Yh Z<|Yh Z<|Yh Z<|Yh Z<|Yh Z<|Yh Z<|So Z<|So Z<|Qb (fun w9 E14 => ?_); have := E14.Z; refine Yb Z ?_; refine Ya<|Vx ?_; rotate_left
        · clear stop12
          have stop13 : True := trivial
          have H0 := H1
          focus
            refine Ys<|Yq Jv Ga Z<|Uc q1 Gd (B4.J exq) Z<|Yq Jv Jx Z<|Uc u3 Jt (B4.J exq) Z<|Qj Z Gc Jx Ze Z (Kx (O1.J exq)) Z ?_; rintro b5 w10 R7 E15 B5 T5; have := E15.Z; refine Wo_app1r Z el24 Z Z B5 (H0.J ((E13.K E14).K E15)) (O1.J ((E13.K E14).K E15)) Km Kh Kh (((E7.K E13).K E14).K E15) Kh ?_; have V1 := (H0.J ((E13.K E14).K E15)); rintro v1 w11 H0 E16 M1; have E17 := M1.J V1 (((E8.K E13).K E14).K E15) Kh; have := E17.Z; have E18 := M1.J V1 (((E9.K E13).K E14).K E15) Kh; have E19 := M1.J V1 (((E10.K E13).K E14).K E15) Kh
            have E20 := M1.J V1 (((E11.K E13).K E14).K E15) Kh; have B4 := (B4.J exq).moves M1 V1 Kh; have B1 := (B1.J exq).moves M1 V1 Kh; have B2 := (B2.J exq).moves M1 V1 Kh; have B3 := (B3.J exq).moves M1 V1 Kh; have O1 := (O1.J exq).moves M1 V1 Kh; have O2 := (O2.toB.J exq).moves M1 V1 Kh; have B5 := B5.moves M1 V1 Kh; have := E16.Z; have icv1 := Kx (Je H0); refine Yq Jv Ga Z<|Us (v := v1) Z Ga Z Z (Kx H0.toB) B4 Kp Kh E16 ?_; rintro w12 E21 B4 K2 Q2; have E22 := E17.A E16 E21 K2 Q2 Kh; have E23 := E18.A E16 E21 K2 Q2 Kh; have E24 := E19.A E16 E21 K2 Q2 Kh; have E25 := E20.A E16 E21 K2 Q2 Kh; simp only [List.set] at B4
            have B1 := B1.Y (K2 _ Kh); have B2 := B2.Y (K2 _ Kh); have B3 := B3.Y (K2 _ Kh); have O1 := O1.W K2 Kh; have O2 := O2.W K2 Kh; have B5 := B5.Y (K2 _ Kh); refine Vt<|Vx<|Vx ?_
          clear stop13
          have hM : Moves w10 q1 w11 v1 := M1
          have hne := hM.ne H1 (b := b4) Kh Kh
          clear H1
          obtain ⟨nb, nc, rfl, hnc⟩ := H0.lit Kp
          have hnl : (pp ++ [p]).length = pp.length + 1 := Kp
          rw [hnl] at B4 H0 hne hnc
          focus
            have := E7.Z; refine Ys<|Yq Jv Ga Z<|Rn Gd B4 Z<|Yu Gc Z (Kv H0)<|Qg Z<|Vt<|Vy Z (fun h8 => ?_) (fun h8 => ?_); refine Ys<|Yq Jv Ga Z<|Rn Gd B4 Z<|Wo Z (Sk Gc Jx Z Z Kh) ?_; refine Yq Jv Ga Z<|Us (v := .slice _ _ _) Z Ga Z Z Z B4 Kp Kh E21 ?_; rintro w13 E26 B4 K3 Q3; have E27 := E22.A E21 E26 K3 Q3 Kh; have E28 := E23.A E21 E26 K3 Q3 Kh; simp only [List.set] at B4; have B3 := B3.Y (K3 _ Kh); have O2 := O2.W K3 Kh
            refine Vt<|Vw<|Ym u4 Z<|Yq Jv Jx Z<|Us (v := u4) Z Jx Z Z (Kx O2) B4 Kp Kh E26 ?_; rintro w14 E31 B4 K4 Q4; simp only [List.set] at B4; have B3 := B3.Y (K4 _ Kh); have O2 := O2.W K4 Kh; refine Vt<|Vw<|Uk Jq Jj B4 Z<|Uz Jj B3 Z E31 ?_; rintro w15 E36 B3 K5 Q5; have O2 := O2.W K5 Kh; refine Yf Z<|Vt<|Yc ?_; rotate_left; refine Ya<|Vw<|Ym u4 Z<|Yq Jv Jx Z<|Us (v := u4) Z Jx Z Z (Kx O2) B4 Kp Kh E21 ?_; rintro w13 E26 B4 K3 Q3; simp only [List.set] at B4; have B3 := B3.Y (K3 _ Kh); have O2 := O2.W K3 Kh
            refine Vt<|Vw<|Uk Jq Jj B4 Z<|Uz Jj B3 Z E26 ?_; rintro w14 E31 B3 K4 Q4; have O2 := O2.W K4 Kh; refine Yf Z<|Vt<|Yc ?_; rotate_left
          · have H3 := (H0.wroteLt (w' := w15) (fun k h1 h2 => (K5 k Kh).trans ((K4 k h2).trans ((K3 k h2).trans (K2 k h2)))) Kh hne).above.mono (show w.heap.size ≤ w4.heap.size by omega)
            refine ⟨b3, u4, _, Z, B3, u4, _, Z, by exact E36, O2.above.mono Kh, ?_, Kk, Z, Kh⟩
            rw [show last8 (pp ++ [p]) = (pp ++ [p]).drop 1 from if_pos Kh]
            exact H3.dropS Kh
          · have H3 := (H0.wroteLt (w' := w14) (fun k h1 h2 => (K4 k Kh).trans ((K3 k h2).trans (K2 k h2))) Kh hne).above.mono (show w.heap.size ≤ w4.heap.size by omega)
            refine ⟨b3, u4, _, Z, B3, u4, _, Z, by exact E31, O2.above.mono Kh, ?_, Kk, Z, Kh⟩
            rw [show last8 (pp ++ [p]) = pp ++ [p] from if_neg Kh]
            exact H3
        · clear stop12
          have stop13 : True := trivial
          have H0 := H1
          focus
            refine Ys<|Yq Jv Ga Z<|Uc q1 Gd (B4.J exq) Z<|Yq Jv Jx Z<|Uc u3 Jt (B4.J exq) Z<|Qj Z Gc Jx Ze Z (Kx (O1.J exq)) Z ?_; rintro b5 w10 R7 E15 B5 T5; have := E15.Z; refine Wo_app1r Z el24 Z Z B5 (H0.J ((E13.K E14).K E15)) (O1.J ((E13.K E14).K E15)) Km Kh Kh (((E7.K E13).K E14).K E15) Kh ?_; have V1 := (H0.J ((E13.K E14).K E15)); rintro v1 w11 H0 E16 M1; have E17 := M1.J V1 (((E8.K E13).K E14).K E15) Kh; have := E17.Z; have E18 := M1.J V1 (((E9.K E13).K E14).K E15) Kh; have E19 := M1.J V1 (((E10.K E13).K E14).K E15) Kh
            have E20 := M1.J V1 (((E11.K E13).K E14).K E15) Kh; have B4 := (B4.J exq).moves M1 V1 Kh; have B1 := (B1.J exq).moves M1 V1 Kh; have B2 := (B2.J exq).moves M1 V1 Kh; have B3 := (B3.J exq).moves M1 V1 Kh; have O1 := (O1.J exq).moves M1 V1 Kh; have O2 := (O2.toB.J exq).moves M1 V1 Kh; have B5 := B5.moves M1 V1 Kh; have := E16.Z; have icv1 := Kx (Je H0); refine Yq Jv Ga Z<|Us (v := v1) Z Ga Z Z (Kx H0.toB) B4 Kp Kh E16 ?_; rintro w12 E21 B4 K2 Q2; have E22 := E17.A E16 E21 K2 Q2 Kh; have E23 := E18.A E16 E21 K2 Q2 Kh; have E24 := E19.A E16 E21 K2 Q2 Kh; have E25 := E20.A E16 E21 K2 Q2 Kh; simp only [List.set] at B4
            have B1 := B1.Y (K2 _ Kh); have B2 := B2.Y (K2 _ Kh); have B3 := B3.Y (K2 _ Kh); have O1 := O1.W K2 Kh; have O2 := O2.W K2 Kh; have B5 := B5.Y (K2 _ Kh); refine Vt<|Vx<|Vx ?_
          clear stop13
          have hM : Moves w10 q1 w11 v1 := M1
          have hne := hM.ne H1 (b := b4) Kh Kh
          clear H1
          obtain ⟨nb, nc, rfl, hnc⟩ := H0.lit Kp
          have hnl : (pp ++ [p]).length = pp.length + 1 := Kp
          rw [hnl] at B4 H0 hne hnc
          focus
            have := E7.Z; refine Ys<|Yq Jv Ga Z<|Rn Gd B4 Z<|Yu Gc Z (Kv H0)<|Qg Z<|Vt<|Vy Z (fun h7 => ?_) (fun h7 => ?_); refine Ys<|Yq Jv Ga Z<|Rn Gd B4 Z<|Wo Z (Sk Gc Jx Z Z Kh) ?_; refine Yq Jv Ga Z<|Us (v := .slice _ _ _) Z Ga Z Z Z B4 Kp Kh E21 ?_; rintro w13 E26 B4 K3 Q3; have E27 := E22.A E21 E26 K3 Q3 Kh; have E28 := E23.A E21 E26 K3 Q3 Kh; simp only [List.set] at B4; have B3 := B3.Y (K3 _ Kh); have O2 := O2.W K3 Kh
            refine Vt<|Vw<|Ym u4 Z<|Yq Jv Jx Z<|Us (v := u4) Z Jx Z Z (Kx O2) B4 Kp Kh E26 ?_; rintro w14 E31 B4 K4 Q4; simp only [List.set] at B4; have B3 := B3.Y (K4 _ Kh); have O2 := O2.W K4 Kh; refine Vt<|Vw<|Uk Jq Jj B4 Z<|Uz Jj B3 Z E31 ?_; rintro w15 E36 B3 K5 Q5; have O2 := O2.W K5 Kh; refine Yf Z<|Vt<|Yc ?_; rotate_left; refine Ya<|Vw<|Ym u4 Z<|Yq Jv Jx Z<|Us (v := u4) Z Jx Z Z (Kx O2) B4 Kp Kh E21 ?_; rintro w13 E26 B4 K3 Q3; simp only [List.set] at B4; have B3 := B3.Y (K3 _ Kh); have O2 := O2.W K3 Kh
            refine Vt<|Vw<|Uk Jq Jj B4 Z<|Uz Jj B3 Z E26 ?_; rintro w14 E31 B3 K4 Q4; have O2 := O2.W K4 Kh; refine Yf Z<|Vt<|Yc ?_; rotate_left
          · have H3 := (H0.wroteLt (w' := w15) (fun k h1 h2 => (K5 k Kh).trans ((K4 k h2).trans ((K3 k h2).trans (K2 k h2)))) Kh hne).above.mono (show w.heap.size ≤ w4.heap.size by omega)
            refine ⟨b3, u4, _, Z, B3, u4, _, Z, by exact E36, O2.above.mono Kh, ?_, Kk, Z, Kh⟩
            rw [show last8 (pp ++ [p]) = (pp ++ [p]).drop 1 from if_pos Kh]
            exact H3.dropS Kh
          · have H3 := (H0.wroteLt (w' := w14) (fun k h1 h2 => (K4 k Kh).trans ((K3 k h2).trans (K2 k h2))) Kh hne).above.mono (show w.heap.size ≤ w4.heap.size by omega)
            refine ⟨b3, u4, _, Z, B3, u4, _, Z, by exact E31, O2.above.mono Kh, ?_, Kk, Z, Kh⟩
            rw [show last8 (pp ++ [p]) = pp ++ [p] from if_neg Kh]
            exact H3
 ·have k0 : ∀ w,ESl Ints w u1 p→ESl (ESl Ints) w u2 pp→Dz 16 [.agg #[u1,u2]] w (Ret w (.bool false)):=fun w h1 h2=>by
   have:=Rk w u1 u2 ⟨p,pp⟩ h1 h2;rwa [decide_eq_false hd] at this
  rw [if_neg hd,if_neg hd,decide_eq_false hd,Bool.false_and]
  focus
   refine Vw<|Xx Z Z Z ?_;rintro b1 w1 R1 E1 B1;have:=B1.lt;refine Xx Z Z Z ?_;rintro b2 w2 R2 E2 B2;have:=B2.lt;refine Xi Z Xz ?_;rintro b3 w3 R3 E3 B3;refine Yf Z<|Vt<|Vx<|Vx<|Ys<|Uk Jq Jj (B1.J exq) Z<|Vv Z (Xl (a:=.agg _) Gp Z) (k0 _ (Ku exq h1) (Ku exq h2)) ?_;rintro _ w4 ⟨rfl,E4⟩;refine Ub Z<|Vt<|Ut Z (fun h3=>?_) (fun h3=>?_);refine Vw<|Wo Z (Yz (ps:=[]) (cs:=[_,_]) Xz Z Z)<|Up Z Jj Z Z Kl Kl (B3.J E4) Kh (((E1.K E2).K E3).K E4) ?_;rintro w5 E5 B3 K1 Q1;have E6:=((E2.K E3).K E4).A exq E5 K1 Q1 Kh;have:=E6.Z;refine Yf Z<|Vt<|Yc ?_
   rotate_left;exact Ks
  exact ⟨b3,_,_,rfl,B3,_,_,rfl,by exact E5,(Owned.nil (e:=0) (X:=XSl 0 XInt)).above,(Owned.nil (e:=0) (X:=XSl 0 (XSl 0 XInt))).above,rfl,rfl,Kh⟩
open Go.Lib (decDigits)
theorem enc_no (f:Fm):(32:UInt8) ∉ f.enc:=by
 induction f <;> simp_all [Fm.enc]
theorem ask2_no {p:List (List Int)} {a r:List UInt8} (h:(32:UInt8) ∈ r):ask2 p a r=[119,104,97,116]:=by
 have h1:okF r=false:=by
  unfold okF
  cases hf:theF r with
  | none=>rfl
  | some f=>have:=(theF_some.1 hf).1;subst this;exact absurd h (enc_no f)
 have h2:(rdP r).isSome=false:=by
  cases hq:rdP r with
  | none=>rfl
  | some q=>have:=Ty hq;rw [← this.2] at h;exact absurd h (txt_no this.1.gr Kj)
 unfold ask2;rw [h1,h2];simp
theorem ask_words (p:List (List Int)) (s:List UInt8) :
  (∃ ps,cutB 32 s=ps∧ps.length≠2∧(if (cutF 32 s).2.2 then ask2 p (cutF 32 s).1 (cutF 32 s).2.1 else [119,104,97,116])=[119,104,97,116])
  ∨ ∃ a r,cutB 32 s=[a,r]∧r.length≤s.length∧(if (cutF 32 s).2.2 then ask2 p (cutF 32 s).1 (cutF 32 s).2.1 else [119,104,97,116])=ask2 p a r:=by
 rcases byte_ind 32 s with h | ⟨a,r,rfl,h⟩
 ·left
  exact ⟨_,rfl,by rw [Nx h];simp,by rw [cutF_no h];rfl⟩
 ·rw [Hb h,Mv h]
  by_cases hr:(32:UInt8) ∈ r
  ·left
   refine ⟨_,Z,?_,by rw [if_pos Z];exact ask2_no hr⟩
   have:=List.count_pos_iff.2 hr
   rw [List.length_cons,cutB_len];omega
  ·right
   exact ⟨a,r,by rw [Nx hr],Kg,by rw [if_pos rfl]⟩
open Classical in
theorem spec_DeskLine_ok (w:World) (u1 u2:Value) (d:Dsk) (h1:ESl Ints w u1 d.now) (h2:ESl (ESl Ints) w u2 d.past) (s:List UInt8) (hs:s.length≤1048576) :
  Dz 14 [.agg #[u1,u2],str s] w (RetDkRT w (dlV d s).1.now (dlV d s).1.past (dlV d s).2):=by
 have Y1:isCell u1=true:=Qy h1
 have Y2:isCell u2=true:=Qy h2
 have nil1 : ∀ (w w':World),w.heap.size≤w'.heap.size→OwnedB w.heap.size w'.heap.size (XRd (ESl Ints)) w' (.slice none 0 0) []:=fun w w' h=>(OwnedB.nil (e:=0) (X:=XSl 0 XInt)).rd
 have nil2 : ∀ (w w':World),w.heap.size≤w'.heap.size→OwnedB w.heap.size w'.heap.size (XRd (ESl (ESl Ints))) w' (.slice none 0 0) []:=fun w w' h=>(OwnedB.nil (e:=0) (X:=XSl 0 (XSl 0 XInt))).rd
 refine Sy Tryz.func14 Z Tryz.results14 Tryz.ntmps14 Z Jq Jj ?_
 by_cases hd:DkOk d
 ·rw [show dlV d s=lnV d s from if_pos hd]
  have bnd : ∀ q,Pic q→q.length≤100∧∀ r ∈ q,r.length≤100:=fun q hq=>⟨by have:=hq.2.1;omega,fun r hr=>by rw [(hq.2.2 r hr).1];have:=hq.2.1;omega⟩
  have hppl:=hd.2.1
  have hp:=hd.1.1
  have k0 : ∀ w,ESl Ints w u1 d.now→ESl (ESl Ints) w u2 d.past→Dz 16 [.agg #[u1,u2]] w (Ret w (.bool true)):=fun w h1 h2=>by
   have:=Rk w u1 u2 d h1 h2;rwa [decide_eq_true hd] at this
  have k1 : ∀ w,ESl Ints w u1 d.now→ESl (ESl Ints) w u2 d.past→Dz 60 [.agg #[u1,u2]] w (RetDk w 23 88 3 d.now d.past):=fun w h1 h2=>Lt w u1 u2 d.now d.past h1 h2 (bnd _ hd.1.1) Kh (fun q hq=>bnd q (hd.2.2 q hq).1)
  cases ha:rdD s with
  | some a =>
    rw [show lnV d s = ((doV d a).1, okV (doV d a).2) by unfold lnV; rw [ha]]
    have hat : a.text.length ≤ 1048576 := rdD_text ha hs
    have k2 : ∀ (w : World), Dz 61 [str s] w (Ret w (.tuple #[.agg #[.int .i64 a.kind, str a.text, .int .i64 a.node], .bool true])) := fun w => by
      have := Lf w s hs
      rw [ha] at this; exact this
    have k3 : ∀ (w : World), ESl Ints w u1 d.now → ESl (ESl Ints) w u2 d.past → Dz 37 [.agg #[u1, u2], .agg #[.int .i64 a.kind, str a.text, .int .i64 a.node]] w (RetDkRB w (doV d a).1.now (doV d a).1.past (doV d a).2) := fun w h1 h2 => by
      have := (spec_DeskDo_ok w u1 u2 d h1 h2 a.kind a.node a.text hat).mono fun _ _ h => h.r
      rwa [if_pos hd, if_pos hd, decide_eq_true hd, Bool.true_and] at this
    cases hb : (doV d a).2 with
    | true =>
      rw [hb] at k3
      focus
        refine Vw<|Xx Z Z Z ?_; rintro b1 w1 R1 E1 B1; have := B1.lt; refine Xi Z Xz ?_; rintro b2 w2 R2 E2 B2; have := B2.lt; refine Xy Z<|Vt<|Vx<|Vw<|Uk Jq Jj (B1.J E2) Z<|Vv Z (Xl (a := .agg _) Gp Z) (k0 _ (Ku exq h1) (Ku exq h2)) ?_; rintro _ w3 ⟨rfl, E3⟩; have := E3.Z; refine Ub Z<|Vt<|Uo Z fun h3 => ?_; refine Ya<|Vw<|Uk Jq Jj (B1.J exq) Z<|Vv Z (Xl (a := .agg _) Zk Z) (k1 _ (Ku exq h1) (Ku exq h2)) ?_; rintro _ w4 ⟨u3, q1, m1, rfl, E4, O1, H1, X1, U1⟩; have Y3 := Kx O1; have N1 := Kx (Je H1); have := E4.Z; refine Xi Z Xz ?_; rintro b3 w5 R3 E5 B3; have := B3.lt
        refine Up Z Jj Z Z Kl Kl B3 Kh ((((E1.K E2).K E3).K E4).K E5) ?_; rintro w6 E6 B3 K1 Q1; have E7 := (((E2.K E3).K E4).K E5).A exq E6 K1 Q1 Kh; have E8 := ((E3.K E4).K E5).A exq E6 K1 Q1 Kh; have E9 := (E4.K E5).A exq E6 K1 Q1 Kh; have E10 := E5.A exq E6 K1 Q1 Kh; have B1 := (B1.J exq).Y (K1 _ Kh); have B2 := (B2.J exq).Y (K1 _ Kh); have O1 := (O1.J E5).W K1 Kh; have H1 := (H1.toB.J E5).W K1 Kh; refine Vt<|Vw<|Xe Z<|Vv Z (Xl (a := .string _) Tryz.call61 Z) (k2 _) ?_; rintro _ w7 ⟨rfl, E11⟩; have := E11.Z; refine Uy Z<|Lp Z<|Qd Z<|Ql Z Xt ?_; rintro b4 w8 R4 E12 B4; have := B4.lt
        refine Qw Ju B4 Z ((E6.K E11).K E12) ?_; rintro w9 E13 B4 K2 Q2; have E14 := ((E7.K E11).K E12).A exq E13 K2 Q2 Kh; have I14 := E14.Z; have E15 := ((E8.K E11).K E12).A exq E13 K2 Q2 Kh; have I15 := E15.Z; have B1 := (B1.J exq).Y (K2 _ Kh); have B2 := (B2.J exq).Y (K2 _ Kh); refine Yf Z<|Vt<|Vx<|Vw<|Xu Z<|Vt<|Xj Z ?_; refine Vw<|Uk Jq Jj B1 Z<|Rq Gb Ju B4 Z<|Vv Z (Xd (a := .agg _) (b := .agg _) Zc Z Z) (k3 _ (Ku E13 h1) (Ku E13 h2)) ?_; rintro _ w10 ⟨u4, q2, rfl, E20, hA1, hC1, Y4, N2, gwu4⟩; refine Uy Z<|Lp Z<|Qd Z<|Xi Z Xz ?_; rintro b5 w11 R5 E21 B5; have := E21.Z
        refine Uz Jj B5 Z ((E13.K E20).K E21) ?_; rintro w12 E22 B5 K3 Q3; have B2 := (B2.J exq).Y (K3 _ Kh); have hA1 := (hA1.J E21).W K3 Kh; have hC1 := (hC1.J E21).W K3 Kh; refine Yf Z<|Vt<|Vx<|Vw<|Xu Z<|Ub Z<|Vt<|Uo Z fun h4 => ?_; refine Ya<|Vw<|Uk Jq Jj B5 Z<|Uz Jj B2 Z E22 ?_; rintro w13 E31 B2 K4 Q4; have hA1 := hA1.W K4 Kh; have hC1 := hC1.W K4 Kh; refine Xy Z<|Vt<|Yc ?_
      exact ⟨b2, u4, q2, rfl, B2, u4, q2, rfl, by exact E31, hA1.wide Kh Kh, hC1.wide Kh Kh, Y4, N2⟩
    | false =>
      rw [hb] at k3
      focus
        refine Vw<|Xx Z Z Z ?_; rintro b1 w1 R1 E1 B1; have := B1.lt; refine Xi Z Xz ?_; rintro b2 w2 R2 E2 B2; have := B2.lt; refine Xy Z<|Vt<|Vx<|Vw<|Uk Jq Jj (B1.J E2) Z<|Vv Z (Xl (a := .agg _) Gp Z) (k0 _ (Ku exq h1) (Ku exq h2)) ?_; rintro _ w3 ⟨rfl, E3⟩; have := E3.Z; refine Ub Z<|Vt<|Uo Z fun h3 => ?_; refine Ya<|Vw<|Uk Jq Jj (B1.J exq) Z<|Vv Z (Xl (a := .agg _) Zk Z) (k1 _ (Ku exq h1) (Ku exq h2)) ?_; rintro _ w4 ⟨u3, q1, m1, rfl, E4, O1, H1, X1, U1⟩; have Y3 := Kx O1; have N1 := Kx (Je H1); have := E4.Z; refine Xi Z Xz ?_; rintro b3 w5 R3 E5 B3; have := B3.lt
        refine Up Z Jj Z Z Kl Kl B3 Kh ((((E1.K E2).K E3).K E4).K E5) ?_; rintro w6 E6 B3 K1 Q1; have E7 := (((E2.K E3).K E4).K E5).A exq E6 K1 Q1 Kh; have E8 := ((E3.K E4).K E5).A exq E6 K1 Q1 Kh; have E9 := (E4.K E5).A exq E6 K1 Q1 Kh; have E10 := E5.A exq E6 K1 Q1 Kh; have B1 := (B1.J exq).Y (K1 _ Kh); have B2 := (B2.J exq).Y (K1 _ Kh); have O1 := (O1.J E5).W K1 Kh; have H1 := (H1.toB.J E5).W K1 Kh; refine Vt<|Vw<|Xe Z<|Vv Z (Xl (a := .string _) Tryz.call61 Z) (k2 _) ?_; rintro _ w7 ⟨rfl, E11⟩; have := E11.Z; refine Uy Z<|Lp Z<|Qd Z<|Ql Z Xt ?_; rintro b4 w8 R4 E12 B4; have := B4.lt
        refine Qw Ju B4 Z ((E6.K E11).K E12) ?_; rintro w9 E13 B4 K2 Q2; have E14 := ((E7.K E11).K E12).A exq E13 K2 Q2 Kh; have I14 := E14.Z; have E15 := ((E8.K E11).K E12).A exq E13 K2 Q2 Kh; have I15 := E15.Z; have B1 := (B1.J exq).Y (K2 _ Kh); have B2 := (B2.J exq).Y (K2 _ Kh); refine Yf Z<|Vt<|Vx<|Vw<|Xu Z<|Vt<|Xj Z ?_; refine Vw<|Uk Jq Jj B1 Z<|Rq Gb Ju B4 Z<|Vv Z (Xd (a := .agg _) (b := .agg _) Zc Z Z) (k3 _ (Ku E13 h1) (Ku E13 h2)) ?_; rintro _ w10 ⟨u4, q2, rfl, E20, hA1, hC1, Y4, N2, gwu4⟩; refine Uy Z<|Lp Z<|Qd Z<|Xi Z Xz ?_; rintro b5 w11 R5 E21 B5; have := E21.Z
        refine Uz Jj B5 Z ((E13.K E20).K E21) ?_; rintro w12 E22 B5 K3 Q3; have B2 := (B2.J exq).Y (K3 _ Kh); have hA1 := (hA1.J E21).W K3 Kh; have hC1 := (hC1.J E21).W K3 Kh; refine Yf Z<|Vt<|Vx<|Vw<|Xu Z<|Ub Z<|Vt<|Ut Z (fun h4 => ?_) (fun h4 => ?_); refine Vw<|Uk Jq Jj B5 Z<|Uz Jj B2 Z E22 ?_; rintro w13 E31 B2 K4 Q4; have hA1 := hA1.W K4 Kh; have hC1 := hC1.W K4 Kh; refine Xy Z<|Vt<|Yc ?_; rotate_left; exact Ks
      exact ⟨b2, u4, q2, rfl, B2, u4, q2, rfl, by exact E31, hA1.wide Kh Kh, hC1.wide Kh Kh, Y4, N2⟩
  | none =>
    rw [show lnV d s = (d, askV d.now s) by unfold lnV; rw [ha]]
    have k2 : ∀ (w : World), Dz 61 [str s] w (Ret w (.tuple #[.agg #[.int .i64 0, str [], .int .i64 0], .bool false])) := fun w => by
      have := Lf w s hs
      rw [ha] at this; exact this
    have W1 := hp.1
    have W5 := hp.2.1
    have htx := Mi hp.gr
    have hfl := faV_le d.now
    have hml := manyV_le d.now 0
    have yn := l11Yes_ok
    have c1 : ∀ (w : World) (v : Value), ESl Ints w v d.now → Dz 62 [v] w (Ret w (str (txt d.now))) := fun w v h => by
      have := Qq w v d.now h; rwa [if_pos hp] at this
    have c2 : ∀ (w : World) (v : Value), ESl Ints w v d.now → Dz 63 [v, .int .i64 0] w (Ret w (.tuple #[.int .i64 (codeV d.now 0).1, .bool (codeV d.now 0).2])) := fun w v h => spec_CodeAt_ok w v d.now h hp
    have c3 : ∀ (w : World) (v : Value), ESl Ints w v d.now → Dz 65 [v, .int .i64 0] w (Ret w (.int .i64 (manyV d.now 0 : Int))) := fun w v h => spec_ManyIn_ok w v d.now h hp
    have c4 : ∀ (w : World) (v u : Value), ESl Ints w v d.now → ESl Ints w u d.now → Dz 67 [v, .int .i64 0, u, .int .i64 0] w (Ret w (.bool (hasV d.now 0 d.now 0))) := fun w v u h h' => spec_HasSet_ok w v u d.now d.now h h' hp hp
    have c5 : ∀ (w : World) (v : Value), ESl Ints w v d.now → Dz 68 [v, .int .i64 0] w (Ret w (.int .i64 (deepAtV d.now 0))) := fun w v h => spec_DeepAt_ok w v d.now h 0
    have c6 : ∀ (w : World) (v : Value), ESl Ints w v d.now → Dz 69 [v] w (RetO w XI (ints (faV d.now))) := fun w v h => spec_FoundedAll_ok w v d.now h
    have cI : ∀ (w : World) (n : Nat), n ≤ 1000000 → Dz 64 [.int .i64 (n : Int)] w (Ret w (str (decDigits n))) := fun w n hn => l1Num_ok n n (Kz _) hn w
    have cF : ∀ (w : World), Dz 64 [.int .i64 ((ints (faV d.now)).length : Int)] w (Ret w (str (decDigits (faV d.now).length))) := fun w => by
      rw [Ur] at hfl ⊢
      exact cI w _ Kh
    have cM : ∀ (w : World), Dz 64 [.int .i64 (manyV d.now 0 : Int)] w (Ret w (str (decDigits (manyV d.now 0)))) := fun w => cI w _ Kh
    have c7 : ∀ (w : World), Dz 70 [str s, .int .u8 32] w (RetO w XS (cutB 32 s)) := fun w => l1Cut_ok w s 32 hs
    have stop10 : True := trivial
    focus
      refine Vw<|Xx Z Z Z ?_; rintro b1 w1 R1 E1 B1; have := B1.lt; have := E1.Z; refine Xi Z Xz ?_; rintro b2 w2 R2 E2 B2; have := B2.lt; have := E2.Z; refine Xy Z<|Vt<|Vx<|Vw<|Uk Jq Jj (B1.J E2) Z<|Vv Z (Xl (a := .agg _) Gp Z) (k0 _ (Ku exq h1) (Ku exq h2)) ?_; rintro _ w3 ⟨rfl, E3⟩; have := E3.Z; refine Ub Z<|Vt<|Uo Z fun h3 => ?_; refine Ya<|Vw<|Uk Jq Jj (B1.J exq) Z<|Vv Z (Xl (a := .agg _) Zk Z) (k1 _ (Ku exq h1) (Ku exq h2)) ?_; rintro _ w4 ⟨u3, q1, m1, rfl, E4, O1, H1, X1, U1⟩; have Y3 := Kx O1; have cpu3 := OwnedB.capOk O1; have N1 := Kx (Je H1); have cpq1 := OwnedB.capOk (Je H1); have := E4.Z
      refine Xi Z Xz ?_; rintro b3 w5 R3 E5 B3; have := B3.lt; have := E5.Z; refine Up Z Jj Z Z Kl Kl B3 Kh ((((E1.K E2).K E3).K E4).K E5) ?_; rintro w6 E6 B3 K1 Q1; have E7 := (((E2.K E3).K E4).K E5).A exq E6 K1 Q1 Kh; have I7 := E7.Z; have E8 := ((E3.K E4).K E5).A exq E6 K1 Q1 Kh; have I8 := E8.Z; have E9 := (E4.K E5).A exq E6 K1 Q1 Kh; have I9 := E9.Z; have E10 := E5.A exq E6 K1 Q1 Kh; have I10 := E10.Z; have B1 := (B1.J exq).Y (K1 _ Kh); have B2 := (B2.J exq).Y (K1 _ Kh); have O1 := (O1.J E5).W K1 Kh; have H1 := (H1.toB.J E5).W K1 Kh
      refine Vt<|Vw<|Xe Z<|Vv Z (Xl (a := .string _) Tryz.call61 Z) (k2 _) ?_; rintro _ w7 ⟨rfl, E11⟩; have := E11.Z; refine Uy Z<|Lp Z<|Qd Z<|Ql Z Xt ?_; rintro b4 w8 R4 E12 B4; have := B4.lt; have := E12.Z; refine Qw Ju B4 Z ((E6.K E11).K E12) ?_; rintro w9 E13 B4 K2 Q2; have E14 := ((E7.K E11).K E12).A exq E13 K2 Q2 Kh; have I14 := E14.Z; have E15 := ((E8.K E11).K E12).A exq E13 K2 Q2 Kh; have I15 := E15.Z; have E16 := ((E9.K E11).K E12).A exq E13 K2 Q2 Kh; have I16 := E16.Z; have E17 := ((E10.K E11).K E12).A exq E13 K2 Q2 Kh; have I17 := E17.Z; have E18 := (E11.K E12).A exq E13 K2 Q2 Kh; have I18 := E18.Z; have E19 := E12.A exq E13 K2 Q2 Kh
      have I19 := E19.Z; have B3 := (B3.J exq).Y (K2 _ Kh); have B1 := (B1.J exq).Y (K2 _ Kh); have B2 := (B2.J exq).Y (K2 _ Kh); have O1 := (O1.J exq).W K2 Kh; have H1 := (H1.J exq).W K2 Kh; refine Yf Z<|Vt<|Vx<|Vw<|Xu Z<|Vt<|Yb Z ?_; refine Ya<|Vx<|Vx ?_
    clear stop10 k0 k1 k2
    focus
      have F1 := E13; clear E1; clear E2; clear E3; clear E4; clear E5; clear E6; clear E7; clear I7; clear E8; clear I8; clear E9; clear I9; clear E10; clear I10; clear E11; clear E12; clear E13; clear E14; clear I14; clear E15; clear I15; clear E16; clear I16; clear E17; clear I17; clear E18; clear I18; clear E19; clear I19
    have heldS : w = w := rfl
    by_cases g1 : s = [112, 105, 99, 116, 117, 114, 101]
    · have ea : askV d.now s = [58] ++ txt d.now := by unfold askV; rw [if_pos g1]; rfl
      rw [ea]
      focus
        refine Ys<|Xe Z<|Vt<|Ye<|Vw<|Wo Z (Yn Z Z)<|Yf Z<|Vt<|Vy Z (fun h4 => ?_) (fun h4 => ?_); refine Vx<|Rl (fun w' => Ext w w') mixed Z Ki ?_; intro w10 E1 K3 Q3; refine Sx 1 Jv Jx Z Z exq<|Wha [0, 2]<|Yi Z ?_ ?_; refine Uk Jq Jj (B3.J E1) Z<|Wnx exq<|Wha [2]<|Wh1 Z<|Uc u1 Jt (B1.J E1) Z<|Wnx exq<|Wha [3]<|Wh1 Z<|Vv Z (Xl (a := u1) Gi Z) (c1 _ _ (Ku exq h1)) ?_; rintro _ w11 ⟨rfl, E2⟩; have := E2.Z; refine Wnx exq<|Yg 4 Z Ki Ki Z (fun _ _ => Yw Z Z Kf) exq ?_; refine Wha [5]<|Wh1 Z<|Uz Jj (B2.J (E1.K E2)) Z ((F1.K E1).K E2) ?_; rintro w12 E3 B2 K4 Q4
        have O1 := (O1.J exq).W K4 Kh; have H1 := (H1.J exq).W K4 Kh; refine Wnx E3<|Uw 6 Z Z E3<|Yr Ki ?_; refine Yc ?_; rotate_left; refine Wh1 Z<|Uc u1 Jt (B1.J E1) Z<|Wnx exq<|Wha [0, 3]<|Yi Z ?_ ?_; refine Uk Jq Jj (B3.J E1) Z<|Wnx exq<|Wha [3]<|Wh1 Z<|Vv Z (Xl (a := u1) Gi Z) (c1 _ _ (Ku exq h1)) ?_; rintro _ w11 ⟨rfl, E2⟩; have := E2.Z; refine Wnx exq<|Yg 4 Z Ki Ki Z (fun _ _ => Yw Z Z Kf) exq ?_; refine Wha [5]<|Wh1 Z<|Uz Jj (B2.J (E1.K E2)) Z ((F1.K E1).K E2) ?_; rintro w12 E3 B2 K4 Q4; have O1 := (O1.J exq).W K4 Kh; have H1 := (H1.J exq).W K4 Kh
        refine Wnx E3<|Uw 6 Z Z E3<|Yr Ki ?_; refine Yc ?_; rotate_left; refine Wh1 Z<|Vv Z (Xl (a := u1) Gi Z) (c1 _ _ (Ku exq h1)) ?_; rintro _ w11 ⟨rfl, E2⟩; have := E2.Z; refine Wnx exq<|Yg 4 Z Ki Ki Z (fun _ _ => Yw Z Z Kf) exq ?_; refine Wha [0]<|Wh1 Z<|Uk Jq Jj (B3.J exq) Z<|Wnx exq<|Wha [5]<|Wh1 Z<|Uz Jj (B2.J (E1.K E2)) Z ((F1.K E1).K E2) ?_; rintro w12 E3 B2 K4 Q4; have O1 := (O1.J exq).W K4 Kh; have H1 := (H1.J exq).W K4 Kh; refine Wnx E3<|Uw 6 Z Z E3<|Yr Ki ?_; refine Yc ?_; rotate_left; exact Ks
      all_goals exact ⟨b2, u3, q1, rfl, B2, u3, q1, rfl, by repeat (first | assumption | refine Ext.trans Kk ?_), O1.rd.wide Kh Kh, H1.rd.wide Kh Kh, Y3, N1⟩
    by_cases g2 : s = [99, 111, 100, 101]
    · have ea : askV d.now s = if (codeV d.now 0).2 then decDigits (codeV d.now 0).1.toNat else [110, 111, 110, 101] := by
        unfold askV; rw [if_neg g1, if_pos g2]
      rw [ea]
      rcases codeV_nat d.now 0 with ⟨c, hc, e⟩ | e
      · rw [e] at c2 ⊢
        have cC := fun w => cI w c Kh
        focus
          refine Ys<|Xe Z<|Vt<|Ye<|Vw<|Wo Z (Yn Z Z)<|Yf Z<|Vt<|Yy Z fun h4 => ?_; refine Vw<|Wo Z (Yn Z Z)<|Yf Z<|Vt<|Vy Z (fun h5 => ?_) (fun h5 => ?_); refine Vw<|Yq Jv Jx Z<|Uc u1 Jt B1 Z<|Vv Z (Xd (a := u1) (b := .int _ _) Tryz.call63 Z Z) (c2 _ _ (Ku F1 h1)) ?_; rintro _ w10 ⟨rfl, E1⟩; have := E1.Z; refine Uy Z<|WsxI Z<|Qd Z<|Xc Z<|Yf Z<|Vt<|Vx<|Vw<|Xu Z<|Ub Z<|Vt<|Uo Z fun h6 => ?_; refine Ya<|Vx<|Rl (fun w' => Ext w w') mixed Z Ki ?_; intro w11 E2 K3 Q3; refine Nt 1 Z Z exq<|Wha [0, 2]<|Yi Z ?_ ?_
          refine Uk Jq Jj (B3.J exq) Z<|Wnx exq<|Wha [2]<|Wh1 Z<|Vv Z (Xl (a := .int _ _) Gt Z) (cC _) ?_; rintro _ w12 ⟨rfl, E3⟩; have := E3.Z; refine Wnx exq<|Wha [3]<|Wh1 Z<|Up Z Jj Z Z Kl Kl (B2.J ((E1.K E2).K E3)) Kh (((F1.K E1).K E2).K E3) ?_; rintro w13 E4 B2 K4 Q4; have O1 := (O1.J exq).W K4 Kh; have H1 := (H1.J exq).W K4 Kh; refine Wnx E4<|Uw 4 Z Z E4<|Yr Ki ?_; refine Yc ?_; rotate_left; refine Wh1 Z<|Vv Z (Xl (a := .int _ _) Gt Z) (cC _) ?_; rintro _ w12 ⟨rfl, E3⟩; have := E3.Z
          refine Wnx exq<|Wha [0]<|Wh1 Z<|Uk Jq Jj (B3.J exq) Z<|Wnx exq<|Wha [3]<|Wh1 Z<|Up Z Jj Z Z Kl Kl (B2.J ((E1.K E2).K E3)) Kh (((F1.K E1).K E2).K E3) ?_; rintro w13 E4 B2 K4 Q4; have O1 := (O1.J exq).W K4 Kh; have H1 := (H1.J exq).W K4 Kh; refine Wnx E4<|Uw 4 Z Z E4<|Yr Ki ?_; refine Yc ?_; rotate_left; exact Ks
        all_goals exact ⟨b2, u3, q1, rfl, B2, u3, q1, rfl, by repeat (first | assumption | refine Ext.trans Kk ?_), O1.rd.wide Kh Kh, H1.rd.wide Kh Kh, Y3, N1⟩
      · rw [e] at c2 ⊢
        focus
          refine Ys<|Xe Z<|Vt<|Ye<|Vw<|Wo Z (Yn Z Z)<|Yf Z<|Vt<|Yy Z fun h4 => ?_; refine Vw<|Wo Z (Yn Z Z)<|Yf Z<|Vt<|Vy Z (fun h5 => ?_) (fun h5 => ?_); refine Vw<|Yq Jv Jx Z<|Uc u1 Jt B1 Z<|Vv Z (Xd (a := u1) (b := .int _ _) Tryz.call63 Z Z) (c2 _ _ (Ku F1 h1)) ?_; rintro _ w10 ⟨rfl, E1⟩; have := E1.Z; refine Uy Z<|WsxI Z<|Qd Z<|Xc Z<|Yf Z<|Vt<|Vx<|Vw<|Xu Z<|Ub Z<|Vt<|Ut Z (fun h6 => ?_) (fun h6 => ?_); refine Vx<|Ys<|Uk Jq Jj (B3.J E1) Z<|Uz Jj (B2.J E1) Z (F1.K E1) ?_; rintro w11 E2 B2 K3 Q3; have O1 := (O1.J E1).W K3 Kh
          have H1 := (H1.J E1).W K3 Kh; refine Xy Z<|Vt<|Yc ?_; rotate_left; exact Ks; exact Ks
        all_goals exact ⟨b2, u3, q1, rfl, B2, u3, q1, rfl, by repeat (first | assumption | refine Ext.trans Kk ?_), O1.rd.wide Kh Kh, H1.rd.wide Kh Kh, Y3, N1⟩
    by_cases g3 : s = [109, 97, 110, 121]
    · have ea : askV d.now s = decDigits (manyV d.now 0) := by unfold askV; rw [if_neg g1, if_neg g2, if_pos g3]
      rw [ea]
      focus
        refine Ys<|Xe Z<|Vt<|Ye<|Vw<|Wo Z (Yn Z Z)<|Yf Z<|Vt<|Yy Z fun h4 => ?_; refine Vw<|Wo Z (Yn Z Z)<|Yf Z<|Vt<|Yy Z fun h5 => ?_; refine Vw<|Wo Z (Yn Z Z)<|Yf Z<|Vt<|Vy Z (fun h6 => ?_) (fun h6 => ?_); refine Vx<|Rl (fun w' => Ext w w') mixed Z Ki ?_; intro w10 E1 K3 Q3; refine Sx 1 Jv Jx Z Z exq<|Wha [0, 2]<|Yi Z ?_ ?_; refine Uk Jq Jj (B3.J E1) Z<|Wnx exq<|Wha [2]<|Wh1 Z<|Uc u1 Jt (B1.J E1) Z<|Wnx exq<|Wha [3]<|Wh1 Z<|Vv Z (Xd (a := u1) (b := .int _ _) Tryz.call65 Z Z) (c3 _ _ (Ku exq h1)) ?_; rintro _ w11 ⟨rfl, E2⟩; have := E2.Z
        refine Wnx exq<|Wha [4]<|Wh1 Z<|Vv Z (Xl (a := .int _ _) Gt Z) (cM _) ?_; rintro _ w12 ⟨rfl, E3⟩; have := E3.Z; refine Wnx exq<|Wha [5]<|Wh1 Z<|Up Z Jj Z Z Kl Kl (B2.J ((E1.K E2).K E3)) Kh (((F1.K E1).K E2).K E3) ?_; rintro w13 E4 B2 K4 Q4; have O1 := (O1.J exq).W K4 Kh; have H1 := (H1.J exq).W K4 Kh; refine Wnx E4<|Uw 6 Z Z E4<|Yr Ki ?_; refine Yc ?_; rotate_left; refine Wh1 Z<|Uc u1 Jt (B1.J E1) Z<|Wnx exq<|Wha [0, 3]<|Yi Z ?_ ?_; refine Uk Jq Jj (B3.J E1) Z<|Wnx exq<|Wha [3]<|Wh1 Z<|Vv Z (Xd (a := u1) (b := .int _ _) Tryz.call65 Z Z) (c3 _ _ (Ku exq h1)) ?_; rintro _ w11 ⟨rfl, E2⟩
        have := E2.Z; refine Wnx exq<|Wha [4]<|Wh1 Z<|Vv Z (Xl (a := .int _ _) Gt Z) (cM _) ?_; rintro _ w12 ⟨rfl, E3⟩; have := E3.Z; refine Wnx exq<|Wha [5]<|Wh1 Z<|Up Z Jj Z Z Kl Kl (B2.J ((E1.K E2).K E3)) Kh (((F1.K E1).K E2).K E3) ?_; rintro w13 E4 B2 K4 Q4; have O1 := (O1.J exq).W K4 Kh; have H1 := (H1.J exq).W K4 Kh; refine Wnx E4<|Uw 6 Z Z E4<|Yr Ki ?_; refine Yc ?_; rotate_left; refine Wh1 Z<|Vv Z (Xd (a := u1) (b := .int _ _) Tryz.call65 Z Z) (c3 _ _ (Ku exq h1)) ?_; rintro _ w11 ⟨rfl, E2⟩; have := E2.Z; refine Wnx exq<|Wha [0, 4]<|Yi Z ?_ ?_
        refine Uk Jq Jj (B3.J exq) Z<|Wnx exq<|Wha [4]<|Wh1 Z<|Vv Z (Xl (a := .int _ _) Gt Z) (cM _) ?_; rintro _ w12 ⟨rfl, E3⟩; have := E3.Z; refine Wnx exq<|Wha [5]<|Wh1 Z<|Up Z Jj Z Z Kl Kl (B2.J ((E1.K E2).K E3)) Kh (((F1.K E1).K E2).K E3) ?_; rintro w13 E4 B2 K4 Q4; have O1 := (O1.J exq).W K4 Kh; have H1 := (H1.J exq).W K4 Kh; refine Wnx E4<|Uw 6 Z Z E4<|Yr Ki ?_; refine Yc ?_; rotate_left; refine Wh1 Z<|Vv Z (Xl (a := .int _ _) Gt Z) (cM _) ?_; rintro _ w12 ⟨rfl, E3⟩; have := E3.Z
        refine Wnx exq<|Wha [0]<|Wh1 Z<|Uk Jq Jj (B3.J exq) Z<|Wnx exq<|Wha [5]<|Wh1 Z<|Up Z Jj Z Z Kl Kl (B2.J ((E1.K E2).K E3)) Kh (((F1.K E1).K E2).K E3) ?_; rintro w13 E4 B2 K4 Q4; have O1 := (O1.J exq).W K4 Kh; have H1 := (H1.J exq).W K4 Kh; refine Wnx E4<|Uw 6 Z Z E4<|Yr Ki ?_; refine Yc ?_; rotate_left; exact Ks
      all_goals exact ⟨b2, u3, q1, rfl, B2, u3, q1, rfl, by repeat (first | assumption | refine Ext.trans Kk ?_), O1.rd.wide Kh Kh, H1.rd.wide Kh Kh, Y3, N1⟩
    by_cases g4 : s = [111, 119, 110]
    · have ea : askV d.now s = ynV (hasV d.now 0 d.now 0) := by unfold askV; rw [if_neg g1, if_neg g2, if_neg g3, if_pos g4]
      rw [ea]
      focus
        refine Ys<|Xe Z<|Vt<|Ye<|Vw<|Wo Z (Yn Z Z)<|Yf Z<|Vt<|Yy Z fun h4 => ?_; refine Vw<|Wo Z (Yn Z Z)<|Yf Z<|Vt<|Yy Z fun h5 => ?_; refine Vw<|Wo Z (Yn Z Z)<|Yf Z<|Vt<|Yy Z fun h6 => ?_; refine Vw<|Wo Z (Yn Z Z)<|Yf Z<|Vt<|Vy Z (fun h7 => ?_) (fun h7 => ?_); refine Vx<|Rl (fun w' => Ext w w') mixed Z Ki ?_; intro w10 E1 K3 Q3; refine Sx 1 Jv Jx Z Z exq<|Sx 3 Jv Jx Z Z exq<|Wha [0, 2, 4]<|Yi Z ?_ ?_; refine Uk Jq Jj (B3.J E1) Z<|Wnx exq<|Wha [2, 4]<|Yi Z ?_ ?_
        refine Uc u1 Jt (B1.J E1) Z<|Wnx exq<|Wha [4]<|Wh1 Z<|Uc u1 Jt (B1.J E1) Z<|Wnx exq<|Wha [5]<|Wh1 Z<|Vv Z (Su (a := u1) (b := .int _ _) (c := u1) (d := .int _ _) Zs Z Z Z Z) (c4 _ _ _ (Ku exq h1) (Ku exq h1)) ?_; rintro _ w11 ⟨rfl, E2⟩; have := E2.Z; refine Wnx exq<|Wha [6]<|Wh1 Z<|Vv Z (Xl (a := .bool _) Gx Z) (yn _ _) ?_; rintro _ w12 ⟨rfl, E3⟩; have := E3.Z; refine Wnx exq<|Wha [7]<|Wh1 Z<|Up Z Jj Z Z Kl Kl (B2.J ((E1.K E2).K E3)) Kh (((F1.K E1).K E2).K E3) ?_; rintro w13 E4 B2 K4 Q4; have O1 := (O1.J exq).W K4 Kh; have H1 := (H1.J exq).W K4 Kh; refine Wnx E4<|Uw 8 Z Z E4<|Yr Ki ?_
        refine Yc ?_; rotate_left; refine Wh1 Z<|Uc u1 Jt (B1.J E1) Z<|Wnx exq<|Wha [2]<|Wh1 Z<|Uc u1 Jt (B1.J E1) Z<|Wnx exq<|Wha [5]<|Wh1 Z<|Vv Z (Su (a := u1) (b := .int _ _) (c := u1) (d := .int _ _) Zs Z Z Z Z) (c4 _ _ _ (Ku exq h1) (Ku exq h1)) ?_; rintro _ w11 ⟨rfl, E2⟩; have := E2.Z; refine Wnx exq<|Wha [6]<|Wh1 Z<|Vv Z (Xl (a := .bool _) Gx Z) (yn _ _) ?_; rintro _ w12 ⟨rfl, E3⟩; have := E3.Z; refine Wnx exq<|Wha [7]<|Wh1 Z<|Up Z Jj Z Z Kl Kl (B2.J ((E1.K E2).K E3)) Kh (((F1.K E1).K E2).K E3) ?_; rintro w13 E4 B2 K4 Q4; have O1 := (O1.J exq).W K4 Kh; have H1 := (H1.J exq).W K4 Kh
        refine Wnx E4<|Uw 8 Z Z E4<|Yr Ki ?_; refine Yc ?_; rotate_left; refine Yi Z ?_ ?_; refine Uc u1 Jt (B1.J E1) Z<|Wnx exq<|Wha [0, 4]<|Yi Z ?_ ?_; refine Uk Jq Jj (B3.J E1) Z<|Wnx exq<|Wha [4]<|Wh1 Z<|Uc u1 Jt (B1.J E1) Z<|Wnx exq<|Wha [5]<|Wh1 Z<|Vv Z (Su (a := u1) (b := .int _ _) (c := u1) (d := .int _ _) Zs Z Z Z Z) (c4 _ _ _ (Ku exq h1) (Ku exq h1)) ?_; rintro _ w11 ⟨rfl, E2⟩; have := E2.Z; refine Wnx exq<|Wha [6]<|Wh1 Z<|Vv Z (Xl (a := .bool _) Gx Z) (yn _ _) ?_; rintro _ w12 ⟨rfl, E3⟩; have := E3.Z
        refine Wnx exq<|Wha [7]<|Wh1 Z<|Up Z Jj Z Z Kl Kl (B2.J ((E1.K E2).K E3)) Kh (((F1.K E1).K E2).K E3) ?_; rintro w13 E4 B2 K4 Q4; have O1 := (O1.J exq).W K4 Kh; have H1 := (H1.J exq).W K4 Kh; refine Wnx E4<|Uw 8 Z Z E4<|Yr Ki ?_; refine Yc ?_; rotate_left; refine Wh1 Z<|Uc u1 Jt (B1.J E1) Z<|Wnx exq<|Wha [0, 5]<|Yi Z ?_ ?_; refine Uk Jq Jj (B3.J E1) Z<|Wnx exq<|Wha [5]<|Wh1 Z<|Vv Z (Su (a := u1) (b := .int _ _) (c := u1) (d := .int _ _) Zs Z Z Z Z) (c4 _ _ _ (Ku exq h1) (Ku exq h1)) ?_; rintro _ w11 ⟨rfl, E2⟩; have := E2.Z
        refine Wnx exq<|Wha [6]<|Wh1 Z<|Vv Z (Xl (a := .bool _) Gx Z) (yn _ _) ?_; rintro _ w12 ⟨rfl, E3⟩; have := E3.Z; refine Wnx exq<|Wha [7]<|Wh1 Z<|Up Z Jj Z Z Kl Kl (B2.J ((E1.K E2).K E3)) Kh (((F1.K E1).K E2).K E3) ?_; rintro w13 E4 B2 K4 Q4; have O1 := (O1.J exq).W K4 Kh; have H1 := (H1.J exq).W K4 Kh; refine Wnx E4<|Uw 8 Z Z E4<|Yr Ki ?_; refine Yc ?_; rotate_left; refine Wh1 Z<|Vv Z (Su (a := u1) (b := .int _ _) (c := u1) (d := .int _ _) Zs Z Z Z Z) (c4 _ _ _ (Ku exq h1) (Ku exq h1)) ?_; rintro _ w11 ⟨rfl, E2⟩; have := E2.Z; refine Wnx exq<|Wha [0, 6]<|Yi Z ?_ ?_
        refine Uk Jq Jj (B3.J exq) Z<|Wnx exq<|Wha [6]<|Wh1 Z<|Vv Z (Xl (a := .bool _) Gx Z) (yn _ _) ?_; rintro _ w12 ⟨rfl, E3⟩; have := E3.Z; refine Wnx exq<|Wha [7]<|Wh1 Z<|Up Z Jj Z Z Kl Kl (B2.J ((E1.K E2).K E3)) Kh (((F1.K E1).K E2).K E3) ?_; rintro w13 E4 B2 K4 Q4; have O1 := (O1.J exq).W K4 Kh; have H1 := (H1.J exq).W K4 Kh; refine Wnx E4<|Uw 8 Z Z E4<|Yr Ki ?_; refine Yc ?_; rotate_left; refine Wh1 Z<|Vv Z (Xl (a := .bool _) Gx Z) (yn _ _) ?_; rintro _ w12 ⟨rfl, E3⟩; have := E3.Z
        refine Wnx exq<|Wha [0]<|Wh1 Z<|Uk Jq Jj (B3.J exq) Z<|Wnx exq<|Wha [7]<|Wh1 Z<|Up Z Jj Z Z Kl Kl (B2.J ((E1.K E2).K E3)) Kh (((F1.K E1).K E2).K E3) ?_; rintro w13 E4 B2 K4 Q4; have O1 := (O1.J exq).W K4 Kh; have H1 := (H1.J exq).W K4 Kh; refine Wnx E4<|Uw 8 Z Z E4<|Yr Ki ?_; refine Yc ?_; rotate_left; refine Wh1 Z<|Uc u1 Jt (B1.J E1) Z<|Wnx exq<|Wha [0, 2]<|Yi Z ?_ ?_
        refine Uk Jq Jj (B3.J E1) Z<|Wnx exq<|Wha [2]<|Wh1 Z<|Uc u1 Jt (B1.J E1) Z<|Wnx exq<|Wha [5]<|Wh1 Z<|Vv Z (Su (a := u1) (b := .int _ _) (c := u1) (d := .int _ _) Zs Z Z Z Z) (c4 _ _ _ (Ku exq h1) (Ku exq h1)) ?_; rintro _ w11 ⟨rfl, E2⟩; have := E2.Z; refine Wnx exq<|Wha [6]<|Wh1 Z<|Vv Z (Xl (a := .bool _) Gx Z) (yn _ _) ?_; rintro _ w12 ⟨rfl, E3⟩; have := E3.Z; refine Wnx exq<|Wha [7]<|Wh1 Z<|Up Z Jj Z Z Kl Kl (B2.J ((E1.K E2).K E3)) Kh (((F1.K E1).K E2).K E3) ?_; rintro w13 E4 B2 K4 Q4; have O1 := (O1.J exq).W K4 Kh; have H1 := (H1.J exq).W K4 Kh
        refine Wnx E4<|Uw 8 Z Z E4<|Yr Ki ?_; refine Yc ?_; rotate_left; refine Wh1 Z<|Uc u1 Jt (B1.J E1) Z<|Wnx exq<|Wha [0, 5]<|Yi Z ?_ ?_; refine Uk Jq Jj (B3.J E1) Z<|Wnx exq<|Wha [5]<|Wh1 Z<|Vv Z (Su (a := u1) (b := .int _ _) (c := u1) (d := .int _ _) Zs Z Z Z Z) (c4 _ _ _ (Ku exq h1) (Ku exq h1)) ?_; rintro _ w11 ⟨rfl, E2⟩; have := E2.Z; refine Wnx exq<|Wha [6]<|Wh1 Z<|Vv Z (Xl (a := .bool _) Gx Z) (yn _ _) ?_; rintro _ w12 ⟨rfl, E3⟩; have := E3.Z; refine Wnx exq<|Wha [7]<|Wh1 Z<|Up Z Jj Z Z Kl Kl (B2.J ((E1.K E2).K E3)) Kh (((F1.K E1).K E2).K E3) ?_; rintro w13 E4 B2 K4 Q4
        have O1 := (O1.J exq).W K4 Kh; have H1 := (H1.J exq).W K4 Kh; refine Wnx E4<|Uw 8 Z Z E4<|Yr Ki ?_; refine Yc ?_; rotate_left; refine Wh1 Z<|Vv Z (Su (a := u1) (b := .int _ _) (c := u1) (d := .int _ _) Zs Z Z Z Z) (c4 _ _ _ (Ku exq h1) (Ku exq h1)) ?_; rintro _ w11 ⟨rfl, E2⟩; have := E2.Z; refine Wnx exq<|Wha [0, 6]<|Yi Z ?_ ?_; refine Uk Jq Jj (B3.J exq) Z<|Wnx exq<|Wha [6]<|Wh1 Z<|Vv Z (Xl (a := .bool _) Gx Z) (yn _ _) ?_; rintro _ w12 ⟨rfl, E3⟩; have := E3.Z; refine Wnx exq<|Wha [7]<|Wh1 Z<|Up Z Jj Z Z Kl Kl (B2.J ((E1.K E2).K E3)) Kh (((F1.K E1).K E2).K E3) ?_; rintro w13 E4 B2 K4 Q4
        have O1 := (O1.J exq).W K4 Kh; have H1 := (H1.J exq).W K4 Kh; refine Wnx E4<|Uw 8 Z Z E4<|Yr Ki ?_; refine Yc ?_; rotate_left; refine Wh1 Z<|Vv Z (Xl (a := .bool _) Gx Z) (yn _ _) ?_; rintro _ w12 ⟨rfl, E3⟩; have := E3.Z; refine Wnx exq<|Wha [0]<|Wh1 Z<|Uk Jq Jj (B3.J exq) Z<|Wnx exq<|Wha [7]<|Wh1 Z<|Up Z Jj Z Z Kl Kl (B2.J ((E1.K E2).K E3)) Kh (((F1.K E1).K E2).K E3) ?_; rintro w13 E4 B2 K4 Q4; have O1 := (O1.J exq).W K4 Kh; have H1 := (H1.J exq).W K4 Kh; refine Wnx E4<|Uw 8 Z Z E4<|Yr Ki ?_; refine Yc ?_; rotate_left; exact Ks
      all_goals exact ⟨b2, u3, q1, rfl, B2, u3, q1, rfl, by repeat (first | assumption | refine Ext.trans Kk ?_), O1.rd.wide Kh Kh, H1.rd.wide Kh Kh, Y3, N1⟩
    by_cases g5 : s = [100, 101, 101, 112]
    · have ea : askV d.now s = if 0 ≤ deepAtV d.now 0 then decDigits (deepAtV d.now 0).toNat else [110, 111, 110, 101] := by
        unfold askV; rw [if_neg g1, if_neg g2, if_neg g3, if_neg g4, if_pos g5]
      rw [ea]
      rcases deepAtV_nat hp 0 with ⟨c, hc, e⟩ | e
      · rw [e] at c5 ⊢
        rw [if_pos Kh]
        have cC := fun w => cI w c Kh
        focus
          refine Ys<|Xe Z<|Vt<|Ye<|Vw<|Wo Z (Yn Z Z)<|Yf Z<|Vt<|Yy Z fun h4 => ?_; refine Vw<|Wo Z (Yn Z Z)<|Yf Z<|Vt<|Yy Z fun h5 => ?_; refine Vw<|Wo Z (Yn Z Z)<|Yf Z<|Vt<|Yy Z fun h6 => ?_; refine Vw<|Wo Z (Yn Z Z)<|Yf Z<|Vt<|Yy Z fun h7 => ?_; refine Vw<|Wo Z (Yn Z Z)<|Yf Z<|Vt<|Vy Z (fun h8 => ?_) (fun h8 => ?_); refine Vx<|Vw<|Yq Jv Jx Z<|Uc u1 Jt B1 Z<|Vv Z (Xd (a := u1) (b := .int _ _) Vq Z Z) (c5 _ _ (Ku F1 h1)) ?_; rintro _ w10 ⟨rfl, E1⟩; have := E1.Z; refine Xa Z<|Vt<|Yy Z fun h9 => ?_
          refine Ya<|Vx<|Rl (fun w' => Ext w w') mixed Z Ki ?_; intro w11 E2 K3 Q3; refine Sx 1 Jv Jx Z Z exq<|Wha [0, 2]<|Yi Z ?_ ?_; refine Uk Jq Jj (B3.J exq) Z<|Wnx exq<|Wha [2]<|Wh1 Z<|Uc u1 Jt (B1.J exq) Z<|Wnx exq<|Wha [3]<|Wh1 Z<|Vv Z (Xd (a := u1) (b := .int _ _) Vq Z Z) (c5 _ _ (Ku exq h1)) ?_; rintro _ w12 ⟨rfl, E3⟩; have := E3.Z; refine Wnx exq<|Wha [4]<|Wh1 Z<|Vv Z (Xl (a := .int _ _) Gt Z) (cC _) ?_; rintro _ w13 ⟨rfl, E4⟩; have := E4.Z; refine Wnx exq<|Wha [5]<|Wh1 Z<|Up Z Jj Z Z Kl Kl (B2.J (((E1.K E2).K E3).K E4)) Kh ((((F1.K E1).K E2).K E3).K E4) ?_
          rintro w14 E5 B2 K4 Q4; have O1 := (O1.J exq).W K4 Kh; have H1 := (H1.J exq).W K4 Kh; refine Wnx E5<|Uw 6 Z Z E5<|Yr Ki ?_; refine Yc ?_; rotate_left; refine Wh1 Z<|Uc u1 Jt (B1.J exq) Z<|Wnx exq<|Wha [0, 3]<|Yi Z ?_ ?_; refine Uk Jq Jj (B3.J exq) Z<|Wnx exq<|Wha [3]<|Wh1 Z<|Vv Z (Xd (a := u1) (b := .int _ _) Vq Z Z) (c5 _ _ (Ku exq h1)) ?_; rintro _ w12 ⟨rfl, E3⟩; have := E3.Z; refine Wnx exq<|Wha [4]<|Wh1 Z<|Vv Z (Xl (a := .int _ _) Gt Z) (cC _) ?_; rintro _ w13 ⟨rfl, E4⟩; have := E4.Z
          refine Wnx exq<|Wha [5]<|Wh1 Z<|Up Z Jj Z Z Kl Kl (B2.J (((E1.K E2).K E3).K E4)) Kh ((((F1.K E1).K E2).K E3).K E4) ?_; rintro w14 E5 B2 K4 Q4; have O1 := (O1.J exq).W K4 Kh; have H1 := (H1.J exq).W K4 Kh; refine Wnx E5<|Uw 6 Z Z E5<|Yr Ki ?_; refine Yc ?_; rotate_left; refine Wh1 Z<|Vv Z (Xd (a := u1) (b := .int _ _) Vq Z Z) (c5 _ _ (Ku exq h1)) ?_; rintro _ w12 ⟨rfl, E3⟩; have := E3.Z; refine Wnx exq<|Wha [0, 4]<|Yi Z ?_ ?_; refine Uk Jq Jj (B3.J exq) Z<|Wnx exq<|Wha [4]<|Wh1 Z<|Vv Z (Xl (a := .int _ _) Gt Z) (cC _) ?_; rintro _ w13 ⟨rfl, E4⟩; have := E4.Z
          refine Wnx exq<|Wha [5]<|Wh1 Z<|Up Z Jj Z Z Kl Kl (B2.J (((E1.K E2).K E3).K E4)) Kh ((((F1.K E1).K E2).K E3).K E4) ?_; rintro w14 E5 B2 K4 Q4; have O1 := (O1.J exq).W K4 Kh; have H1 := (H1.J exq).W K4 Kh; refine Wnx E5<|Uw 6 Z Z E5<|Yr Ki ?_; refine Yc ?_; rotate_left; refine Wh1 Z<|Vv Z (Xl (a := .int _ _) Gt Z) (cC _) ?_; rintro _ w13 ⟨rfl, E4⟩; have := E4.Z
          refine Wnx exq<|Wha [0]<|Wh1 Z<|Uk Jq Jj (B3.J exq) Z<|Wnx exq<|Wha [5]<|Wh1 Z<|Up Z Jj Z Z Kl Kl (B2.J (((E1.K E2).K E3).K E4)) Kh ((((F1.K E1).K E2).K E3).K E4) ?_; rintro w14 E5 B2 K4 Q4; have O1 := (O1.J exq).W K4 Kh; have H1 := (H1.J exq).W K4 Kh; refine Wnx E5<|Uw 6 Z Z E5<|Yr Ki ?_; refine Yc ?_; rotate_left; exact Ks
        all_goals exact ⟨b2, u3, q1, rfl, B2, u3, q1, rfl, by repeat (first | assumption | refine Ext.trans Kk ?_), O1.rd.wide Kh Kh, H1.rd.wide Kh Kh, Y3, N1⟩
      · rw [e] at c5 ⊢
        rw [if_neg Kh]
        focus
          refine Ys<|Xe Z<|Vt<|Ye<|Vw<|Wo Z (Yn Z Z)<|Yf Z<|Vt<|Yy Z fun h4 => ?_; refine Vw<|Wo Z (Yn Z Z)<|Yf Z<|Vt<|Yy Z fun h5 => ?_; refine Vw<|Wo Z (Yn Z Z)<|Yf Z<|Vt<|Yy Z fun h6 => ?_; refine Vw<|Wo Z (Yn Z Z)<|Yf Z<|Vt<|Yy Z fun h7 => ?_; refine Vw<|Wo Z (Yn Z Z)<|Yf Z<|Vt<|Vy Z (fun h8 => ?_) (fun h8 => ?_); refine Vx<|Vw<|Yq Jv Jx Z<|Uc u1 Jt B1 Z<|Vv Z (Xd (a := u1) (b := .int _ _) Vq Z Z) (c5 _ _ (Ku F1 h1)) ?_; rintro _ w10 ⟨rfl, E1⟩; have := E1.Z; refine Xa Z<|Vt<|Vy Z (fun h9 => ?_) (fun h9 => ?_)
          refine Vw<|Uk Jq Jj (B3.J E1) Z<|Uz Jj (B2.J E1) Z (F1.K E1) ?_; rintro w11 E2 B2 K3 Q3; have O1 := (O1.J E1).W K3 Kh; have H1 := (H1.J E1).W K3 Kh; refine Xy Z<|Vt<|Yc ?_; rotate_left; exact Ks; exact Ks
        all_goals exact ⟨b2, u3, q1, rfl, B2, u3, q1, rfl, by repeat (first | assumption | refine Ext.trans Kk ?_), O1.rd.wide Kh Kh, H1.rd.wide Kh Kh, Y3, N1⟩
    by_cases g6 : s = [102, 111, 117, 110, 100, 101, 100]
    · have ea : askV d.now s = decDigits (faV d.now).length := by unfold askV; rw [if_neg g1, if_neg g2, if_neg g3, if_neg g4, if_neg g5, if_pos g6]
      rw [ea]
      focus
        refine Ys<|Xe Z<|Vt<|Ye<|Vw<|Wo Z (Yn Z Z)<|Yf Z<|Vt<|Yy Z fun h4 => ?_; refine Vw<|Wo Z (Yn Z Z)<|Yf Z<|Vt<|Yy Z fun h5 => ?_; refine Vw<|Wo Z (Yn Z Z)<|Yf Z<|Vt<|Yy Z fun h6 => ?_; refine Vw<|Wo Z (Yn Z Z)<|Yf Z<|Vt<|Yy Z fun h7 => ?_; refine Vw<|Wo Z (Yn Z Z)<|Yf Z<|Vt<|Yy Z fun h8 => ?_; refine Vw<|Wo Z (Yn Z Z)<|Yf Z<|Vt<|Vy Z (fun h9 => ?_) (fun h9 => ?_); refine Vx<|Rl (fun w' => Ext w w') mixed Z Ki ?_; intro w10 E1 K3 Q3; refine Sx 1 Jv Jx Z Z exq<|Wha [0, 2]<|Yi Z ?_ ?_
        refine Uk Jq Jj (B3.J E1) Z<|Wnx exq<|Wha [2]<|Wh1 Z<|Uc u1 Jt (B1.J E1) Z<|Wnx exq<|Wha [3]<|Wh1 Z<|Vv Z (Xl (a := u1) Tryz.call69 Z) (c6 _ _ (Ku exq h1)) ?_; rintro u4 w11 ⟨E2, O2⟩; have := E2.Z; refine Wnx exq<|Yg 4 Z Ki Ki Z (fun _ _ => Sa Jl Z (Kv O2)) exq ?_; refine Wha [5]<|Wh1 Z<|Vv Z (Xl (a := .int _ _) Gt Z) (cF _) ?_; rintro _ w12 ⟨rfl, E3⟩; have := E3.Z; refine Wnx exq<|Wha [6]<|Wh1 Z<|Up Z Jj Z Z Kl Kl (B2.J ((E1.K E2).K E3)) Kh (((F1.K E1).K E2).K E3) ?_; rintro w13 E4 B2 K4 Q4; have O1 := (O1.J exq).W K4 Kh; have H1 := (H1.J exq).W K4 Kh
        refine Wnx E4<|Uw 7 Z Z E4<|Yr Ki ?_; refine Yc ?_; rotate_left; refine Wh1 Z<|Uc u1 Jt (B1.J E1) Z<|Wnx exq<|Wha [0, 3]<|Yi Z ?_ ?_; refine Uk Jq Jj (B3.J E1) Z<|Wnx exq<|Wha [3]<|Wh1 Z<|Vv Z (Xl (a := u1) Tryz.call69 Z) (c6 _ _ (Ku exq h1)) ?_; rintro u4 w11 ⟨E2, O2⟩; have := E2.Z; refine Wnx exq<|Yg 4 Z Ki Ki Z (fun _ _ => Sa Jl Z (Kv O2)) exq ?_; refine Wha [5]<|Wh1 Z<|Vv Z (Xl (a := .int _ _) Gt Z) (cF _) ?_; rintro _ w12 ⟨rfl, E3⟩; have := E3.Z; refine Wnx exq<|Wha [6]<|Wh1 Z<|Up Z Jj Z Z Kl Kl (B2.J ((E1.K E2).K E3)) Kh (((F1.K E1).K E2).K E3) ?_
        rintro w13 E4 B2 K4 Q4; have O1 := (O1.J exq).W K4 Kh; have H1 := (H1.J exq).W K4 Kh; refine Wnx E4<|Uw 7 Z Z E4<|Yr Ki ?_; refine Yc ?_; rotate_left; refine Wh1 Z<|Vv Z (Xl (a := u1) Tryz.call69 Z) (c6 _ _ (Ku exq h1)) ?_; rintro u4 w11 ⟨E2, O2⟩; have := E2.Z; refine Wnx exq<|Yg 4 Z Ki Ki Z (fun _ _ => Sa Jl Z (Kv O2)) exq ?_; refine Wha [0, 5]<|Yi Z ?_ ?_; refine Uk Jq Jj (B3.J exq) Z<|Wnx exq<|Wha [5]<|Wh1 Z<|Vv Z (Xl (a := .int _ _) Gt Z) (cF _) ?_; rintro _ w12 ⟨rfl, E3⟩; have := E3.Z
        refine Wnx exq<|Wha [6]<|Wh1 Z<|Up Z Jj Z Z Kl Kl (B2.J ((E1.K E2).K E3)) Kh (((F1.K E1).K E2).K E3) ?_; rintro w13 E4 B2 K4 Q4; have O1 := (O1.J exq).W K4 Kh; have H1 := (H1.J exq).W K4 Kh; refine Wnx E4<|Uw 7 Z Z E4<|Yr Ki ?_; refine Yc ?_; rotate_left; refine Wh1 Z<|Vv Z (Xl (a := .int _ _) Gt Z) (cF _) ?_; rintro _ w12 ⟨rfl, E3⟩; have := E3.Z; refine Wnx exq<|Wha [0]<|Wh1 Z<|Uk Jq Jj (B3.J exq) Z<|Wnx exq<|Wha [6]<|Wh1 Z<|Up Z Jj Z Z Kl Kl (B2.J ((E1.K E2).K E3)) Kh (((F1.K E1).K E2).K E3) ?_; rintro w13 E4 B2 K4 Q4
        have O1 := (O1.J exq).W K4 Kh; have H1 := (H1.J exq).W K4 Kh; refine Wnx E4<|Uw 7 Z Z E4<|Yr Ki ?_; refine Yc ?_; rotate_left; exact Ks
      all_goals exact ⟨b2, u3, q1, rfl, B2, u3, q1, rfl, by repeat (first | assumption | refine Ext.trans Kk ?_), O1.rd.wide Kh Kh, H1.rd.wide Kh Kh, Y3, N1⟩
    have ea : askV d.now s = if (cutF 32 s).2.2 then ask2 d.now (cutF 32 s).1 (cutF 32 s).2.1 else [119, 104, 97, 116] := by
      unfold askV; rw [if_neg g1, if_neg g2, if_neg g3, if_neg g4, if_neg g5, if_neg g6]
    rw [ea]
    rcases ask_words d.now s with ⟨ps, e1, e2, e3⟩ | ⟨a, r, e1, e2, e3⟩
    · rw [e1] at c7
      rw [e3]
      focus
        refine Ys<|Xe Z<|Vt<|Ye<|Vw<|Wo Z (Yn Z Z)<|Yf Z<|Vt<|Yy Z fun h4 => ?_; refine Vw<|Wo Z (Yn Z Z)<|Yf Z<|Vt<|Yy Z fun h5 => ?_; refine Vw<|Wo Z (Yn Z Z)<|Yf Z<|Vt<|Yy Z fun h6 => ?_; refine Vw<|Wo Z (Yn Z Z)<|Yf Z<|Vt<|Yy Z fun h7 => ?_; refine Vw<|Wo Z (Yn Z Z)<|Yf Z<|Vt<|Yy Z fun h8 => ?_; refine Vw<|Wo Z (Yn Z Z)<|Yf Z<|Vt<|Yy Z fun h9 => ?_; refine Ya<|Vw<|Xe Z<|Vv Z (Xd (a := .string _) (b := .int _ _) Tryz.call70 Z Z) (c7 _) ?_; rintro u4 w10 ⟨E1, O2⟩; have := E1.Z
        refine Ug u4 Z<|Vt<|Vx<|Vw<|Ym u4 Z<|Yu Js Z (Kv O2)<|Yt Z<|Vt<|Vz Z fun h10 => ?_; refine Ya<|Vw<|Uk Jq Jj (B3.J E1) Z<|Uz Jj (B2.J E1) Z (F1.K E1) ?_; rintro w11 E2 B2 K3 Q3; have O1 := (O1.J E1).W K3 Kh; have H1 := (H1.J E1).W K3 Kh; refine Xy Z<|Vt<|Yc ?_
      all_goals exact ⟨b2, u3, q1, rfl, B2, u3, q1, rfl, by repeat (first | assumption | refine Ext.trans Kk ?_), O1.rd.wide Kh Kh, H1.rd.wide Kh Kh, Y3, N1⟩
    · rw [e1] at c7
      rw [e3]
      have c8 : ∀ (w : World) (v : Value), ESl Ints w v d.now → Dz 71 [v, str a, str r] w (Ret w (str (ask2 d.now a r))) := fun w v h => l11Ask_ok w v d.now h hp a r Kh
      have stop30 : True := trivial
      focus
        have szEw1 := F1.Z; refine Ys<|Xe Z<|Vt<|Ye<|Vw<|Wo Z (Yn Z Z)<|Yf Z<|Vt<|Yy Z fun h4 => ?_; refine Vw<|Wo Z (Yn Z Z)<|Yf Z<|Vt<|Yy Z fun h5 => ?_; refine Vw<|Wo Z (Yn Z Z)<|Yf Z<|Vt<|Yy Z fun h6 => ?_; refine Vw<|Wo Z (Yn Z Z)<|Yf Z<|Vt<|Yy Z fun h7 => ?_; refine Vw<|Wo Z (Yn Z Z)<|Yf Z<|Vt<|Yy Z fun h8 => ?_; refine Vw<|Wo Z (Yn Z Z)<|Yf Z<|Vt<|Yy Z fun h9 => ?_; refine Ya<|Vw<|Xe Z<|Vv Z (Xd (a := .string _) (b := .int _ _) Tryz.call70 Z Z) (c7 _) ?_; rintro u4 w10 ⟨E1, O2⟩; have ichO2 := Kx (Je O2); have := E1.Z
        refine Ug u4 Z<|Vt<|Vx<|Vw<|Ym u4 Z<|Yu Js Z (Kv O2)<|Yt Z<|Vt<|Vy Z (fun h10 => ?_) (fun h10 => ?_); refine Vx ?_; rotate_left; exact Ks
      clear stop30
      obtain ⟨wb, wc, rfl, _⟩ := O2.lit Kp
      focus
        have B3 := (B3.J E1); have B1 := (B1.J E1); have B2 := (B2.J E1); have O1 := (O1.J E1); have H1 := (H1.J E1); have O2 := O2.toB; have F2 := (F1.K E1); clear F1; clear szEw1; clear E1
      have heldS : w = w := rfl
      focus
        refine Rl (fun w' => Ext w w') mixed Z Ki ?_; intro w11 E1 K3 Q3; refine Sx 1 Jv Jx Z Z exq<|WtmS 3 Z Z exq<|Yg 4 Z Ki Ki Z (fun _ _ => Yo (k := 0) Js Jn Z Z Kh) exq ?_; refine WtmS 6 Z Z exq<|Yg 7 Z Ki Ki Z (fun _ _ => Yo (k := 1) Js Jn Z Z Kh) exq ?_; refine Wha [0, 2, 5, 8]<|Yi Z ?_ ?_; refine Uk Jq Jj (B3.J E1) Z<|Wnx exq<|Wha [2, 5, 8]<|Yi Z ?_ ?_; refine Uc u1 Jt (B1.J E1) Z<|Wnx exq<|Wha [5, 8]<|Yi Z ?_ ?_; refine Qh Jp Z Z (Ku E1 (Kw O2)) Km ?_; rintro _ ⟨rfl, -⟩
        refine Wnx exq<|Wha [8]<|Wh1 Z<|Qh Jp Z Z (Ku E1 (Kw O2)) Km ?_; rintro _ ⟨rfl, -⟩; refine Wnx exq<|Wha [9]<|Wh1 Z<|Vv Z (Qt (a := u1) (b := .string _) (c := .string _) Gg Z Z Z) (c8 _ _ (Ku exq h1)) ?_; rintro _ w12 ⟨rfl, E2⟩; have := E2.Z; refine Wnx exq<|Wha [10]<|Wh1 Z<|Uz Jj (B2.J (E1.K E2)) Z ((F2.K E1).K E2) ?_; rintro w13 E3 B2 K4 Q4; have O1 := (O1.J exq).W K4 Kh; have H1 := (H1.J exq).W K4 Kh; refine Wnx E3<|Uw 11 Z Z E3<|Yr Ki ?_; refine Yc ?_; rotate_left; refine Wh1 Z<|Qh Jp Z Z (Ku E1 (Kw O2)) Km ?_; rintro _ ⟨rfl, -⟩
        refine Wnx exq<|Wha [5]<|Wh1 Z<|Qh Jp Z Z (Ku E1 (Kw O2)) Km ?_; rintro _ ⟨rfl, -⟩; refine Wnx exq<|Wha [9]<|Wh1 Z<|Vv Z (Qt (a := u1) (b := .string _) (c := .string _) Gg Z Z Z) (c8 _ _ (Ku exq h1)) ?_; rintro _ w12 ⟨rfl, E2⟩; have := E2.Z; refine Wnx exq<|Wha [10]<|Wh1 Z<|Uz Jj (B2.J (E1.K E2)) Z ((F2.K E1).K E2) ?_; rintro w13 E3 B2 K4 Q4; have O1 := (O1.J exq).W K4 Kh; have H1 := (H1.J exq).W K4 Kh; refine Wnx E3<|Uw 11 Z Z E3<|Yr Ki ?_; refine Yc ?_; rotate_left; refine Yi Z ?_ ?_; refine Qh Jp Z Z (Ku E1 (Kw O2)) Km ?_; rintro _ ⟨rfl, -⟩
        refine Wnx exq<|Wha [2, 8]<|Yi Z ?_ ?_; refine Uc u1 Jt (B1.J E1) Z<|Wnx exq<|Wha [8]<|Wh1 Z<|Qh Jp Z Z (Ku E1 (Kw O2)) Km ?_; rintro _ ⟨rfl, -⟩; refine Wnx exq<|Wha [9]<|Wh1 Z<|Vv Z (Qt (a := u1) (b := .string _) (c := .string _) Gg Z Z Z) (c8 _ _ (Ku exq h1)) ?_; rintro _ w12 ⟨rfl, E2⟩; have := E2.Z; refine Wnx exq<|Wha [10]<|Wh1 Z<|Uz Jj (B2.J (E1.K E2)) Z ((F2.K E1).K E2) ?_; rintro w13 E3 B2 K4 Q4; have O1 := (O1.J exq).W K4 Kh; have H1 := (H1.J exq).W K4 Kh; refine Wnx E3<|Uw 11 Z Z E3<|Yr Ki ?_; refine Yc ?_; rotate_left
        refine Wh1 Z<|Qh Jp Z Z (Ku E1 (Kw O2)) Km ?_; rintro _ ⟨rfl, -⟩; refine Wnx exq<|Wha [2]<|Wh1 Z<|Uc u1 Jt (B1.J E1) Z<|Wnx exq<|Wha [9]<|Wh1 Z<|Vv Z (Qt (a := u1) (b := .string _) (c := .string _) Gg Z Z Z) (c8 _ _ (Ku exq h1)) ?_; rintro _ w12 ⟨rfl, E2⟩; have := E2.Z; refine Wnx exq<|Wha [10]<|Wh1 Z<|Uz Jj (B2.J (E1.K E2)) Z ((F2.K E1).K E2) ?_; rintro w13 E3 B2 K4 Q4; have O1 := (O1.J exq).W K4 Kh; have H1 := (H1.J exq).W K4 Kh; refine Wnx E3<|Uw 11 Z Z E3<|Yr Ki ?_; refine Yc ?_; rotate_left; refine Wh1 Z<|Qh Jp Z Z (Ku E1 (Kw O2)) Km ?_; rintro _ ⟨rfl, -⟩
        refine Wnx exq<|Wha [2, 5]<|Yi Z ?_ ?_; refine Uc u1 Jt (B1.J E1) Z<|Wnx exq<|Wha [5]<|Wh1 Z<|Qh Jp Z Z (Ku E1 (Kw O2)) Km ?_; rintro _ ⟨rfl, -⟩; refine Wnx exq<|Wha [9]<|Wh1 Z<|Vv Z (Qt (a := u1) (b := .string _) (c := .string _) Gg Z Z Z) (c8 _ _ (Ku exq h1)) ?_; rintro _ w12 ⟨rfl, E2⟩; have := E2.Z; refine Wnx exq<|Wha [10]<|Wh1 Z<|Uz Jj (B2.J (E1.K E2)) Z ((F2.K E1).K E2) ?_; rintro w13 E3 B2 K4 Q4; have O1 := (O1.J exq).W K4 Kh; have H1 := (H1.J exq).W K4 Kh; refine Wnx E3<|Uw 11 Z Z E3<|Yr Ki ?_; refine Yc ?_; rotate_left
        refine Wh1 Z<|Qh Jp Z Z (Ku E1 (Kw O2)) Km ?_; rintro _ ⟨rfl, -⟩; refine Wnx exq<|Wha [2]<|Wh1 Z<|Uc u1 Jt (B1.J E1) Z<|Wnx exq<|Wha [9]<|Wh1 Z<|Vv Z (Qt (a := u1) (b := .string _) (c := .string _) Gg Z Z Z) (c8 _ _ (Ku exq h1)) ?_; rintro _ w12 ⟨rfl, E2⟩; have := E2.Z; refine Wnx exq<|Wha [10]<|Wh1 Z<|Uz Jj (B2.J (E1.K E2)) Z ((F2.K E1).K E2) ?_; rintro w13 E3 B2 K4 Q4; have O1 := (O1.J exq).W K4 Kh; have H1 := (H1.J exq).W K4 Kh; refine Wnx E3<|Uw 11 Z Z E3<|Yr Ki ?_; refine Yc ?_; rotate_left; refine Yi Z ?_ ?_; refine Uc u1 Jt (B1.J E1) Z<|Wnx exq<|Wha [0, 5, 8]<|Yi Z ?_ ?_
        refine Uk Jq Jj (B3.J E1) Z<|Wnx exq<|Wha [5, 8]<|Yi Z ?_ ?_; refine Qh Jp Z Z (Ku E1 (Kw O2)) Km ?_; rintro _ ⟨rfl, -⟩; refine Wnx exq<|Wha [8]<|Wh1 Z<|Qh Jp Z Z (Ku E1 (Kw O2)) Km ?_; rintro _ ⟨rfl, -⟩; refine Wnx exq<|Wha [9]<|Wh1 Z<|Vv Z (Qt (a := u1) (b := .string _) (c := .string _) Gg Z Z Z) (c8 _ _ (Ku exq h1)) ?_; rintro _ w12 ⟨rfl, E2⟩; have := E2.Z; refine Wnx exq<|Wha [10]<|Wh1 Z<|Uz Jj (B2.J (E1.K E2)) Z ((F2.K E1).K E2) ?_; rintro w13 E3 B2 K4 Q4; have O1 := (O1.J exq).W K4 Kh; have H1 := (H1.J exq).W K4 Kh; refine Wnx E3<|Uw 11 Z Z E3<|Yr Ki ?_
        refine Yc ?_; rotate_left; refine Wh1 Z<|Qh Jp Z Z (Ku E1 (Kw O2)) Km ?_; rintro _ ⟨rfl, -⟩; refine Wnx exq<|Wha [5]<|Wh1 Z<|Qh Jp Z Z (Ku E1 (Kw O2)) Km ?_; rintro _ ⟨rfl, -⟩; refine Wnx exq<|Wha [9]<|Wh1 Z<|Vv Z (Qt (a := u1) (b := .string _) (c := .string _) Gg Z Z Z) (c8 _ _ (Ku exq h1)) ?_; rintro _ w12 ⟨rfl, E2⟩; have := E2.Z; refine Wnx exq<|Wha [10]<|Wh1 Z<|Uz Jj (B2.J (E1.K E2)) Z ((F2.K E1).K E2) ?_; rintro w13 E3 B2 K4 Q4; have O1 := (O1.J exq).W K4 Kh; have H1 := (H1.J exq).W K4 Kh; refine Wnx E3<|Uw 11 Z Z E3<|Yr Ki ?_; refine Yc ?_; rotate_left; refine Yi Z ?_ ?_
        refine Qh Jp Z Z (Ku E1 (Kw O2)) Km ?_; rintro _ ⟨rfl, -⟩; refine Wnx exq<|Wha [0, 8]<|Yi Z ?_ ?_; refine Uk Jq Jj (B3.J E1) Z<|Wnx exq<|Wha [8]<|Wh1 Z<|Qh Jp Z Z (Ku E1 (Kw O2)) Km ?_; rintro _ ⟨rfl, -⟩; refine Wnx exq<|Wha [9]<|Wh1 Z<|Vv Z (Qt (a := u1) (b := .string _) (c := .string _) Gg Z Z Z) (c8 _ _ (Ku exq h1)) ?_; rintro _ w12 ⟨rfl, E2⟩; have := E2.Z; refine Wnx exq<|Wha [10]<|Wh1 Z<|Uz Jj (B2.J (E1.K E2)) Z ((F2.K E1).K E2) ?_; rintro w13 E3 B2 K4 Q4; have O1 := (O1.J exq).W K4 Kh; have H1 := (H1.J exq).W K4 Kh; refine Wnx E3<|Uw 11 Z Z E3<|Yr Ki ?_
        refine Yc ?_; rotate_left; refine Wh1 Z<|Qh Jp Z Z (Ku E1 (Kw O2)) Km ?_; rintro _ ⟨rfl, -⟩; refine Wnx exq<|Wha [0, 9]<|Yi Z ?_ ?_; refine Uk Jq Jj (B3.J E1) Z<|Wnx exq<|Wha [9]<|Wh1 Z<|Vv Z (Qt (a := u1) (b := .string _) (c := .string _) Gg Z Z Z) (c8 _ _ (Ku exq h1)) ?_; rintro _ w12 ⟨rfl, E2⟩; have := E2.Z; refine Wnx exq<|Wha [10]<|Wh1 Z<|Uz Jj (B2.J (E1.K E2)) Z ((F2.K E1).K E2) ?_; rintro w13 E3 B2 K4 Q4; have O1 := (O1.J exq).W K4 Kh; have H1 := (H1.J exq).W K4 Kh; refine Wnx E3<|Uw 11 Z Z E3<|Yr Ki ?_; refine Yc ?_; rotate_left
        refine Wh1 Z<|Vv Z (Qt (a := u1) (b := .string _) (c := .string _) Gg Z Z Z) (c8 _ _ (Ku exq h1)) ?_; rintro _ w12 ⟨rfl, E2⟩; have := E2.Z; refine Wnx exq<|Wha [0]<|Wh1 Z<|Uk Jq Jj (B3.J exq) Z<|Wnx exq<|Wha [10]<|Wh1 Z<|Uz Jj (B2.J (E1.K E2)) Z ((F2.K E1).K E2) ?_; rintro w13 E3 B2 K4 Q4; have O1 := (O1.J exq).W K4 Kh; have H1 := (H1.J exq).W K4 Kh; refine Wnx E3<|Uw 11 Z Z E3<|Yr Ki ?_; refine Yc ?_; rotate_left; refine Wh1 Z<|Qh Jp Z Z (Ku E1 (Kw O2)) Km ?_; rintro _ ⟨rfl, -⟩; refine Wnx exq<|Wha [0, 5]<|Yi Z ?_ ?_
        refine Uk Jq Jj (B3.J E1) Z<|Wnx exq<|Wha [5]<|Wh1 Z<|Qh Jp Z Z (Ku E1 (Kw O2)) Km ?_; rintro _ ⟨rfl, -⟩; refine Wnx exq<|Wha [9]<|Wh1 Z<|Vv Z (Qt (a := u1) (b := .string _) (c := .string _) Gg Z Z Z) (c8 _ _ (Ku exq h1)) ?_; rintro _ w12 ⟨rfl, E2⟩; have := E2.Z; refine Wnx exq<|Wha [10]<|Wh1 Z<|Uz Jj (B2.J (E1.K E2)) Z ((F2.K E1).K E2) ?_; rintro w13 E3 B2 K4 Q4; have O1 := (O1.J exq).W K4 Kh; have H1 := (H1.J exq).W K4 Kh; refine Wnx E3<|Uw 11 Z Z E3<|Yr Ki ?_; refine Yc ?_; rotate_left; refine Wh1 Z<|Qh Jp Z Z (Ku E1 (Kw O2)) Km ?_; rintro _ ⟨rfl, -⟩
        refine Wnx exq<|Wha [0, 9]<|Yi Z ?_ ?_; refine Uk Jq Jj (B3.J E1) Z<|Wnx exq<|Wha [9]<|Wh1 Z<|Vv Z (Qt (a := u1) (b := .string _) (c := .string _) Gg Z Z Z) (c8 _ _ (Ku exq h1)) ?_; rintro _ w12 ⟨rfl, E2⟩; have := E2.Z; refine Wnx exq<|Wha [10]<|Wh1 Z<|Uz Jj (B2.J (E1.K E2)) Z ((F2.K E1).K E2) ?_; rintro w13 E3 B2 K4 Q4; have O1 := (O1.J exq).W K4 Kh; have H1 := (H1.J exq).W K4 Kh; refine Wnx E3<|Uw 11 Z Z E3<|Yr Ki ?_; refine Yc ?_; rotate_left; refine Wh1 Z<|Vv Z (Qt (a := u1) (b := .string _) (c := .string _) Gg Z Z Z) (c8 _ _ (Ku exq h1)) ?_; rintro _ w12 ⟨rfl, E2⟩; have := E2.Z
        refine Wnx exq<|Wha [0]<|Wh1 Z<|Uk Jq Jj (B3.J exq) Z<|Wnx exq<|Wha [10]<|Wh1 Z<|Uz Jj (B2.J (E1.K E2)) Z ((F2.K E1).K E2) ?_; rintro w13 E3 B2 K4 Q4; have O1 := (O1.J exq).W K4 Kh; have H1 := (H1.J exq).W K4 Kh; refine Wnx E3<|Uw 11 Z Z E3<|Yr Ki ?_; refine Yc ?_; rotate_left; refine Yi Z ?_ ?_; refine Qh Jp Z Z (Ku E1 (Kw O2)) Km ?_; rintro _ ⟨rfl, -⟩; refine Wnx exq<|Wha [0, 2, 8]<|Yi Z ?_ ?_; refine Uk Jq Jj (B3.J E1) Z<|Wnx exq<|Wha [2, 8]<|Yi Z ?_ ?_
        refine Uc u1 Jt (B1.J E1) Z<|Wnx exq<|Wha [8]<|Wh1 Z<|Qh Jp Z Z (Ku E1 (Kw O2)) Km ?_; rintro _ ⟨rfl, -⟩; refine Wnx exq<|Wha [9]<|Wh1 Z<|Vv Z (Qt (a := u1) (b := .string _) (c := .string _) Gg Z Z Z) (c8 _ _ (Ku exq h1)) ?_; rintro _ w12 ⟨rfl, E2⟩; have := E2.Z; refine Wnx exq<|Wha [10]<|Wh1 Z<|Uz Jj (B2.J (E1.K E2)) Z ((F2.K E1).K E2) ?_; rintro w13 E3 B2 K4 Q4; have O1 := (O1.J exq).W K4 Kh; have H1 := (H1.J exq).W K4 Kh; refine Wnx E3<|Uw 11 Z Z E3<|Yr Ki ?_; refine Yc ?_; rotate_left; refine Wh1 Z<|Qh Jp Z Z (Ku E1 (Kw O2)) Km ?_; rintro _ ⟨rfl, -⟩
        refine Wnx exq<|Wha [2]<|Wh1 Z<|Uc u1 Jt (B1.J E1) Z<|Wnx exq<|Wha [9]<|Wh1 Z<|Vv Z (Qt (a := u1) (b := .string _) (c := .string _) Gg Z Z Z) (c8 _ _ (Ku exq h1)) ?_; rintro _ w12 ⟨rfl, E2⟩; have := E2.Z; refine Wnx exq<|Wha [10]<|Wh1 Z<|Uz Jj (B2.J (E1.K E2)) Z ((F2.K E1).K E2) ?_; rintro w13 E3 B2 K4 Q4; have O1 := (O1.J exq).W K4 Kh; have H1 := (H1.J exq).W K4 Kh; refine Wnx E3<|Uw 11 Z Z E3<|Yr Ki ?_; refine Yc ?_; rotate_left; refine Yi Z ?_ ?_; refine Uc u1 Jt (B1.J E1) Z<|Wnx exq<|Wha [0, 8]<|Yi Z ?_ ?_
        refine Uk Jq Jj (B3.J E1) Z<|Wnx exq<|Wha [8]<|Wh1 Z<|Qh Jp Z Z (Ku E1 (Kw O2)) Km ?_; rintro _ ⟨rfl, -⟩; refine Wnx exq<|Wha [9]<|Wh1 Z<|Vv Z (Qt (a := u1) (b := .string _) (c := .string _) Gg Z Z Z) (c8 _ _ (Ku exq h1)) ?_; rintro _ w12 ⟨rfl, E2⟩; have := E2.Z; refine Wnx exq<|Wha [10]<|Wh1 Z<|Uz Jj (B2.J (E1.K E2)) Z ((F2.K E1).K E2) ?_; rintro w13 E3 B2 K4 Q4; have O1 := (O1.J exq).W K4 Kh; have H1 := (H1.J exq).W K4 Kh; refine Wnx E3<|Uw 11 Z Z E3<|Yr Ki ?_; refine Yc ?_; rotate_left; refine Wh1 Z<|Qh Jp Z Z (Ku E1 (Kw O2)) Km ?_; rintro _ ⟨rfl, -⟩
        refine Wnx exq<|Wha [0, 9]<|Yi Z ?_ ?_; refine Uk Jq Jj (B3.J E1) Z<|Wnx exq<|Wha [9]<|Wh1 Z<|Vv Z (Qt (a := u1) (b := .string _) (c := .string _) Gg Z Z Z) (c8 _ _ (Ku exq h1)) ?_; rintro _ w12 ⟨rfl, E2⟩; have := E2.Z; refine Wnx exq<|Wha [10]<|Wh1 Z<|Uz Jj (B2.J (E1.K E2)) Z ((F2.K E1).K E2) ?_; rintro w13 E3 B2 K4 Q4; have O1 := (O1.J exq).W K4 Kh; have H1 := (H1.J exq).W K4 Kh; refine Wnx E3<|Uw 11 Z Z E3<|Yr Ki ?_; refine Yc ?_; rotate_left; refine Wh1 Z<|Vv Z (Qt (a := u1) (b := .string _) (c := .string _) Gg Z Z Z) (c8 _ _ (Ku exq h1)) ?_; rintro _ w12 ⟨rfl, E2⟩; have := E2.Z
        refine Wnx exq<|Wha [0]<|Wh1 Z<|Uk Jq Jj (B3.J exq) Z<|Wnx exq<|Wha [10]<|Wh1 Z<|Uz Jj (B2.J (E1.K E2)) Z ((F2.K E1).K E2) ?_; rintro w13 E3 B2 K4 Q4; have O1 := (O1.J exq).W K4 Kh; have H1 := (H1.J exq).W K4 Kh; refine Wnx E3<|Uw 11 Z Z E3<|Yr Ki ?_; refine Yc ?_; rotate_left; refine Wh1 Z<|Qh Jp Z Z (Ku E1 (Kw O2)) Km ?_; rintro _ ⟨rfl, -⟩; refine Wnx exq<|Wha [0, 2]<|Yi Z ?_ ?_; refine Uk Jq Jj (B3.J E1) Z<|Wnx exq<|Wha [2]<|Wh1 Z<|Uc u1 Jt (B1.J E1) Z<|Wnx exq<|Wha [9]<|Wh1 Z<|Vv Z (Qt (a := u1) (b := .string _) (c := .string _) Gg Z Z Z) (c8 _ _ (Ku exq h1)) ?_
        rintro _ w12 ⟨rfl, E2⟩; have := E2.Z; refine Wnx exq<|Wha [10]<|Wh1 Z<|Uz Jj (B2.J (E1.K E2)) Z ((F2.K E1).K E2) ?_; rintro w13 E3 B2 K4 Q4; have O1 := (O1.J exq).W K4 Kh; have H1 := (H1.J exq).W K4 Kh; refine Wnx E3<|Uw 11 Z Z E3<|Yr Ki ?_; refine Yc ?_; rotate_left; refine Wh1 Z<|Uc u1 Jt (B1.J E1) Z<|Wnx exq<|Wha [0, 9]<|Yi Z ?_ ?_; refine Uk Jq Jj (B3.J E1) Z<|Wnx exq<|Wha [9]<|Wh1 Z<|Vv Z (Qt (a := u1) (b := .string _) (c := .string _) Gg Z Z Z) (c8 _ _ (Ku exq h1)) ?_; rintro _ w12 ⟨rfl, E2⟩; have := E2.Z; refine Wnx exq<|Wha [10]<|Wh1 Z<|Uz Jj (B2.J (E1.K E2)) Z ((F2.K E1).K E2) ?_; rintro w13 E3 B2 K4 Q4
        have O1 := (O1.J exq).W K4 Kh; have H1 := (H1.J exq).W K4 Kh; refine Wnx E3<|Uw 11 Z Z E3<|Yr Ki ?_; refine Yc ?_; rotate_left; refine Wh1 Z<|Vv Z (Qt (a := u1) (b := .string _) (c := .string _) Gg Z Z Z) (c8 _ _ (Ku exq h1)) ?_; rintro _ w12 ⟨rfl, E2⟩; have := E2.Z; refine Wnx exq<|Wha [0]<|Wh1 Z<|Uk Jq Jj (B3.J exq) Z<|Wnx exq<|Wha [10]<|Wh1 Z<|Uz Jj (B2.J (E1.K E2)) Z ((F2.K E1).K E2) ?_; rintro w13 E3 B2 K4 Q4; have O1 := (O1.J exq).W K4 Kh; have H1 := (H1.J exq).W K4 Kh; refine Wnx E3<|Uw 11 Z Z E3<|Yr Ki ?_; refine Yc ?_; rotate_left
        refine Wh1 Z<|Qh Jp Z Z (Ku E1 (Kw O2)) Km ?_; rintro _ ⟨rfl, -⟩; refine Wnx exq<|Wha [0, 2, 5]<|Yi Z ?_ ?_; refine Uk Jq Jj (B3.J E1) Z<|Wnx exq<|Wha [2, 5]<|Yi Z ?_ ?_; refine Uc u1 Jt (B1.J E1) Z<|Wnx exq<|Wha [5]<|Wh1 Z<|Qh Jp Z Z (Ku E1 (Kw O2)) Km ?_; rintro _ ⟨rfl, -⟩; refine Wnx exq<|Wha [9]<|Wh1 Z<|Vv Z (Qt (a := u1) (b := .string _) (c := .string _) Gg Z Z Z) (c8 _ _ (Ku exq h1)) ?_; rintro _ w12 ⟨rfl, E2⟩; have := E2.Z; refine Wnx exq<|Wha [10]<|Wh1 Z<|Uz Jj (B2.J (E1.K E2)) Z ((F2.K E1).K E2) ?_; rintro w13 E3 B2 K4 Q4; have O1 := (O1.J exq).W K4 Kh
        have H1 := (H1.J exq).W K4 Kh; refine Wnx E3<|Uw 11 Z Z E3<|Yr Ki ?_; refine Yc ?_; rotate_left; refine Wh1 Z<|Qh Jp Z Z (Ku E1 (Kw O2)) Km ?_; rintro _ ⟨rfl, -⟩; refine Wnx exq<|Wha [2]<|Wh1 Z<|Uc u1 Jt (B1.J E1) Z<|Wnx exq<|Wha [9]<|Wh1 Z<|Vv Z (Qt (a := u1) (b := .string _) (c := .string _) Gg Z Z Z) (c8 _ _ (Ku exq h1)) ?_; rintro _ w12 ⟨rfl, E2⟩; have := E2.Z; refine Wnx exq<|Wha [10]<|Wh1 Z<|Uz Jj (B2.J (E1.K E2)) Z ((F2.K E1).K E2) ?_; rintro w13 E3 B2 K4 Q4; have O1 := (O1.J exq).W K4 Kh; have H1 := (H1.J exq).W K4 Kh; refine Wnx E3<|Uw 11 Z Z E3<|Yr Ki ?_; refine Yc ?_; rotate_left
        refine Yi Z ?_ ?_; refine Uc u1 Jt (B1.J E1) Z<|Wnx exq<|Wha [0, 5]<|Yi Z ?_ ?_; refine Uk Jq Jj (B3.J E1) Z<|Wnx exq<|Wha [5]<|Wh1 Z<|Qh Jp Z Z (Ku E1 (Kw O2)) Km ?_; rintro _ ⟨rfl, -⟩; refine Wnx exq<|Wha [9]<|Wh1 Z<|Vv Z (Qt (a := u1) (b := .string _) (c := .string _) Gg Z Z Z) (c8 _ _ (Ku exq h1)) ?_; rintro _ w12 ⟨rfl, E2⟩; have := E2.Z; refine Wnx exq<|Wha [10]<|Wh1 Z<|Uz Jj (B2.J (E1.K E2)) Z ((F2.K E1).K E2) ?_; rintro w13 E3 B2 K4 Q4; have O1 := (O1.J exq).W K4 Kh; have H1 := (H1.J exq).W K4 Kh; refine Wnx E3<|Uw 11 Z Z E3<|Yr Ki ?_; refine Yc ?_; rotate_left
        refine Wh1 Z<|Qh Jp Z Z (Ku E1 (Kw O2)) Km ?_; rintro _ ⟨rfl, -⟩; refine Wnx exq<|Wha [0, 9]<|Yi Z ?_ ?_; refine Uk Jq Jj (B3.J E1) Z<|Wnx exq<|Wha [9]<|Wh1 Z<|Vv Z (Qt (a := u1) (b := .string _) (c := .string _) Gg Z Z Z) (c8 _ _ (Ku exq h1)) ?_; rintro _ w12 ⟨rfl, E2⟩; have := E2.Z; refine Wnx exq<|Wha [10]<|Wh1 Z<|Uz Jj (B2.J (E1.K E2)) Z ((F2.K E1).K E2) ?_; rintro w13 E3 B2 K4 Q4; have O1 := (O1.J exq).W K4 Kh; have H1 := (H1.J exq).W K4 Kh; refine Wnx E3<|Uw 11 Z Z E3<|Yr Ki ?_; refine Yc ?_; rotate_left
        refine Wh1 Z<|Vv Z (Qt (a := u1) (b := .string _) (c := .string _) Gg Z Z Z) (c8 _ _ (Ku exq h1)) ?_; rintro _ w12 ⟨rfl, E2⟩; have := E2.Z; refine Wnx exq<|Wha [0]<|Wh1 Z<|Uk Jq Jj (B3.J exq) Z<|Wnx exq<|Wha [10]<|Wh1 Z<|Uz Jj (B2.J (E1.K E2)) Z ((F2.K E1).K E2) ?_; rintro w13 E3 B2 K4 Q4; have O1 := (O1.J exq).W K4 Kh; have H1 := (H1.J exq).W K4 Kh; refine Wnx E3<|Uw 11 Z Z E3<|Yr Ki ?_; refine Yc ?_; rotate_left; refine Wh1 Z<|Qh Jp Z Z (Ku E1 (Kw O2)) Km ?_; rintro _ ⟨rfl, -⟩; refine Wnx exq<|Wha [0, 2]<|Yi Z ?_ ?_
        refine Uk Jq Jj (B3.J E1) Z<|Wnx exq<|Wha [2]<|Wh1 Z<|Uc u1 Jt (B1.J E1) Z<|Wnx exq<|Wha [9]<|Wh1 Z<|Vv Z (Qt (a := u1) (b := .string _) (c := .string _) Gg Z Z Z) (c8 _ _ (Ku exq h1)) ?_; rintro _ w12 ⟨rfl, E2⟩; have := E2.Z; refine Wnx exq<|Wha [10]<|Wh1 Z<|Uz Jj (B2.J (E1.K E2)) Z ((F2.K E1).K E2) ?_; rintro w13 E3 B2 K4 Q4; have O1 := (O1.J exq).W K4 Kh; have H1 := (H1.J exq).W K4 Kh; refine Wnx E3<|Uw 11 Z Z E3<|Yr Ki ?_; refine Yc ?_; rotate_left; refine Wh1 Z<|Uc u1 Jt (B1.J E1) Z<|Wnx exq<|Wha [0, 9]<|Yi Z ?_ ?_
        refine Uk Jq Jj (B3.J E1) Z<|Wnx exq<|Wha [9]<|Wh1 Z<|Vv Z (Qt (a := u1) (b := .string _) (c := .string _) Gg Z Z Z) (c8 _ _ (Ku exq h1)) ?_; rintro _ w12 ⟨rfl, E2⟩; have := E2.Z; refine Wnx exq<|Wha [10]<|Wh1 Z<|Uz Jj (B2.J (E1.K E2)) Z ((F2.K E1).K E2) ?_; rintro w13 E3 B2 K4 Q4; have O1 := (O1.J exq).W K4 Kh; have H1 := (H1.J exq).W K4 Kh; refine Wnx E3<|Uw 11 Z Z E3<|Yr Ki ?_; refine Yc ?_; rotate_left; refine Wh1 Z<|Vv Z (Qt (a := u1) (b := .string _) (c := .string _) Gg Z Z Z) (c8 _ _ (Ku exq h1)) ?_; rintro _ w12 ⟨rfl, E2⟩; have := E2.Z
        refine Wnx exq<|Wha [0]<|Wh1 Z<|Uk Jq Jj (B3.J exq) Z<|Wnx exq<|Wha [10]<|Wh1 Z<|Uz Jj (B2.J (E1.K E2)) Z ((F2.K E1).K E2) ?_; rintro w13 E3 B2 K4 Q4; have O1 := (O1.J exq).W K4 Kh; have H1 := (H1.J exq).W K4 Kh; refine Wnx E3<|Uw 11 Z Z E3<|Yr Ki ?_; refine Yc ?_; rotate_left
      all_goals exact ⟨b2, u3, q1, rfl, B2, u3, q1, rfl, by repeat (first | assumption | refine Ext.trans Kk ?_), O1.rd.wide Kh Kh, H1.rd.wide Kh Kh, Y3, N1⟩
 ·rw [show dlV d s=(⟨[],[]⟩,[]) from if_neg hd]
  have k0 : ∀ w,ESl Ints w u1 d.now→ESl (ESl Ints) w u2 d.past→Dz 16 [.agg #[u1,u2]] w (Ret w (.bool false)):=fun w h1 h2=>by
   have:=Rk w u1 u2 d h1 h2;rwa [decide_eq_false hd] at this
  focus
   refine Vw<|Xx Z Z Z ?_;rintro b1 w1 R1 E1 B1;have:=B1.lt;refine Xi Z Xz ?_;rintro b2 w2 R2 E2 B2;refine Xy Z<|Vt<|Vx<|Vw<|Uk Jq Jj (B1.J E2) Z<|Vv Z (Xl (a:=.agg _) Gp Z) (k0 _ (Ku exq h1) (Ku exq h2)) ?_;rintro _ w3 ⟨rfl,E3⟩;refine Ub Z<|Vt<|Ut Z (fun h3=>?_) (fun h3=>?_);refine Vw<|Wo Z (Yz (ps:=[]) (cs:=[_,_]) Xz Z Z)<|Uz Jj (B2.J E3) Z ((E1.K E2).K E3) ?_;rintro w4 E4 B2 K1 Q1;have E5:=(E2.K E3).A exq E4 K1 Q1 Kh;have:=E5.Z;refine Xy Z<|Vt<|Yc ?_;rotate_left;exact Ks
  exact ⟨b2,_,_,rfl,B2,_,_,rfl,by exact E4,nil1 _ _ Kh,nil2 _ _ Kh,rfl,rfl⟩
end Go.Proofs.YtbgpppaljpngmaaGreatDoor
set_option linter.unusedVariables false
namespace Go.Hs
def RetDkY (w:World) (e0 e1 e2 eS:TypeId) (now:List (List Int)) (past:List (List (List Int))) (l:List (List UInt8)):Value→World→Prop:=fun v w'=>∃ u1 u2 va lo m hi,v=.tuple #[.agg #[u1,u2],va]∧Ext w w'∧OwnedB lo m (XSl e1 (XSl e2 XInt)) w' u1 now∧OwnedB m hi (XSl e0 (XSl e1 (XSl e2 XInt))) w' u2 past∧Owned w.heap.size (XSl eS XStr) w' va l∧w.heap.size≤lo∧lo≤m∧m≤hi∧hi≤w'.heap.size∧∀ q,va.ownBlock=some q→q < lo∨hi≤q
def RetDkRY (w:World) (eS:TypeId) (now:List (List Int)) (past:List (List (List Int))) (l:List (List UInt8)):Value→World→Prop:=fun v w'=>∃ u1 u2 va,v=.tuple #[.agg #[u1,u2],va]∧Ext w w'∧OwnedB w.heap.size w'.heap.size (XRd (ESl Ints)) w' u1 now∧OwnedB w.heap.size w'.heap.size (XRd (ESl (ESl Ints))) w' u2 past∧Owned w.heap.size (XSl eS XStr) w' va l∧isCell u1=true∧isCell u2=true
def RetDkLS (w:World) (p:Dsk→List (List UInt8)→Prop):Value→World→Prop:=fun v w'=>∃ u1 u2 now past a c l,v=.tuple #[.agg #[u1,u2],.slice a l.length c]∧Ext w w'∧ESl Ints w' u1 now∧ESl (ESl Ints) w' u2 past∧isCell u1=true∧isCell u2=true∧ESl EStr w' (.slice a l.length c) l∧l.length≤c∧p ⟨now,past⟩ l
theorem OwnedB.sform {α : Type} {X:World→List Nat→Value→α→Prop} {e:TypeId} {lo hi:Nat} {w:World} {v:Value} {xs:List α} (h:OwnedB lo hi (XSl e X) w v xs) : ∃ a c,v=.slice a xs.length c∧xs.length≤c:=by
 obtain ⟨fp,_,_,cs,fps,h1,_,_⟩:=h
 rcases h1.2 with ⟨rfl,h0⟩ | ⟨g,cap,cur,rfl,hb,hg,hc,_⟩
 ·exact ⟨none,0,by rw [h0],Kh⟩
 ·exact ⟨_,cap,rfl,hc⟩
theorem xall_nil {w:World} : ∀ {fps:List (List Nat)} {cs:List Value} {xs:List (List UInt8)},XAll XStr w fps cs xs→fps.flatten=[]
 | [],[],[],_=>rfl
 | f::fs,c::cs,x::xs,h=>by rw [List.flatten_cons,h.1.1,xall_nil h.2];rfl
theorem OwnedB.narrowS {e:TypeId} {lo hi lo' hi':Nat} {w:World} {v:Value} {xs:List (List UInt8)} (h:OwnedB lo hi (XSl e XStr) w v xs) (hq : ∀ q,v.ownBlock=some q→lo'≤q∧q < hi'):OwnedB lo' hi' (XSl e XStr) w v xs:=by
 obtain ⟨fp,hn,hb,cs,fps,h1,rfl,h3⟩:=h
 refine ⟨_,hn,fun k hk=>?_,cs,fps,h1,Z,h3⟩
 rw [xall_nil h3,List.append_nil] at hk
 cases hv:v.ownBlock with
 | none=>rw [hv] at hk;cases hk
 | some q=>rw [hv] at hk;simp at hk;subst hk;exact hq _ hv
end Go.Hs
namespace Go.Proofs.YtbgpppaljpngmaaGreatDoor
open Go.Hs
set_option maxRecDepth 10000
set_option maxHeartbeats 4000000
set_option linter.unusedVariables false
set_option linter.unusedSimpArgs false
noncomputable def sayV (d:Dsk) (l:List (List UInt8)):Dsk × List (List UInt8):=l.foldl (fun x s=>((lnV x.1 s).1,x.2++[(lnV x.1 s).2])) (d,[])
theorem say_from (l:List (List UInt8)) : ∀ (d:Dsk) (o:List (List UInt8)),l.foldl (fun x s=>((lnV x.1 s).1,x.2++[(lnV x.1 s).2])) (d,o)=((sayV d l).1,o++(sayV d l).2):=by
 induction l with
 | nil=>intro d o;simp [sayV]
 | cons s l ih =>
   intro d o
   unfold sayV
   rw [List.foldl_cons, List.foldl_cons, ih, ih]
   simp
theorem sayV_app (d:Dsk) (l l':List (List UInt8)):sayV d (l++l')=((sayV (sayV d l).1 l').1,(sayV d l).2++(sayV (sayV d l).1 l').2):=by
 conv=>lhs;unfold sayV
 rw [List.foldl_append,say_from l d [],List.nil_append,say_from]
theorem Lg (d:Dsk) (l:List (List UInt8)) (s:List UInt8):sayV d (l++[s])=((lnV (sayV d l).1 s).1,(sayV d l).2++[(lnV (sayV d l).1 s).2]):=by
 rw [sayV_app];rfl
theorem lnV_ok' {d:Dsk} (h:DkOk d) (s:List UInt8):DkOk (lnV d s).1:=by
 unfold lnV
 split
 ·exact doV_ok h
 ·exact h
theorem sayV_ok {d:Dsk} (h:DkOk d) (l:List (List UInt8)):DkOk (sayV d l).1 :=
 snoc_ind (P:=fun l=>DkOk (sayV d l).1) h (fun l s ih=>by rw [Lg];exact lnV_ok' ih s) l
theorem sayV_len (d:Dsk) (l:List (List UInt8)):(sayV d l).2.length=l.length :=
 snoc_ind (P:=fun l=>(sayV d l).2.length=l.length) rfl (fun l s ih=>by rw [Lg];simp [ih]) l
theorem yn_len (b:Bool):(ynV b).length≤3:=by cases b <;> decide
theorem ask2_len (p:List (List Int)) (a r:List UInt8):(ask2 p a r).length≤4:=by
 unfold ask2
 split
 ·exact Jd (yn_len _) Kj
 ·split
  ·exact Jd (yn_len _) Kj
  ·split
   ·exact Jd (yn_len _) Kj
   ·decide
theorem askV_len {p:List (List Int)} (hp:Pic p) (s:List UInt8):(askV p s).length≤100000:=by
 have h1:=Mi hp.gr
 have h2:=dec_len _ (manyV p 0) (Kz _)
 have h3:=manyV_le p 0
 have h4:=dec_len _ (faV p).length (Kz _)
 have h5:=faV_le p
 rw [Ur] at h5
 have h6:=hp.2.1
 have h7:=ask2_len p (cutF 32 s).1 (cutF 32 s).2.1
 unfold askV
 split
 ·simp only [List.length_cons];omega
 ·split
  ·rcases codeV_nat p 0 with ⟨c,hc,e⟩ | e
   ·rw [e]
    have:=dec_len _ c (Kz _)
    simp only [if_pos,Int.toNat_natCast];omega
   ·rw [e];decide
  ·split
   ·omega
   ·split
    ·exact Jd (yn_len _) Kj
    ·split
     ·rcases deepAtV_nat hp 0 with ⟨c,hc,e⟩ | e
      ·rw [e,if_pos Kh]
       have:=dec_len _ c (Kz _)
       rw [Int.toNat_natCast];omega
      ·rw [e];decide
     ·split
      ·omega
      ·split
       ·omega
       ·decide
theorem lnV_len {d:Dsk} (h:DkOk d) (s:List UInt8):(lnV d s).2.length≤100000:=by
 unfold lnV
 split
 ·simp only;unfold okV;split <;> decide
 ·exact askV_len h.1.1 s
open Classical in
noncomputable def dsV (d:Dsk) (l:List (List UInt8)):Dsk × List (List UInt8):=if DkOk d∧l.length≤40 then sayV d l else (⟨[],[]⟩,[])
open Classical in
theorem impl_DeskSay_ok (w:World) (hM:EMx gMx w (.bool true) ()) (hT:ETb w (.bool true) ()) (u1 u2:Value) (d:Dsk) (h1:ESl Ints w u1 d.now) (h2:ESl (ESl Ints) w u2 d.past) (vl:Value) (l:List (List UInt8)) (hl:ESl EStr w vl l) (hx : ∀ s ∈ l,s.length≤1048576) :
  Dz 21 [.agg #[u1,u2],vl] w (RetDkY w 23 88 3 9 (dsV d l).1.now (dsV d l).1.past (dsV d l).2):=by
 have Y1:isCell u1=true:=Qy h1
 have Y2:isCell u2=true:=Qy h2
 have hle:=hl.le
 refine Sy Tryz.func21 Z Tryz.results21 Tryz.ntmps21 Z Jq Jj ?_
 by_cases hd:DkOk d
 ·have k0 : ∀ w,ESl Ints w u1 d.now→ESl (ESl Ints) w u2 d.past→Dz 58 [.agg #[u1,u2]] w (Ret w (.bool true)):=fun w h1 h2=>by
   have:=isDesk_ok w u1 u2 d h1 h2;rwa [decide_eq_true hd] at this
  by_cases h40:l.length≤40
  ·rw [show dsV d l=sayV d l from if_pos ⟨hd,h40⟩]
   have bnd : ∀ q,Pic q→q.length≤100∧∀ r ∈ q,r.length≤100:=fun q hq=>⟨by have:=hq.2.1;omega,fun r hr=>by rw [(hq.2.2 r hr).1];have:=hq.2.1;omega⟩
   have hppl:=hd.2.1
   have k1 : ∀ w,ESl Ints w u1 d.now→ESl (ESl Ints) w u2 d.past→Dz 77 [.agg #[u1,u2]] w (RetDk w 23 88 3 d.now d.past):=fun w h1 h2=>Nh w u1 u2 d.now d.past h1 h2 (bnd _ hd.1.1) Kh (fun q hq=>bnd q (hd.2.2 q hq).1)
   focus
    refine Vw<|Xx Z Z Z ?_;rintro b1 w1 R1 E1 B1;have:=B1.lt;refine Xi Z Xz ?_;rintro b2 w2 R2 E2 B2;have:=B2.lt;refine Um Z<|Vt<|Vx<|Vw<|Uk Jq Jj (B1.J E2) Z<|Vv Z (Xl (a:=.agg _) Tryz.call58 Z) (k0 _ (Ku exq h1) (Ku exq h2)) ?_;rintro _ w3 ⟨rfl,E3⟩;have:=E3.Z;refine Ub Z<|Uh Z (Xn (v:=.bool _) Z) (fun h3=>?_) (fun h3=>?_);exact Ks;refine Ym vl Z<|Yu Js Z hl<|Qg Z<|Xg Z<|Vt<|Vz Z fun h4=>?_;refine Ya<|Vw<|Uk Jq Jj (B1.J exq) Z<|Vv Z (Xl (a:=.agg _) Zn Z) (k1 _ (Ku exq h1) (Ku exq h2)) ?_;rintro _ w4 ⟨u3,q1,m1,rfl,E4,O1,H1,X1,U1⟩;have Y3:=Kx O1
    have N1:=Kx (Je H1);have:=E4.Z;refine Up Z Jj Z Z Kl Kl (B1.J ((E2.K E3).K E4)) Kh (((E1.K E2).K E3).K E4) ?_;rintro w5 E5 B1 K1 Q1;have B2:=(B2.J exq).Y (K1 _ Kh);have O1:=O1.W K1 Kh;have H1:=H1.toB.W K1 Kh;refine Vt<|Vw<|Uq XStr Z el34 Jn ?_;rintro b3 w6 R3 b3lt E6 O2;have:=E6.Z;refine Um Z<|Vt<|Vx<|Vw<|Ym vl Z<|Yu Js Z hl<|Yd Z<|Vt<|Ye ?_
   refine Xw [6,8,9,10,25,26,27,28,29,30,31,32,33,34,35,36,37,38,39,40] (fun ((k,v1,v2,va,lo,m,hi):Nat × Value × Value × Value × Nat × Nat × Nat)=>[(25,.int .i64 (k:Nat)),(6,va)]) (fun (k,v1,v2,va,lo,m,hi) w'=>Ext w w'∧w6.heap.size≤w'.heap.size∧k≤l.length∧Blk w' b1 [v1,v2]∧Blk w' b2 [.slice none 0 0,.slice none 0 0]∧OwnedB lo m XR w' v1 (sayV d (l.take k)).1.now∧OwnedB m hi (XSl 23 XR) w' v2 (sayV d (l.take k)).1.past∧OwnedB w5.heap.size w'.heap.size XS w' va (sayV d (l.take k)).2∧w3.heap.size≤lo∧lo≤m∧m≤hi∧hi≤w'.heap.size∧isCell v1=true∧isCell v2=true∧∀ q,va.ownBlock=some q→q < lo∨hi≤q) (fun x=>l.length - x.1) (0,u3,q1,.slice (some ⟨b3,0,none⟩) 0 0,w3.heap.size,m1,w4.heap.size) Kn ?_ ?_
   ·exact ⟨by exact (E5.K E6),Kz _,Ja _,B1.J E6,B2.J E6,O1.J E6,H1.J E6,O2.toB,Kh,Kh,Kh,Kh,Y3,N1,fun q hq=>by simp [Value.ownBlock] at hq;omega⟩
   clear B1 B2 O1 H1 O2 k0 k1
   rintro ⟨k,v1,v2,va,lo,m,hi⟩ ρj w7 ⟨E7,hsz,hk,B1,B2,O1,H1,hA,hlo,hlm,hmh,hhi,ic1,ic2,hdq⟩
   have hal:=sayV_len d (l.take k)
   have hal2:(l.take k).length≤40:=by rw [List.length_take];omega
   by_cases hlt:k < l.length
   ·have hok:=sayV_ok hd (l.take k)
    have hsn:sayV d (l.take (k+1))=((lnV (sayV d (l.take k)).1 l[k]).1,(sayV d (l.take k)).2++[(lnV (sayV d (l.take k)).1 l[k]).2]):=by rw [Ud _ _ hlt,Lg]
    have hxk:=hx _ (List.getElem_mem hlt)
    have hln:=lnV_len hok l[k]
    have kD : ∀ (w:World),EMx gMx w (.bool true) ()→ETb w (.bool true) ()→ESl Ints w v1 (sayV d (l.take k)).1.now→ESl (ESl Ints) w v2 (sayV d (l.take k)).1.past→Dz 59 [.agg #[v1,v2],str l[k]] w (RetDkT w 23 88 3 (lnV (sayV d (l.take k)).1 l[k]).1.now (lnV (sayV d (l.take k)).1 l[k]).1.past (lnV (sayV d (l.take k)).1 l[k]).2):=fun w hM hT h1 h2=>deskLine_ok w hM hT v1 v2 _ h1 h2 hok _ hxk
    have hAlt : ∀ q,va.ownBlock=some q→q < w7.heap.size:=fun q hq=>(hA.lt_own hq).2
    focus
     have:=E5.Z;refine Vw<|Xa Z<|Vt<|Vx<|Vy Z (fun h5=>?_) (fun h5=>?_);refine Ya<|Vx<|Ye<|Vw<|Ua Js Jn Jp Z (fun _=>Z) Z hl E7 Z Km ?_;rintro _ _ ⟨rfl,-⟩;refine Xy Z<|Vt<|Vw<|Uk Jq Jj B1 Z<|Xe Z<|Vv Z (Xd (a:=.agg _) (b:=.string _) Tryz.call59 Z Z) (kD _ (Ku E7 hM) (Ku E7 hT) (Kw O1) (Kw H1)) ?_;rintro _ w8 ⟨u4,q2,m2,rfl,E8,O2,H2,X2,U2⟩;have Y4:=Kx O2;have N2:=Kx (Je H2);have:=E8.Z;refine Uy Z<|Lp Z<|Tl Z<|Xi Z Xz ?_;rintro b4 w9 R4 E9 B3;have:=B3.lt;refine Uz Jj B3 Z ((E7.K E8).K E9) ?_;rintro w10 E10 B3 K2 Q2
     have B1:=(B1.J exq).Y (K2 _ Kh);have B2:=(B2.J exq).Y (K2 _ Kh);have hA:=(hA.J exq).W K2 Kh;have O2:=(O2.J E9).W K2 Kh;have H2:=(H2.toB.J E9).W K2 Kh;refine Xy Z<|Vt<|Vw<|Uk Jq Jj B3 Z<|Uz Jj B1 Z E10 ?_;rintro w11 E13 B1 K3 Q3;have B2:=B2.Y (K3 _ Kh);have hA:=hA.W K3 Kh;have O2:=O2.W K3 Kh;have H2:=H2.W K3 Kh;refine Vt<|Ys<|Ym va Z<|Xe Z<|Xf (ps:=[(0,.string _)]) (cs:=[_]) Z Js Jn Ge Z Z Z Z ?_;rintro b5 w12 R5 E14 B4;have:=B4.lt
     refine Ux Z el34 Z Z B4 (hA.J E14) (Owned.str Km) (Kz _) Km Kh Kh (E13.K E14) Kh ?_;have V1:=(hA.J E14);rintro v3 w13 hA E15 M1;have B1:=(B1.J E14).moves M1 V1 Kh;have B2:=(B2.J E14).moves M1 V1 Kh;have O2:=(O2.J E14).moves M1 V1 Kh;have H2:=(H2.J E14).moves M1 V1 Kh;have:=M1.1.size;refine Ug v3 Z<|Vt<|Ys<|Xk Z<|Yd Z<|Vt ?_;rotate_left;exact Kt
    refine ⟨(k+1,u4,q2,v3,w7.heap.size,m2,w8.heap.size),⟨Z,Z,trivial⟩,Ko,?_,Kq⟩
    simp only
    rw [hsn]
    refine ⟨by exact E15,Kh,Kh,B1,B2,O2,H2,hA.toB,Kh,Kh,Kh,Kh,Y4,N2,fun q hq=>?_⟩
    rcases M1.2 with e | ⟨g,e,hg⟩
    ·rw [e] at hq;exact .inl (hAlt q hq)
    ·rw [e] at hq;cases hq;exact .inr Kh
   ·obtain rfl:k=l.length:=by omega
    rw [show sayV d l=sayV d (l.take l.length) by rw [List.take_length]]
    focus
     have:=E5.Z;refine Vw<|Xa Z<|Vt<|Vx<|Vz Z fun h5=>?_;refine Xp ?_;refine Yp ?_;refine Vw<|Uk Jq Jj B1 Z<|Ym va Z<|Uz Jj B2 Z E7 ?_;rintro w8 E8 B2 K2 Q2;have O1:=O1.W K2 Kh;have H1:=H1.W K2 Kh;have hA:=hA.W K2 Kh;refine Ug va Z<|Vt<|Yc ?_
    exact ⟨b2,v1,v2,rfl,B2,v1,v2,va,lo,m,hi,rfl,by exact E8,O1,H1,(hA.wide Kh (Kz _)).o,Kh,hlm,hmh,Kh,hdq⟩
  ·rw [show dsV d l=(⟨[],[]⟩,[]) from if_neg fun h=>h40 h.2]
   focus
    refine Vw<|Xx Z Z Z ?_;rintro b1 w1 R1 E1 B1;have:=B1.lt;refine Xi Z Xz ?_;rintro b2 w2 R2 E2 B2;refine Um Z<|Vt<|Vx<|Vw<|Uk Jq Jj (B1.J E2) Z<|Vv Z (Xl (a:=.agg _) Tryz.call58 Z) (k0 _ (Ku exq h1) (Ku exq h2)) ?_;rintro _ w3 ⟨rfl,E3⟩;refine Ub Z<|Uh Z (Xn (v:=.bool _) Z) (fun h3=>?_) (fun h3=>?_);exact Ks;refine Ym vl Z<|Yu Js Z hl<|Qg Z<|Xg Z<|Vt<|Vy Z (fun h4=>?_) (fun h4=>?_);refine Vx<|Ys<|Wo Z (Yz (ps:=[]) (cs:=[_,_]) Xz Z Z)<|Uz Jj (B2.J E3) Z ((E1.K E2).K E3) ?_;rintro w4 E4 B2 K1 Q1;have E5:=(E2.K E3).A exq E4 K1 Q1 Kh;have:=E5.Z;refine Um Z<|Vt<|Yc ?_
    rotate_left;exact Kt
   exact ⟨b2,_,_,rfl,B2,_,_,_,w.heap.size,w.heap.size,w.heap.size,rfl,by exact E4,OwnedB.nil,OwnedB.nil,Owned.nil,Kz _,Kz _,Kz _,Kh,fun q hq=>by cases hq⟩
 ·rw [show dsV d l=(⟨[],[]⟩,[]) from if_neg fun h=>hd h.1]
  have k0 : ∀ w,ESl Ints w u1 d.now→ESl (ESl Ints) w u2 d.past→Dz 58 [.agg #[u1,u2]] w (Ret w (.bool false)):=fun w h1 h2=>by
   have:=isDesk_ok w u1 u2 d h1 h2;rwa [decide_eq_false hd] at this
  focus
   refine Vw<|Xx Z Z Z ?_;rintro b1 w1 R1 E1 B1;have:=B1.lt;refine Xi Z Xz ?_;rintro b2 w2 R2 E2 B2;refine Um Z<|Vt<|Vx<|Vw<|Uk Jq Jj (B1.J E2) Z<|Vv Z (Xl (a:=.agg _) Tryz.call58 Z) (k0 _ (Ku exq h1) (Ku exq h2)) ?_;rintro _ w3 ⟨rfl,E3⟩;refine Ub Z<|Uh Z (Xn (v:=.bool _) Z) (fun h3=>?_) (fun h3=>?_);refine Vu Z<|Vu Z<|Vu Z<|Ue Z<|Vt<|Xj Z ?_;refine Vw<|Wo Z (Yz (ps:=[]) (cs:=[_,_]) Xz Z Z)<|Uz Jj (B2.J E3) Z ((E1.K E2).K E3) ?_;rintro w4 E4 B2 K1 Q1;have E5:=(E2.K E3).A exq E4 K1 Q1 Kh;have:=E5.Z;refine Um Z<|Vt<|Yc ?_;rotate_left;exact Ks
  exact ⟨b2,_,_,rfl,B2,_,_,_,w.heap.size,w.heap.size,w.heap.size,rfl,by exact E4,OwnedB.nil,OwnedB.nil,Owned.nil,Kz _,Kz _,Kz _,Kh,fun q hq=>by cases hq⟩
open Classical in
theorem spec_DeskSay_ok (w:World) (u1 u2:Value) (d:Dsk) (h1:ESl Ints w u1 d.now) (h2:ESl (ESl Ints) w u2 d.past) (vl:Value) (l:List (List UInt8)) (hl:ESl EStr w vl l) (hx : ∀ s ∈ l,s.length≤1048576) :
  Dz 22 [.agg #[u1,u2],vl] w (RetDkRY w 9 (dsV d l).1.now (dsV d l).1.past (dsV d l).2):=by
 have Y1:isCell u1=true:=Qy h1
 have Y2:isCell u2=true:=Qy h2
 have hle:=hl.le
 have nil1 : ∀ (w w':World),w.heap.size≤w'.heap.size→OwnedB w.heap.size w'.heap.size (XRd (ESl Ints)) w' (.slice none 0 0) []:=fun w w' h=>(OwnedB.nil (e:=0) (X:=XSl 0 XInt)).rd
 have nil2 : ∀ (w w':World),w.heap.size≤w'.heap.size→OwnedB w.heap.size w'.heap.size (XRd (ESl (ESl Ints))) w' (.slice none 0 0) []:=fun w w' h=>(OwnedB.nil (e:=0) (X:=XSl 0 (XSl 0 XInt))).rd
 refine Sy Tryz.func22 Z Tryz.results22 Tryz.ntmps22 Z Jq Jj ?_
 by_cases hd:DkOk d
 ·have k0 : ∀ w,ESl Ints w u1 d.now→ESl (ESl Ints) w u2 d.past→Dz 16 [.agg #[u1,u2]] w (Ret w (.bool true)):=fun w h1 h2=>by
   have:=Rk w u1 u2 d h1 h2;rwa [decide_eq_true hd] at this
  by_cases h40:l.length≤40
  ·rw [show dsV d l=sayV d l from if_pos ⟨hd,h40⟩]
   have bnd : ∀ q,Pic q→q.length≤100∧∀ r ∈ q,r.length≤100:=fun q hq=>⟨by have:=hq.2.1;omega,fun r hr=>by rw [(hq.2.2 r hr).1];have:=hq.2.1;omega⟩
   have hppl:=hd.2.1
   have k1 : ∀ w,ESl Ints w u1 d.now→ESl (ESl Ints) w u2 d.past→Dz 60 [.agg #[u1,u2]] w (RetDk w 23 88 3 d.now d.past):=fun w h1 h2=>Lt w u1 u2 d.now d.past h1 h2 (bnd _ hd.1.1) Kh (fun q hq=>bnd q (hd.2.2 q hq).1)
   focus
    refine Vw<|Xx Z Z Z ?_;rintro b1 w1 R1 E1 B1;have:=B1.lt;refine Xi Z Xz ?_;rintro b2 w2 R2 E2 B2;have:=B2.lt;refine Um Z<|Vt<|Vw<|Uq XStr Z el34 Jn ?_;rintro b3 w3 R3 b3lt E3 O1;refine Um Z<|Vt<|Vx<|Vw<|Uk Jq Jj (B1.J exq) Z<|Vv Z (Xl (a:=.agg _) Gp Z) (k0 _ (Ku exq h1) (Ku exq h2)) ?_;rintro _ w4 ⟨rfl,E4⟩;have:=E4.Z;refine Ub Z<|Uh Z (Xn (v:=.bool _) Z) (fun h3=>?_) (fun h3=>?_);exact Ks;refine Ym vl Z<|Yu Js Z hl<|Qg Z<|Xg Z<|Vt<|Vz Z fun h4=>?_
    refine Ya<|Vw<|Uk Jq Jj (B1.J exq) Z<|Vv Z (Xl (a:=.agg _) Zk Z) (k1 _ (Ku exq h1) (Ku exq h2)) ?_;rintro _ w5 ⟨u3,q1,m1,rfl,E5,O2,H1,X1,U1⟩;have Y3:=Kx O2;have N1:=Kx (Je H1);have:=E5.Z;refine Xi Z Xz ?_;rintro b4 w6 R4 E6 B3;have:=B3.lt;refine Up Z Jj Z Z Kl Kl B3 Kh (((((E1.K E2).K E3).K E4).K E5).K E6) ?_;rintro w7 E7 B3 K1 Q1;have E12:=E6.A exq E7 K1 Q1 Kh;have:=E12.Z;have B1:=(B1.J exq).Y (K1 _ Kh);have B2:=(B2.J exq).Y (K1 _ Kh);have O1:=(O1.toB.J exq).W K1 Kh;have O2:=(O2.J E6).W K1 Kh
    have H1:=(H1.toB.J E6).W K1 Kh;refine Vt<|Vx<|Vw<|Xc Z<|Vt<|Ye ?_
   refine Xw [6,8,9,10,24,25,26,27,28,29,30,31,32,33,34,35,36,37,38,39,40,41,42,43] (fun ((k,v1,v2,va,lo,hi,qa):Nat × Value × Value × Value × Nat × Nat × Nat)=>[(8,.int .i64 (k:Nat)),(6,va)]) (fun (k,v1,v2,va,lo,hi,qa) w'=>Ext w w'∧w7.heap.size≤w'.heap.size∧k≤l.length∧Blk w' b4 [v1,v2]∧Blk w' b2 [.slice none 0 0,.slice none 0 0]∧OwnedB lo hi (XRd (ESl Ints)) w' v1 (sayV d (l.take k)).1.now∧OwnedB lo hi (XRd (ESl (ESl Ints))) w' v2 (sayV d (l.take k)).1.past∧OwnedB qa (qa+1) XS w' va (sayV d (l.take k)).2∧w2.heap.size≤lo∧hi≤w'.heap.size∧w2.heap.size≤qa∧qa < w'.heap.size∧qa≠b4∧isCell v1=true∧isCell v2=true) (fun x=>l.length - x.1) (0,u3,q1,.slice (some ⟨b3,0,none⟩) 0 0,w4.heap.size,w5.heap.size,b3) Kn ?_ ?_
   ·exact ⟨by exact E7,Kz _,Ja _,B3,B2,O2.rd.wide Kh Kh,H1.rd.wide Kh Kh,O1.narrowS (fun q hq=>by simp [Value.ownBlock] at hq;omega),Kh,Kh,Kh,Kh,Kh,Y3,N1⟩
   clear B1 B2 B3 O1 O2 H1 k0 k1
   rintro ⟨k,v1,v2,va,lo,hi,qa⟩ ρj w8 ⟨E8,hsz,hk,B3,B2,O1,H1,hA,hlo,hhi,hqa,hqa2,hqa3,ic1,ic2⟩
   have hal:=sayV_len d (l.take k)
   have hal2:(l.take k).length≤40:=by rw [List.length_take];omega
   by_cases hlt:k < l.length
   ·have hok:=sayV_ok hd (l.take k)
    have hsn:sayV d (l.take (k+1))=((lnV (sayV d (l.take k)).1 l[k]).1,(sayV d (l.take k)).2++[(lnV (sayV d (l.take k)).1 l[k]).2]):=by rw [Ud _ _ hlt,Lg]
    have hxk:=hx _ (List.getElem_mem hlt)
    have hln:=lnV_len hok l[k]
    have kD : ∀ (w:World),ESl Ints w v1 (sayV d (l.take k)).1.now→ESl (ESl Ints) w v2 (sayV d (l.take k)).1.past→Dz 14 [.agg #[v1,v2],str l[k]] w (RetDkRT w (lnV (sayV d (l.take k)).1 l[k]).1.now (lnV (sayV d (l.take k)).1 l[k]).1.past (lnV (sayV d (l.take k)).1 l[k]).2):=fun w h1 h2=>by
     have:=spec_DeskLine_ok w v1 v2 _ h1 h2 l[k] hxk
     rwa [show dlV (sayV d (l.take k)).1 l[k]=lnV (sayV d (l.take k)).1 l[k] from if_pos hok] at this
    have hAlt : ∀ q,va.ownBlock=some q→qa≤q∧q < qa+1:=fun q hq=>hA.lt_own hq
    have stop8:True:=trivial
    focus
     refine Vx<|Vw<|Yd Z<|Ym vl Z<|Yu Js Z hl<|Xa Z<|Vt<|Vy Z (fun h5=>?_) (fun h5=>?_);refine Ya<|Vx<|Ye<|Vx ?_;rotate_left;exact Kt
    clear stop8
    have heldS:w8=w8:=rfl
    refine W_mid [31,32,33,34,35,36,30,37,38,9,10] (fun ((b9,x1,x2,lo',hi'):Nat × Value × Value × Nat × Nat)=>[(9,.pointer (some ⟨b9,0,none⟩)),(10,str (lnV (sayV d (l.take k)).1 l[k]).2)]) (fun (b9,x1,x2,lo',hi') w'=>Ext w8 w'∧Blk w' b9 [x1,x2]∧OwnedB lo' hi' (XRd (ESl Ints)) w' x1 (lnV (sayV d (l.take k)).1 l[k]).1.now∧OwnedB lo' hi' (XRd (ESl (ESl Ints))) w' x2 (lnV (sayV d (l.take k)).1 l[k]).1.past∧isCell x1=true∧isCell x2=true∧w8.heap.size≤lo'∧hi'≤w'.heap.size) ?_ ?_
    ·focus
      refine Rl (fun w'=>Ext w8 w') mixed Z Ki ?_;intro w9 E13 K2 Q2;have:=E13.Z;refine Yg (v:=.agg _) 0 Z Ki Ki Z (fun w' hw'=>opv_load2 Jq Jj Z (B3.J hw')) E13 ?_;refine WtmV 1 vl Z Z E13<|Nt 2 Z Z E13<|Wh_get 3 4 Z Ki Ki Z Z Ki Ki (fun _=>Z) Js Jn Jp Z hl (fun w' hw'=>Ext.trans E8 hw') Z Km E13 ?_;rintro _ _ ⟨rfl,-⟩;refine Wha [5,9]<|Yi Z ?_ ?_;refine Vv Z (Xd (a:=.agg _) (b:=.string _) Tryz.call14 Z Z) (kD _ ((Ku E13 (Kw O1))) ((Ku E13 (Kw H1)))) ?_;rintro _ w10 ⟨u4,q2,rfl,E14,hA1,hC1,Y4,N2⟩;have:=E14.Z
      refine Wnx exq<|Te 6 Z Z exq<|Tf 7 Z Z exq<|WtxT 8 Z Z exq<|Wha [9]<|Wh1 Z<|Xi Z Xz ?_;rintro b5 w11 R5 E15 B4;refine Wnx exq<|Wha [10]<|Wh1 Z<|Up Z Jj Z Z Kl Kl B4 Kh (((E8.K E13).K E14).K E15) ?_;rintro w12 E16 B4 K3 Q3;have E17:=((E13.K E14).K E15).A exq E16 K3 Q3 Kh;have E19:=E15.A exq E16 K3 Q3 Kh;have:=E19.Z;have hA1:=(hA1.J E15).W K3 Kh;have hC1:=(hC1.J E15).W K3 Kh;refine Wnx E17<|Uw 11 Z Z E17<|Yr Ki ?_;rotate_left;refine Wh1 Z<|Xi Z Xz ?_;rintro b5 w10 R5 E14 B4;have:=B4.lt;have:=E14.Z
      refine Wnx exq<|Wha [5]<|Wh1 Z<|Vv Z (Xd (a:=.agg _) (b:=.string _) Tryz.call14 Z Z) (kD _ ((Ku exq (Kw O1))) ((Ku exq (Kw H1)))) ?_;rintro _ w11 ⟨u4,q2,rfl,E15,hA1,hC1,Y4,N2⟩;refine Wnx exq<|Te 6 Z Z exq<|Tf 7 Z Z exq<|WtxT 8 Z Z exq<|Wha [10]<|Wh1 Z<|Up Z Jj Z Z Kl Kl (B4.J E15) Kh (((E8.K E13).K E14).K E15) ?_;rintro w12 E16 B4 K3 Q3;have E17:=((E13.K E14).K E15).A exq E16 K3 Q3 Kh;have hA1:=hA1.W K3 Kh;have hC1:=hC1.W K3 Kh;refine Wnx E17<|Uw 11 Z Z E17<|Yr Ki ?_;rotate_left
     all_goals exact ⟨(b5,u4,q2,_,_),⟨rfl,rfl,trivial⟩,Ko,by repeat (first | assumption | refine Ext.trans Kk ?_),B4,hA1,hC1,Y4,N2,Kh,Kh⟩
    rintro ⟨b9,x1,x2,lo',hi'⟩ ρk w9 ⟨E9,B9,J1,J2,icx1,icx2,hlo',hhi'⟩
    have:=E9.Z
    clear heldS kD
    focus
     refine Vw<|Uk Jq Jj B9 Z<|Uz Jj (B3.J E9) Z (E8.K E9) ?_;rintro w10 E13 B3 K2 Q2;have B2:=(B2.J E9).Y (K2 _ Kh);have hA:=(hA.J E9).W K2 Kh;have J1:=J1.W K2 Kh;have J2:=J2.W K2 Kh;refine Vt<|Ys<|Ym va Z<|Xe Z<|Xf (ps:=[(0,.string _)]) (cs:=[_]) Z Js Jn Ge Z Z Z Z ?_;rintro b5 w11 R5 E14 B4;have:=B4.lt;refine Ux Z el34 Z Z B4 (hA.J E14) (Owned.str Km) (Kz _) Km Kh Kh (E13.K E14) Kh ?_;have V1:=(hA.J E14);rintro v3 w12 hA E15 M1;have B3:=(B3.J E14).moves M1 V1 Kh;have B2:=(B2.J E14).moves M1 V1 Kh
     have J1:=(J1.J E14).moves M1 V1 Kh;have J2:=(J2.J E14).moves M1 V1 Kh;have:=M1.1.size;refine Ug v3 Z<|Vt<|Ys<|Yd Z<|Xk Z<|Xc Z<|Vt ?_
    rcases M1.2 with e | ⟨g,e,hg⟩
    ·refine ⟨(k+1,x1,x2,v3,lo',hi',qa),⟨Z,Z,trivial⟩,Ko,?_,Kq⟩
     simp only
     rw [hsn]
     exact ⟨by exact E15,Kh,Kh,B3,B2,J1,J2,hA.toB.narrowS (fun q hq=>hAlt q (e.symm.trans hq)),Kh,Kh,Kh,Kh,Kh,icx1,icx2⟩
    ·have hg2:=(hA.lt_own e).2
     refine ⟨(k+1,x1,x2,v3,lo',hi',g),⟨Z,Z,trivial⟩,Ko,?_,Kq⟩
     simp only
     rw [hsn]
     exact ⟨by exact E15,Kh,Kh,B3,B2,J1,J2,hA.toB.narrowS (fun q hq=>by rw [e] at hq;cases hq;omega),Kh,Kh,Kh,Kh,Kh,icx1,icx2⟩
   ·obtain rfl:k=l.length:=by omega
    rw [show sayV d l=sayV d (l.take l.length) by rw [List.take_length]]
    focus
     refine Vx<|Vw<|Yd Z<|Ym vl Z<|Yu Js Z hl<|Xa Z<|Vt<|Vz Z fun h5=>?_;refine Xp ?_;refine Yp ?_;refine Vw<|Uk Jq Jj B3 Z<|Ym va Z<|Uz Jj B2 Z E8 ?_;rintro w9 E13 B2 K2 Q2;have O1:=O1.W K2 Kh;have H1:=H1.W K2 Kh;have hA:=hA.W K2 Kh;refine Ug va Z<|Vt<|Yc ?_
    exact ⟨b2,v1,v2,rfl,B2,v1,v2,va,rfl,by exact E13,O1.wide Kh Kh,H1.wide Kh Kh,(hA.wide Kh (Kz _)).o,ic1,ic2⟩
  ·rw [show dsV d l=(⟨[],[]⟩,[]) from if_neg fun h=>h40 h.2]
   focus
    refine Vw<|Xx Z Z Z ?_;rintro b1 w1 R1 E1 B1;have:=B1.lt;refine Xi Z Xz ?_;rintro b2 w2 R2 E2 B2;have:=B2.lt;have:=E2.Z;refine Um Z<|Vt<|Vw<|Uq XStr Z el34 Jn ?_;rintro b3 w3 R3 b3lt E3 O1;refine Um Z<|Vt<|Vx<|Vw<|Uk Jq Jj (B1.J exq) Z<|Vv Z (Xl (a:=.agg _) Gp Z) (k0 _ (Ku exq h1) (Ku exq h2)) ?_;rintro _ w4 ⟨rfl,E4⟩;refine Ub Z<|Uh Z (Xn (v:=.bool _) Z) (fun h3=>?_) (fun h3=>?_);exact Ks;refine Ym vl Z<|Yu Js Z hl<|Qg Z<|Xg Z<|Vt<|Vy Z (fun h4=>?_) (fun h4=>?_)
    refine Vw<|Wo Z (Yz (ps:=[]) (cs:=[_,_]) Xz Z Z)<|Re Z<|Up Z Jj Z Z Kl Kl (B2.J (E3.K E4)) Kh (((E1.K E2).K E3).K E4) ?_;rintro w5 E5 B2 K1 Q1;have E6:=((E2.K E3).K E4).A exq E5 K1 Q1 Kh;have:=E6.Z;have O1:=(O1.toB.J E4).W K1 Kh;refine Um Z<|Vt<|Yc ?_;rotate_left;exact Kt
   exact ⟨b2,_,_,rfl,B2,_,_,_,rfl,by exact E5,nil1 _ _ Kh,nil2 _ _ Kh,(O1.wide Kh (Kz _)).o,rfl,rfl⟩
 ·rw [show dsV d l=(⟨[],[]⟩,[]) from if_neg fun h=>hd h.1]
  have k0 : ∀ w,ESl Ints w u1 d.now→ESl (ESl Ints) w u2 d.past→Dz 16 [.agg #[u1,u2]] w (Ret w (.bool false)):=fun w h1 h2=>by
   have:=Rk w u1 u2 d h1 h2;rwa [decide_eq_false hd] at this
  focus
   refine Vw<|Xx Z Z Z ?_;rintro b1 w1 R1 E1 B1;have:=B1.lt;refine Xi Z Xz ?_;rintro b2 w2 R2 E2 B2;have:=B2.lt;have:=E2.Z;refine Um Z<|Vt<|Vw<|Uq XStr Z el34 Jn ?_;rintro b3 w3 R3 b3lt E3 O1;refine Um Z<|Vt<|Vx<|Vw<|Uk Jq Jj (B1.J exq) Z<|Vv Z (Xl (a:=.agg _) Gp Z) (k0 _ (Ku exq h1) (Ku exq h2)) ?_;rintro _ w4 ⟨rfl,E4⟩;refine Ub Z<|Uh Z (Xn (v:=.bool _) Z) (fun h3=>?_) (fun h3=>?_);refine Vu Z<|Vu Z<|Vu Z<|Ue Z<|Vt<|Xj Z ?_
   refine Vw<|Wo Z (Yz (ps:=[]) (cs:=[_,_]) Xz Z Z)<|Re Z<|Up Z Jj Z Z Kl Kl (B2.J (E3.K E4)) Kh (((E1.K E2).K E3).K E4) ?_;rintro w5 E5 B2 K1 Q1;have E6:=((E2.K E3).K E4).A exq E5 K1 Q1 Kh;have:=E6.Z;have O1:=(O1.toB.J E4).W K1 Kh;refine Um Z<|Vt<|Yc ?_;rotate_left;exact Ks
  exact ⟨b2,_,_,rfl,B2,_,_,_,rfl,by exact E5,nil1 _ _ Kh,nil2 _ _ Kh,(O1.wide Kh (Kz _)).o,rfl,rfl⟩
end Go.Proofs.YtbgpppaljpngmaaGreatDoor
