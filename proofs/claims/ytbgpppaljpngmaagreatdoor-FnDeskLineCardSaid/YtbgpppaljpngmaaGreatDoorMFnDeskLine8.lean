/- Lemmas for FnDeskLine. -/
import Derived.Test.YtbgpppaljpngmaaGreatDoorMFnDeskLine7
namespace Go.Proofs.YtbgpppaljpngmaaGreatDoor
open Go.Hs
set_option maxRecDepth 10000
set_option maxHeartbeats 4000000
set_option linter.unusedVariables false
set_option linter.unusedSimpArgs false
open Classical in
theorem l11Made_ok (w:World) (v:Value) (p:List (List Int)) (h:ESl Ints w v p) (hp:Pic p) (k n:Int) (t:List UInt8) (ht:t.length≤1048576) :
  Does Tryz.prog 93 [v,.agg #[.int .i64 k,str t,.int .i64 n]] w (RetOB w XR (og (madeV p ⟨k,t,n⟩)) (madeV p ⟨k,t,n⟩).isSome):=by
 have hle:=h.le
 have hp1:=hp.1
 have hp5:=hp.2.1
 have hN:Nod p (0:Nat):=⟨hp,Kc,Ka⟩
 obtain ⟨Q,hQ⟩ : ∃ Q,Q=(rdP t).getD []:=⟨_,rfl⟩
 obtain ⟨B,hB⟩ : ∃ B,B=(rdP t).isSome:=⟨_,rfl⟩
 obtain ⟨M,hM⟩ : ∃ M,M=madeV p ⟨k,t,n⟩:=⟨_,rfl⟩
 rw [← hM]
 have k0 : ∀ w,Does Tryz.prog 122 [str t] w (RetOB w XR Q B):=fun w=>hQ ▸ hB ▸ Sq w t ht
 refine Ue Tryz.func93 Z Tryz.results93 Tryz.ntmps93 Z ?_
 by_cases e0:k=0
 ·subst e0
  by_cases e:t=[]∧n=0
  ·obtain ⟨rfl,rfl⟩:=e
   have hm:M=pairV p 0 p 0:=hM.trans (by simp [madeV])
   rw [hm]
   have k1 : ∀ (w:World) (v u:Value),ESl Ints w v p→ESl Ints w u p→Does Tryz.prog 141 [v,.int .i64 0,u,.int .i64 0] w (RetOB w XR (og (pairV p 0 p 0)) (pairV p 0 p 0).isSome):=fun w v u h1 h2=>PairOf_ok w v u p p h1 h2 0 0 hN hN
   focus
    refine Zu<|Yx Z Z Z ?_;rintro b1 w1 hb1 E1 hB1;have hlb1:=hB1.lt;refine Xm Z<|Vd Z<|Zs<|Zu<|Vo Kq Kr Z<|Qd Ks hB1 Z<|Zv Z (Yl (a:=.string _) Jq Z) (k0 _) ?_;rintro _ w2 ⟨u1,rfl,E2,hO1⟩;have hs2:=E2.size;refine Xx Z<|Qh u1 Z<|Uf Z<|Xg u1 Z<|Vd Z<|Zs<|Zw<|Ve<|Zu<|Vo Kq Kl Z<|Xa Kn (hB1.ext E2) Z<|Vr Z<|Ym Z (fun h1=>?_) (fun h1=>?_);refine Vo Kq Kr Z<|Qd Ks (hB1.ext E2) Z<|Wo Z (Vl Z Z)<|Xb Z<|Ym Z (fun h2=>?_) (fun h2=>?_)
    refine Vo Kq Kl Z<|Xa Kn (hB1.ext E2) Z<|Vr Z<|Xb Z<|Vd Z<|Zs<|Zx Z (fun h3=>?_) (fun h3=>?_);refine Zu<|Vm v Z<|Vm v Z<|Zv Z (Rx (a:=v) (b:=.int _ _) (c:=v) (d:=.int _ _) Tryz.call141 Z Z Z Z) (k1 _ _ _ ((Mono.mono exq h)) ((Mono.mono exq h))) ?_;rintro _ w3 ⟨u2,rfl,E3,hO2⟩;refine Qh u2 Z<|Uf Z<|Xg u2 Z<|Vd Z<|Zs<|Vb ?_;refine Vk (v:=.tuple #[u2,.bool _]) Z ?_;exact ⟨_,rfl,exq,hO2.toB.o.mono Ka⟩;contradiction;contradiction;contradiction
  ·have hm:M=none:=hM.trans (by simp only [madeV];rw [if_neg (fun h=>e ⟨h.2.1,h.2.2⟩),if_neg (fun h=>absurd h.1 Kc),if_neg (fun h=>absurd h.1 Kc),if_neg (fun h=>absurd h.1 Kc)])
   rw [hm,show og none=[] from rfl,show (none:Option (List (List Int))).isSome=false from rfl]
   by_cases et:t=[]
   ·have en : ¬n=0:=fun h=>e ⟨et,h⟩
    subst et
    focus
     refine Zu<|Yx Z Z Z ?_;rintro b1 w1 hb1 E1 hB1;have hlb1:=hB1.lt;refine Xm Z<|Vd Z<|Zs<|Zu<|Vo Kq Kr Z<|Qd Ks hB1 Z<|Zv Z (Yl (a:=.string _) Jq Z) (k0 _) ?_;rintro _ w2 ⟨u1,rfl,E2,hO1⟩;have hs2:=E2.size;refine Xx Z<|Qh u1 Z<|Uf Z<|Xg u1 Z<|Vd Z<|Zs<|Zw<|Ve<|Zu<|Vo Kq Kl Z<|Xa Kn (hB1.ext E2) Z<|Vr Z<|Ym Z (fun h1=>?_) (fun h1=>?_);refine Vo Kq Kr Z<|Qd Ks (hB1.ext E2) Z<|Wo Z (Vl Z Z)<|Xb Z<|Ym Z (fun h2=>?_) (fun h2=>?_)
     refine Vo Kq Kl Z<|Xa Kn (hB1.ext E2) Z<|Vr Z<|Xb Z<|Vd Z<|Zs<|Vw Z fun h3=>?_;refine Zu<|Vo Kq Kl Z<|Xa Kn (hB1.ext E2) Z<|Vr Z<|Xl Z fun h4=>?_;refine Zt Z<|Ye Z<|Yt Z<|Zt Z<|Zt Z<|Zt Z<|Ye Z<|Vd Z<|Zs<|Va Z ?_;refine Zu<|Vo Kq Kl Z<|Xa Kn (hB1.ext E2) Z<|Vr Z<|Xl Z fun h5=>?_;refine Zt Z<|Ye Z<|Yt Z<|Zt Z<|Zt Z<|Zt Z<|Ye Z<|Vd Z<|Zs<|Va Z ?_;refine Zw<|Ul Xy Kb Z ?_
     refine Qc Kq Kl Z<|Xt (v:=.int _ _) Z (fun w' hw'=>Yg Kn Z (((hB1.ext E2).ext hw').cell Z)) ?_;refine Ry Z<|Qm Z (fun h6=>?_) (fun h6=>?_);contradiction;refine Vg Z<|Vg Z<|Vg Z<|Rq Z<|Sh Z<|Vg Z<|Vg Z<|Vg Z<|Vg Z<|Vg Z<|Vg Z<|Rq Z<|Sh Z<|Vg Z<|Vg Z<|Vg Z<|Vg Z<|Vg Z<|Vg Z<|Vg Z<|Vg Z<|Rq Z<|Na Z<|Ud (fun w3 E3=>?_);have hs3:=E3.size;refine Va Z ?_;refine Zz<|Zu<|Xq (XSl 3 XInt) Z Rp Kz ?_;rintro b2 w4 hb2 b2lt E4 hO2;refine Xm Z<|Vd Z<|Zs<|Vb ?_;refine Vk (v:=.tuple #[.slice _ _ _,.bool _]) Z ?_
     exact ⟨_,rfl,exq,hO2.toB.o.mono Ka⟩;contradiction;contradiction
   ·focus
     refine Zu<|Yx Z Z Z ?_;rintro b1 w1 hb1 E1 hB1;have hlb1:=hB1.lt;refine Xm Z<|Vd Z<|Zs<|Zu<|Vo Kq Kr Z<|Qd Ks hB1 Z<|Zv Z (Yl (a:=.string _) Jq Z) (k0 _) ?_;rintro _ w2 ⟨u1,rfl,E2,hO1⟩;have hs2:=E2.size;refine Xx Z<|Qh u1 Z<|Uf Z<|Xg u1 Z<|Vd Z<|Zs<|Zw<|Ve<|Zu<|Vo Kq Kl Z<|Xa Kn (hB1.ext E2) Z<|Vr Z<|Ym Z (fun h1=>?_) (fun h1=>?_);refine Vo Kq Kr Z<|Qd Ks (hB1.ext E2) Z<|Wo Z (Vl Z Z)<|Xb Z<|Xl Z fun h2=>?_;refine Zt Z<|Zt Z<|Zt Z<|Ye Z<|Vd Z<|Zs<|Va Z ?_
     refine Zu<|Vo Kq Kl Z<|Xa Kn (hB1.ext E2) Z<|Vr Z<|Xl Z fun h3=>?_;refine Zt Z<|Ye Z<|Yt Z<|Zt Z<|Zt Z<|Zt Z<|Ye Z<|Vd Z<|Zs<|Va Z ?_;refine Zu<|Vo Kq Kl Z<|Xa Kn (hB1.ext E2) Z<|Vr Z<|Xl Z fun h4=>?_;refine Zt Z<|Ye Z<|Yt Z<|Zt Z<|Zt Z<|Zt Z<|Ye Z<|Vd Z<|Zs<|Va Z ?_;refine Zw<|Ul Xy Kb Z ?_;refine Qc Kq Kl Z<|Xt (v:=.int _ _) Z (fun w' hw'=>Yg Kn Z (((hB1.ext E2).ext hw').cell Z)) ?_;refine Ry Z<|Qm Z (fun h5=>?_) (fun h5=>?_);contradiction
     refine Vg Z<|Vg Z<|Vg Z<|Rq Z<|Sh Z<|Vg Z<|Vg Z<|Vg Z<|Vg Z<|Vg Z<|Vg Z<|Rq Z<|Sh Z<|Vg Z<|Vg Z<|Vg Z<|Vg Z<|Vg Z<|Vg Z<|Vg Z<|Vg Z<|Rq Z<|Na Z<|Ud (fun w3 E3=>?_);have hs3:=E3.size;refine Va Z ?_;refine Zz<|Zu<|Xq (XSl 3 XInt) Z Rp Kz ?_;rintro b2 w4 hb2 b2lt E4 hO2;refine Xm Z<|Vd Z<|Zs<|Vb ?_;refine Vk (v:=.tuple #[.slice _ _ _,.bool _]) Z ?_;exact ⟨_,rfl,exq,hO2.toB.o.mono Ka⟩;contradiction
 by_cases e1:k=1
 ·subst e1
  by_cases en:n=0
  ·subst en
   have hm:M=(rdP t).bind fun q=>(pairV q 0 q 0).bind fun s=>togV p 0 s 0:=hM.trans (by simp only [madeV];rw [if_neg (fun h=>absurd h.1 Kc),if_pos Ki])
   cases hr:rdP t with
   | none =>
     rw [hr] at hm hB hQ
     rw [hm, show og (none.bind fun q => (pairV q 0 q 0).bind fun s => togV p 0 s 0) = [] from rfl, show (none.bind fun q => (pairV q 0 q 0).bind fun s => togV p 0 s 0).isSome = false from rfl]
     rw [hB, show (none : Option (List (List Int))).isSome = false from rfl] at k0
     focus
       refine Zu<|Yx Z Z Z ?_; rintro b1 w1 hb1 E1 hB1; have hlb1 := hB1.lt; refine Xm Z<|Vd Z<|Zs<|Zu<|Vo Kq Kr Z<|Qd Ks hB1 Z<|Zv Z (Yl (a := .string _) Jq Z) (k0 _) ?_; rintro _ w2 ⟨u1, rfl, E2, hO1⟩; have hs2 := E2.size; refine Xx Z<|Qh u1 Z<|Uf Z<|Xg u1 Z<|Vd Z<|Zs<|Zw<|Ve<|Zu<|Vo Kq Kl Z<|Xa Kn (hB1.ext E2) Z<|Vr Z<|Xl Z fun h1 => ?_; refine Zt Z<|Zt Z<|Zt Z<|Ye Z<|Yt Z<|Zt Z<|Zt Z<|Zt Z<|Ye Z<|Vd Z<|Zs<|Va Z ?_; refine Zu<|Vo Kq Kl Z<|Xa Kn (hB1.ext E2) Z<|Vr Z<|Ym Z (fun h2 => ?_) (fun h2 => ?_)
       refine Yt Z<|Xb Z<|Yt Z<|Zt Z<|Zt Z<|Zt Z<|Ye Z<|Vd Z<|Zs<|Va Z ?_; refine Zu<|Vo Kq Kl Z<|Xa Kn (hB1.ext E2) Z<|Vr Z<|Xl Z fun h3 => ?_; refine Zt Z<|Ye Z<|Yt Z<|Zt Z<|Zt Z<|Zt Z<|Ye Z<|Vd Z<|Zs<|Va Z ?_; refine Zw<|Ul Xy Kb Z ?_; refine Qc Kq Kl Z<|Xt (v := .int _ _) Z (fun w' hw' => Yg Kn Z (((hB1.ext E2).ext hw').cell Z)) ?_; refine Ry Z<|Qm Z (fun h4 => ?_) (fun h4 => ?_); contradiction
       refine Vg Z<|Vg Z<|Vg Z<|Rq Z<|Sh Z<|Vg Z<|Vg Z<|Vg Z<|Vg Z<|Vg Z<|Vg Z<|Rq Z<|Sh Z<|Vg Z<|Vg Z<|Vg Z<|Vg Z<|Vg Z<|Vg Z<|Vg Z<|Vg Z<|Rq Z<|Na Z<|Ud (fun w3 E3 => ?_); have hs3 := E3.size; refine Va Z ?_; refine Zz<|Zu<|Xq (XSl 3 XInt) Z Rp Kz ?_; rintro b2 w4 hb2 b2lt E4 hO2; refine Xm Z<|Vd Z<|Zs<|Vb ?_; refine Vk (v := .tuple #[.slice _ _ _, .bool _]) Z ?_; exact ⟨_, rfl, exq, hO2.toB.o.mono Ka⟩; contradiction
   | some q =>
     rw [hr] at hm hB hQ
     rw [hB, hQ, show (some q).isSome = true from rfl, show (some q).getD [] = q from rfl] at k0
     have hq := (Sr hr).1
     have hNq : Nod q (0 : Nat) := ⟨hq, Kc, by have := hq.1; omega⟩
     have k1 : ∀ (w : World) (v u : Value), ESl Ints w v q → ESl Ints w u q → Does Tryz.prog 141 [v, .int .i64 0, u, .int .i64 0] w (RetOB w XR (og (pairV q 0 q 0)) (pairV q 0 q 0).isSome) := fun w v u h1 h2 => PairOf_ok w v u q q h1 h2 0 0 hNq hNq
     rw [hm, show ((some q).bind fun q => (pairV q 0 q 0).bind fun s => togV p 0 s 0) = (pairV q 0 q 0).bind fun s => togV p 0 s 0 from rfl]
     cases hs : pairV q 0 q 0 with
     | none =>
       rw [hs] at k1
       rw [show (none.bind fun s => togV p 0 s 0) = none from rfl]
       rw [show og none = [] from rfl, show (none : Option (List (List Int))).isSome = false from rfl] at k1 ⊢
       focus
         refine Zu<|Yx Z Z Z ?_; rintro b1 w1 hb1 E1 hB1; have hlb1 := hB1.lt; refine Xm Z<|Vd Z<|Zs<|Zu<|Vo Kq Kr Z<|Qd Ks hB1 Z<|Zv Z (Yl (a := .string _) Jq Z) (k0 _) ?_; rintro _ w2 ⟨u1, rfl, E2, hO1⟩; have hs2 := E2.size; refine Xx Z<|Qh u1 Z<|Uf Z<|Xg u1 Z<|Vd Z<|Zs<|Zw<|Ve<|Zu<|Vo Kq Kl Z<|Xa Kn (hB1.ext E2) Z<|Vr Z<|Xl Z fun h1 => ?_; refine Zt Z<|Zt Z<|Zt Z<|Ye Z<|Yt Z<|Zt Z<|Zt Z<|Zt Z<|Ye Z<|Vd Z<|Zs<|Va Z ?_; refine Zu<|Vo Kq Kl Z<|Xa Kn (hB1.ext E2) Z<|Vr Z<|Ym Z (fun h2 => ?_) (fun h2 => ?_)
         refine Yt Z<|Xb Z<|Yt Z<|Vo Kq Kl Z<|Xa Kn (hB1.ext E2) Z<|Vr Z<|Xb Z<|Vd Z<|Zs<|Zx Z (fun h3 => ?_) (fun h3 => ?_); refine Zw<|Vq<|Vm u1 Z<|Vm u1 Z<|Zv Z (Rx (a := u1) (b := .int _ _) (c := u1) (d := .int _ _) Tryz.call141 Z Z Z Z) (k1 _ _ _ ((Owned.read hO1)) ((Owned.read hO1))) ?_; rintro _ w3 ⟨u2, rfl, E3, hO2⟩; have hs3 := E3.size; refine Xx Z<|Qh u2 Z<|Uf Z<|Xg u2 Z<|Vd Z<|Zs<|Zw<|Zu<|Yt Z<|Xd Z<|Zs<|Xr Z (fun h4 => ?_) (fun h4 => ?_); refine Zu<|Xq (XSl 3 XInt) Z Rp Kz ?_; rintro b2 w4 hb2 b2lt E4 hO3; refine Xm Z<|Vd Z<|Zs<|Vb ?_; refine Vk (v := .tuple #[.slice _ _ _, .bool _]) Z ?_
         exact ⟨_, rfl, exq, hO3.toB.o.mono Ka⟩; contradiction; contradiction; contradiction
     | some s =>
       rw [hs] at k1
       rw [show ((some s).bind fun s => togV p 0 s 0) = togV p 0 s 0 from rfl]
       rw [show og (some s) = s from rfl, show (some s).isSome = true from rfl] at k1
       have hsp := (Mp hq hq hs).1
       have hNs : Nod s (0 : Nat) := ⟨hsp, Kc, by have := hsp.1; omega⟩
       have k2 : ∀ (w : World) (v u : Value), ESl Ints w v p → ESl Ints w u s → Does Tryz.prog 142 [v, .int .i64 0, u, .int .i64 0] w (RetOB w XR (og (togV p 0 s 0)) (togV p 0 s 0).isSome) := fun w v u h1 h2 => TogetherOf_ok w v u p s h1 h2 0 0 hN hNs
       focus
         refine Zu<|Yx Z Z Z ?_; rintro b1 w1 hb1 E1 hB1; have hlb1 := hB1.lt; refine Xm Z<|Vd Z<|Zs<|Zu<|Vo Kq Kr Z<|Qd Ks hB1 Z<|Zv Z (Yl (a := .string _) Jq Z) (k0 _) ?_; rintro _ w2 ⟨u1, rfl, E2, hO1⟩; have hs2 := E2.size; refine Xx Z<|Qh u1 Z<|Uf Z<|Xg u1 Z<|Vd Z<|Zs<|Zw<|Ve<|Zu<|Vo Kq Kl Z<|Xa Kn (hB1.ext E2) Z<|Vr Z<|Xl Z fun h1 => ?_; refine Zt Z<|Zt Z<|Zt Z<|Ye Z<|Yt Z<|Zt Z<|Zt Z<|Zt Z<|Ye Z<|Vd Z<|Zs<|Va Z ?_; refine Zu<|Vo Kq Kl Z<|Xa Kn (hB1.ext E2) Z<|Vr Z<|Ym Z (fun h2 => ?_) (fun h2 => ?_)
         refine Yt Z<|Xb Z<|Yt Z<|Vo Kq Kl Z<|Xa Kn (hB1.ext E2) Z<|Vr Z<|Xb Z<|Vd Z<|Zs<|Zx Z (fun h3 => ?_) (fun h3 => ?_); refine Zw<|Vq<|Vm u1 Z<|Vm u1 Z<|Zv Z (Rx (a := u1) (b := .int _ _) (c := u1) (d := .int _ _) Tryz.call141 Z Z Z Z) (k1 _ _ _ ((Owned.read hO1)) ((Owned.read hO1))) ?_; rintro _ w3 ⟨u2, rfl, E3, hO2⟩; have hs3 := E3.size; refine Xx Z<|Qh u2 Z<|Uf Z<|Xg u2 Z<|Vd Z<|Zs<|Zw<|Zu<|Yt Z<|Xd Z<|Zs<|Xn Z fun h4 => ?_; refine Zz<|Zu<|Vm v Z<|Vm u2 Z<|Zv Z (Rx (a := v) (b := .int _ _) (c := u2) (d := .int _ _) Tryz.call142 Z Z Z Z) (k2 _ _ _ ((Mono.mono exq h)) ((Owned.read hO2))) ?_; rintro _ w4 ⟨u3, rfl, E4, hO3⟩
         refine Qh u3 Z<|Uf Z<|Xg u3 Z<|Vd Z<|Zs<|Vb ?_; refine Vk (v := .tuple #[u3, .bool _]) Z ?_; exact ⟨_, rfl, exq, hO3.toB.o.mono Ka⟩; contradiction; contradiction
  ·have hm:M=none:=hM.trans (by simp only [madeV];rw [if_neg (fun h=>absurd h.1 Kc),if_neg (fun h=>en h.2),if_neg (fun h=>absurd h.1 Kc),if_neg (fun h=>absurd h.1 Kc)])
   rw [hm,show og none=[] from rfl,show (none:Option (List (List Int))).isSome=false from rfl]
   cases B
   ·focus
     refine Zu<|Yx Z Z Z ?_;rintro b1 w1 hb1 E1 hB1;have hlb1:=hB1.lt;refine Xm Z<|Vd Z<|Zs<|Zu<|Vo Kq Kr Z<|Qd Ks hB1 Z<|Zv Z (Yl (a:=.string _) Jq Z) (k0 _) ?_;rintro _ w2 ⟨u1,rfl,E2,hO1⟩;have hs2:=E2.size;refine Xx Z<|Qh u1 Z<|Uf Z<|Xg u1 Z<|Vd Z<|Zs<|Zw<|Ve<|Zu<|Vo Kq Kl Z<|Xa Kn (hB1.ext E2) Z<|Vr Z<|Xl Z fun h1=>?_;refine Zt Z<|Zt Z<|Zt Z<|Ye Z<|Yt Z<|Zt Z<|Zt Z<|Zt Z<|Ye Z<|Vd Z<|Zs<|Va Z ?_;refine Zu<|Vo Kq Kl Z<|Xa Kn (hB1.ext E2) Z<|Vr Z<|Ym Z (fun h2=>?_) (fun h2=>?_)
     refine Yt Z<|Xb Z<|Yt Z<|Zt Z<|Zt Z<|Zt Z<|Ye Z<|Vd Z<|Zs<|Va Z ?_;refine Zu<|Vo Kq Kl Z<|Xa Kn (hB1.ext E2) Z<|Vr Z<|Xl Z fun h3=>?_;refine Zt Z<|Ye Z<|Yt Z<|Zt Z<|Zt Z<|Zt Z<|Ye Z<|Vd Z<|Zs<|Va Z ?_;refine Zw<|Ul Xy Kb Z ?_;refine Qc Kq Kl Z<|Xt (v:=.int _ _) Z (fun w' hw'=>Yg Kn Z (((hB1.ext E2).ext hw').cell Z)) ?_;refine Ry Z<|Qm Z (fun h4=>?_) (fun h4=>?_);contradiction
     refine Vg Z<|Vg Z<|Vg Z<|Rq Z<|Sh Z<|Vg Z<|Vg Z<|Vg Z<|Vg Z<|Vg Z<|Vg Z<|Rq Z<|Sh Z<|Vg Z<|Vg Z<|Vg Z<|Vg Z<|Vg Z<|Vg Z<|Vg Z<|Vg Z<|Rq Z<|Na Z<|Ud (fun w3 E3=>?_);have hs3:=E3.size;refine Va Z ?_;refine Zz<|Zu<|Xq (XSl 3 XInt) Z Rp Kz ?_;rintro b2 w4 hb2 b2lt E4 hO2;refine Xm Z<|Vd Z<|Zs<|Vb ?_;refine Vk (v:=.tuple #[.slice _ _ _,.bool _]) Z ?_;exact ⟨_,rfl,exq,hO2.toB.o.mono Ka⟩;contradiction
   ·focus
     refine Zu<|Yx Z Z Z ?_;rintro b1 w1 hb1 E1 hB1;have hlb1:=hB1.lt;refine Xm Z<|Vd Z<|Zs<|Zu<|Vo Kq Kr Z<|Qd Ks hB1 Z<|Zv Z (Yl (a:=.string _) Jq Z) (k0 _) ?_;rintro _ w2 ⟨u1,rfl,E2,hO1⟩;have hs2:=E2.size;refine Xx Z<|Qh u1 Z<|Uf Z<|Xg u1 Z<|Vd Z<|Zs<|Zw<|Ve<|Zu<|Vo Kq Kl Z<|Xa Kn (hB1.ext E2) Z<|Vr Z<|Xl Z fun h1=>?_;refine Zt Z<|Zt Z<|Zt Z<|Ye Z<|Yt Z<|Zt Z<|Zt Z<|Zt Z<|Ye Z<|Vd Z<|Zs<|Va Z ?_;refine Zu<|Vo Kq Kl Z<|Xa Kn (hB1.ext E2) Z<|Vr Z<|Ym Z (fun h2=>?_) (fun h2=>?_)
     refine Yt Z<|Xb Z<|Yt Z<|Vo Kq Kl Z<|Xa Kn (hB1.ext E2) Z<|Vr Z<|Xb Z<|Vd Z<|Zs<|Vw Z fun h3=>?_;refine Zu<|Vo Kq Kl Z<|Xa Kn (hB1.ext E2) Z<|Vr Z<|Xl Z fun h4=>?_;refine Zt Z<|Ye Z<|Yt Z<|Zt Z<|Zt Z<|Zt Z<|Ye Z<|Vd Z<|Zs<|Va Z ?_;refine Zw<|Ul Xy Kb Z ?_;refine Qc Kq Kl Z<|Xt (v:=.int _ _) Z (fun w' hw'=>Yg Kn Z (((hB1.ext E2).ext hw').cell Z)) ?_;refine Ry Z<|Qm Z (fun h5=>?_) (fun h5=>?_);contradiction
     refine Vg Z<|Vg Z<|Vg Z<|Rq Z<|Sh Z<|Vg Z<|Vg Z<|Vg Z<|Vg Z<|Vg Z<|Vg Z<|Rq Z<|Sh Z<|Vg Z<|Vg Z<|Vg Z<|Vg Z<|Vg Z<|Vg Z<|Vg Z<|Vg Z<|Rq Z<|Na Z<|Ud (fun w3 E3=>?_);have hs3:=E3.size;refine Va Z ?_;refine Zz<|Zu<|Xq (XSl 3 XInt) Z Rp Kz ?_;rintro b2 w4 hb2 b2lt E4 hO2;refine Xm Z<|Vd Z<|Zs<|Vb ?_;refine Vk (v:=.tuple #[.slice _ _ _,.bool _]) Z ?_;exact ⟨_,rfl,exq,hO2.toB.o.mono Ka⟩;contradiction
 by_cases e2:k=2
 ·subst e2
  by_cases en:n=0
  ·subst en
   have hm:M=(rdP t).bind fun q=>wosV p 0 q 0:=hM.trans (by simp only [madeV];rw [if_neg (fun h=>absurd h.1 Kc),if_neg (fun h=>absurd h.1 Kc),if_pos Ki])
   cases hr:rdP t with
   | none =>
     rw [hr] at hm hB hQ
     rw [hm, show og (none.bind fun q => wosV p 0 q 0) = [] from rfl, show (none.bind fun q => wosV p 0 q 0).isSome = false from rfl]
     rw [hB, show (none : Option (List (List Int))).isSome = false from rfl] at k0
     focus
       refine Zu<|Yx Z Z Z ?_; rintro b1 w1 hb1 E1 hB1; have hlb1 := hB1.lt; refine Xm Z<|Vd Z<|Zs<|Zu<|Vo Kq Kr Z<|Qd Ks hB1 Z<|Zv Z (Yl (a := .string _) Jq Z) (k0 _) ?_; rintro _ w2 ⟨u1, rfl, E2, hO1⟩; have hs2 := E2.size; refine Xx Z<|Qh u1 Z<|Uf Z<|Xg u1 Z<|Vd Z<|Zs<|Zw<|Ve<|Zu<|Vo Kq Kl Z<|Xa Kn (hB1.ext E2) Z<|Vr Z<|Xl Z fun h1 => ?_; refine Zt Z<|Zt Z<|Zt Z<|Ye Z<|Yt Z<|Zt Z<|Zt Z<|Zt Z<|Ye Z<|Vd Z<|Zs<|Va Z ?_; refine Zu<|Vo Kq Kl Z<|Xa Kn (hB1.ext E2) Z<|Vr Z<|Xl Z fun h2 => ?_
       refine Zt Z<|Ye Z<|Yt Z<|Zt Z<|Zt Z<|Zt Z<|Ye Z<|Vd Z<|Zs<|Va Z ?_; refine Zu<|Vo Kq Kl Z<|Xa Kn (hB1.ext E2) Z<|Vr Z<|Ym Z (fun h3 => ?_) (fun h3 => ?_); refine Yt Z<|Xb Z<|Yt Z<|Zt Z<|Zt Z<|Zt Z<|Ye Z<|Vd Z<|Zs<|Va Z ?_; refine Zw<|Ul Xy Kb Z ?_; refine Qc Kq Kl Z<|Xt (v := .int _ _) Z (fun w' hw' => Yg Kn Z (((hB1.ext E2).ext hw').cell Z)) ?_; refine Ry Z<|Qm Z (fun h4 => ?_) (fun h4 => ?_); contradiction
       refine Vg Z<|Vg Z<|Vg Z<|Rq Z<|Sh Z<|Vg Z<|Vg Z<|Vg Z<|Vg Z<|Vg Z<|Vg Z<|Rq Z<|Sh Z<|Vg Z<|Vg Z<|Vg Z<|Vg Z<|Vg Z<|Vg Z<|Vg Z<|Vg Z<|Rq Z<|Na Z<|Ud (fun w3 E3 => ?_); have hs3 := E3.size; refine Va Z ?_; refine Zz<|Zu<|Xq (XSl 3 XInt) Z Rp Kz ?_; rintro b2 w4 hb2 b2lt E4 hO2; refine Xm Z<|Vd Z<|Zs<|Vb ?_; refine Vk (v := .tuple #[.slice _ _ _, .bool _]) Z ?_; exact ⟨_, rfl, exq, hO2.toB.o.mono Ka⟩; contradiction
   | some q =>
     rw [hr] at hm hB hQ
     rw [hB, hQ, show (some q).isSome = true from rfl, show (some q).getD [] = q from rfl] at k0
     have hq := (Sr hr).1
     have hNq : Nod q (0 : Nat) := ⟨hq, Kc, by have := hq.1; omega⟩
     have k1 : ∀ (w : World) (v u : Value), ESl Ints w v p → ESl Ints w u q → Does Tryz.prog 143 [v, .int .i64 0, u, .int .i64 0] w (RetOB w XR (og (wosV p 0 q 0)) (wosV p 0 q 0).isSome) := fun w v u h1 h2 => WithoutSet_ok w v u p q h1 h2 0 0 hN hNq
     rw [hm, show ((some q).bind fun q => wosV p 0 q 0) = wosV p 0 q 0 from rfl]
     focus
       refine Zu<|Yx Z Z Z ?_; rintro b1 w1 hb1 E1 hB1; have hlb1 := hB1.lt; refine Xm Z<|Vd Z<|Zs<|Zu<|Vo Kq Kr Z<|Qd Ks hB1 Z<|Zv Z (Yl (a := .string _) Jq Z) (k0 _) ?_; rintro _ w2 ⟨u1, rfl, E2, hO1⟩; have hs2 := E2.size; refine Xx Z<|Qh u1 Z<|Uf Z<|Xg u1 Z<|Vd Z<|Zs<|Zw<|Ve<|Zu<|Vo Kq Kl Z<|Xa Kn (hB1.ext E2) Z<|Vr Z<|Xl Z fun h1 => ?_; refine Zt Z<|Zt Z<|Zt Z<|Ye Z<|Yt Z<|Zt Z<|Zt Z<|Zt Z<|Ye Z<|Vd Z<|Zs<|Va Z ?_; refine Zu<|Vo Kq Kl Z<|Xa Kn (hB1.ext E2) Z<|Vr Z<|Xl Z fun h2 => ?_
       refine Zt Z<|Ye Z<|Yt Z<|Zt Z<|Zt Z<|Zt Z<|Ye Z<|Vd Z<|Zs<|Va Z ?_; refine Zu<|Vo Kq Kl Z<|Xa Kn (hB1.ext E2) Z<|Vr Z<|Ym Z (fun h3 => ?_) (fun h3 => ?_); refine Yt Z<|Xb Z<|Yt Z<|Vo Kq Kl Z<|Xa Kn (hB1.ext E2) Z<|Vr Z<|Xb Z<|Vd Z<|Zs<|Zx Z (fun h4 => ?_) (fun h4 => ?_); refine Zw<|Vq<|Vm v Z<|Vm u1 Z<|Zv Z (Rx (a := v) (b := .int _ _) (c := u1) (d := .int _ _) Tryz.call143 Z Z Z Z) (k1 _ _ _ ((Mono.mono exq h)) ((Owned.read hO1))) ?_; rintro _ w3 ⟨u2, rfl, E3, hO2⟩; refine Qh u2 Z<|Uf Z<|Xg u2 Z<|Vd Z<|Zs<|Vb ?_; refine Vk (v := .tuple #[u2, .bool _]) Z ?_
       exact ⟨_, rfl, exq, hO2.toB.o.mono Ka⟩; contradiction; contradiction
  ·have hm:M=none:=hM.trans (by simp only [madeV];rw [if_neg (fun h=>absurd h.1 Kc),if_neg (fun h=>absurd h.1 Kc),if_neg (fun h=>en h.2),if_neg (fun h=>absurd h.1 Kc)])
   rw [hm,show og none=[] from rfl,show (none:Option (List (List Int))).isSome=false from rfl]
   cases B
   ·focus
     refine Zu<|Yx Z Z Z ?_;rintro b1 w1 hb1 E1 hB1;have hlb1:=hB1.lt;refine Xm Z<|Vd Z<|Zs<|Zu<|Vo Kq Kr Z<|Qd Ks hB1 Z<|Zv Z (Yl (a:=.string _) Jq Z) (k0 _) ?_;rintro _ w2 ⟨u1,rfl,E2,hO1⟩;have hs2:=E2.size;refine Xx Z<|Qh u1 Z<|Uf Z<|Xg u1 Z<|Vd Z<|Zs<|Zw<|Ve<|Zu<|Vo Kq Kl Z<|Xa Kn (hB1.ext E2) Z<|Vr Z<|Xl Z fun h1=>?_;refine Zt Z<|Zt Z<|Zt Z<|Ye Z<|Yt Z<|Zt Z<|Zt Z<|Zt Z<|Ye Z<|Vd Z<|Zs<|Va Z ?_;refine Zu<|Vo Kq Kl Z<|Xa Kn (hB1.ext E2) Z<|Vr Z<|Xl Z fun h2=>?_
     refine Zt Z<|Ye Z<|Yt Z<|Zt Z<|Zt Z<|Zt Z<|Ye Z<|Vd Z<|Zs<|Va Z ?_;refine Zu<|Vo Kq Kl Z<|Xa Kn (hB1.ext E2) Z<|Vr Z<|Ym Z (fun h3=>?_) (fun h3=>?_);refine Yt Z<|Xb Z<|Yt Z<|Zt Z<|Zt Z<|Zt Z<|Ye Z<|Vd Z<|Zs<|Va Z ?_;refine Zw<|Ul Xy Kb Z ?_;refine Qc Kq Kl Z<|Xt (v:=.int _ _) Z (fun w' hw'=>Yg Kn Z (((hB1.ext E2).ext hw').cell Z)) ?_;refine Ry Z<|Qm Z (fun h4=>?_) (fun h4=>?_);contradiction
     refine Vg Z<|Vg Z<|Vg Z<|Rq Z<|Sh Z<|Vg Z<|Vg Z<|Vg Z<|Vg Z<|Vg Z<|Vg Z<|Rq Z<|Sh Z<|Vg Z<|Vg Z<|Vg Z<|Vg Z<|Vg Z<|Vg Z<|Vg Z<|Vg Z<|Rq Z<|Na Z<|Ud (fun w3 E3=>?_);have hs3:=E3.size;refine Va Z ?_;refine Zz<|Zu<|Xq (XSl 3 XInt) Z Rp Kz ?_;rintro b2 w4 hb2 b2lt E4 hO2;refine Xm Z<|Vd Z<|Zs<|Vb ?_;refine Vk (v:=.tuple #[.slice _ _ _,.bool _]) Z ?_;exact ⟨_,rfl,exq,hO2.toB.o.mono Ka⟩;contradiction
   ·focus
     refine Zu<|Yx Z Z Z ?_;rintro b1 w1 hb1 E1 hB1;have hlb1:=hB1.lt;refine Xm Z<|Vd Z<|Zs<|Zu<|Vo Kq Kr Z<|Qd Ks hB1 Z<|Zv Z (Yl (a:=.string _) Jq Z) (k0 _) ?_;rintro _ w2 ⟨u1,rfl,E2,hO1⟩;have hs2:=E2.size;refine Xx Z<|Qh u1 Z<|Uf Z<|Xg u1 Z<|Vd Z<|Zs<|Zw<|Ve<|Zu<|Vo Kq Kl Z<|Xa Kn (hB1.ext E2) Z<|Vr Z<|Xl Z fun h1=>?_;refine Zt Z<|Zt Z<|Zt Z<|Ye Z<|Yt Z<|Zt Z<|Zt Z<|Zt Z<|Ye Z<|Vd Z<|Zs<|Va Z ?_;refine Zu<|Vo Kq Kl Z<|Xa Kn (hB1.ext E2) Z<|Vr Z<|Xl Z fun h2=>?_
     refine Zt Z<|Ye Z<|Yt Z<|Zt Z<|Zt Z<|Zt Z<|Ye Z<|Vd Z<|Zs<|Va Z ?_;refine Zu<|Vo Kq Kl Z<|Xa Kn (hB1.ext E2) Z<|Vr Z<|Ym Z (fun h3=>?_) (fun h3=>?_);refine Yt Z<|Xb Z<|Yt Z<|Vo Kq Kl Z<|Xa Kn (hB1.ext E2) Z<|Vr Z<|Xb Z<|Vd Z<|Zs<|Vw Z fun h4=>?_;refine Zw<|Ul Xy Kb Z ?_;refine Qc Kq Kl Z<|Xt (v:=.int _ _) Z (fun w' hw'=>Yg Kn Z (((hB1.ext E2).ext hw').cell Z)) ?_;refine Ry Z<|Qm Z (fun h5=>?_) (fun h5=>?_);contradiction
     refine Vg Z<|Vg Z<|Vg Z<|Rq Z<|Sh Z<|Vg Z<|Vg Z<|Vg Z<|Vg Z<|Vg Z<|Vg Z<|Rq Z<|Sh Z<|Vg Z<|Vg Z<|Vg Z<|Vg Z<|Vg Z<|Vg Z<|Vg Z<|Vg Z<|Rq Z<|Na Z<|Ud (fun w3 E3=>?_);have hs3:=E3.size;refine Va Z ?_;refine Zz<|Zu<|Xq (XSl 3 XInt) Z Rp Kz ?_;rintro b2 w4 hb2 b2lt E4 hO2;refine Xm Z<|Vd Z<|Zs<|Vb ?_;refine Vk (v:=.tuple #[.slice _ _ _,.bool _]) Z ?_;exact ⟨_,rfl,exq,hO2.toB.o.mono Ka⟩;contradiction
 by_cases e3:k=3
 ·subst e3
  by_cases et:t=[]
  ·subst et
   by_cases en:0≤n∧n≤(p.length:Int) - 1
   ·have k2 : ∀ w,Does Tryz.prog 116 [.int .i64 n,.int .i64 0,.int .i64 ((p.length:Int) - 1)] w (Ret w (.bool true)):=fun w=>by
     have:=Qs n 0 ((p.length:Int) - 1) w;rwa [decide_eq_true en] at this
    have hrow:p[0].length=p.length:=hp.row hp1
    obtain ⟨i,rfl⟩ : ∃ i:Nat,n=i:=⟨n.toNat,Ka⟩
    have hbit:bit p 0 i=p[0][i]:=by unfold bit;rw [Yo hp1,Yo (show i < p[0].length by omega)]
    by_cases eb:p[0][i]=1
    ·have hm:M=some (lst p i):=hM.trans (by simp only [madeV];rw [if_neg (fun h=>absurd h.1 Kc),if_neg (fun h=>absurd h.1 Kc),if_neg (fun h=>absurd h.1 Kc),if_pos ⟨trivial,trivial,Ka,Ka,by rw [Int.toNat_natCast,hbit,eb]⟩,Int.toNat_natCast])
     have hNi:Nod p (i:Int):=⟨hp,Ka,Ka⟩
     have k3 : ∀ (w:World) (v:Value),ESl Ints w v p→Does Tryz.prog 126 [v,.int .i64 (i:Int)] w (RetO w XR (lst p i)):=fun w v h=>by
      have:=Sl w v p h (i:Int);rw [if_pos hNi] at this;exact this
     rw [hm,show og (some (lst p i))=lst p i from rfl,show (some (lst p i)).isSome=true from rfl]
     focus
      refine Zu<|Yx Z Z Z ?_;rintro b1 w1 hb1 E1 hB1;have hlb1:=hB1.lt;refine Xm Z<|Vd Z<|Zs<|Zu<|Vo Kq Kr Z<|Qd Ks hB1 Z<|Zv Z (Yl (a:=.string _) Jq Z) (k0 _) ?_;rintro _ w2 ⟨u1,rfl,E2,hO1⟩;have hs2:=E2.size;refine Xx Z<|Qh u1 Z<|Uf Z<|Xg u1 Z<|Vd Z<|Zs<|Zw<|Ve<|Zu<|Vo Kq Kl Z<|Xa Kn (hB1.ext E2) Z<|Vr Z<|Xl Z fun h1=>?_;refine Zt Z<|Zt Z<|Zt Z<|Ye Z<|Yt Z<|Zt Z<|Zt Z<|Zt Z<|Ye Z<|Vd Z<|Zs<|Va Z ?_;refine Zu<|Vo Kq Kl Z<|Xa Kn (hB1.ext E2) Z<|Vr Z<|Xl Z fun h2=>?_
      refine Zt Z<|Ye Z<|Yt Z<|Zt Z<|Zt Z<|Zt Z<|Ye Z<|Vd Z<|Zs<|Va Z ?_;refine Zu<|Vo Kq Kl Z<|Xa Kn (hB1.ext E2) Z<|Vr Z<|Xl Z fun h3=>?_;refine Zt Z<|Ye Z<|Yt Z<|Zt Z<|Zt Z<|Zt Z<|Ye Z<|Vd Z<|Zs<|Va Z ?_;refine Zw<|Ul Xy Kb Z ?_;refine Qc Kq Kl Z<|Xt (v:=.int _ _) Z (fun w' hw'=>Yg Kn Z (((hB1.ext E2).ext hw').cell Z)) ?_;refine Ry Z<|Qm Z (fun h4=>?_) (fun h4=>?_);refine Qc Kq Kr Z<|Xt (v:=.string _) Z (fun w' hw'=>Yg Ks Z (((hB1.ext E2).ext hw').cell Z)) ?_
      refine Xt Z (fun _ _=>Vl Z Z) ?_;refine Ni Z<|Qm Z (fun h5=>?_) (fun h5=>?_);refine Qc Kq Kl Z<|Xt (v:=.int _ _) Z (fun w' hw'=>Yg Kn Z (((hB1.ext E2).ext hw').cell Z)) ?_;refine Rg v Z<|Xt Z (fun _ _=>Qt Kp Z h) ?_;refine Xt Z (fun _ _=>Mx Z Z Ka) ?_;refine Qg Z (fun _ _=>Uv (a:=.int _ _) (b:=.int _ _) (c:=.int _ _) Jo Z Z Z) (fun w' hw'=>(k2 _)) ?_;refine Ni Z<|Sh Z<|Rg v Z<|Uk (k:=0) Kp Kz Jc Z (fun _=>Z) Z h exq Z Kf ?_;rintro _ u2 hu1;refine Qc Kq Kl Z<|Xt (v:=.int _ _) Z (fun w' hw'=>Yg Kn Z (((hB1.ext E2).ext hw').cell Z)) ?_
      refine Uk Ko Kl Kn Z (fun _=>Z) Z hu1 exq Z Kf ?_;rintro _ _ rfl;refine Ry Z<|Ni Z<|Na Z<|Ud (fun w3 E3=>?_);have hs3:=E3.size;refine Zx Z (fun h6=>?_) (fun h6=>?_);refine Zu<|Vm v Z<|Vo Kq Kl Z<|Xa Kn (hB1.ext exq) Z<|Zv Z (Yd (a:=v) (b:=.int _ _) Gk Z Z) (k3 _ _ ((Mono.mono exq h))) ?_;rintro u3 w4 ⟨E4,hO2⟩;refine Xg u3 Z<|Vd Z<|Zs<|Vb ?_;refine Vk (v:=.tuple #[u3,.bool _]) Z ?_;exact ⟨_,rfl,exq,hO2.toB.o.mono Ka⟩;contradiction;contradiction;contradiction
    ·have hm:M=none:=hM.trans (by simp only [madeV];rw [if_neg (fun h=>absurd h.1 Kc),if_neg (fun h=>absurd h.1 Kc),if_neg (fun h=>absurd h.1 Kc),if_neg (fun h=>eb (by have:=h.2.2.2.2;rwa [Int.toNat_natCast,hbit] at this))])
     rw [hm,show og none=[] from rfl,show (none:Option (List (List Int))).isSome=false from rfl]
     focus
      refine Zu<|Yx Z Z Z ?_;rintro b1 w1 hb1 E1 hB1;have hlb1:=hB1.lt;refine Xm Z<|Vd Z<|Zs<|Zu<|Vo Kq Kr Z<|Qd Ks hB1 Z<|Zv Z (Yl (a:=.string _) Jq Z) (k0 _) ?_;rintro _ w2 ⟨u1,rfl,E2,hO1⟩;have hs2:=E2.size;refine Xx Z<|Qh u1 Z<|Uf Z<|Xg u1 Z<|Vd Z<|Zs<|Zw<|Ve<|Zu<|Vo Kq Kl Z<|Xa Kn (hB1.ext E2) Z<|Vr Z<|Xl Z fun h1=>?_;refine Zt Z<|Zt Z<|Zt Z<|Ye Z<|Yt Z<|Zt Z<|Zt Z<|Zt Z<|Ye Z<|Vd Z<|Zs<|Va Z ?_;refine Zu<|Vo Kq Kl Z<|Xa Kn (hB1.ext E2) Z<|Vr Z<|Xl Z fun h2=>?_
      refine Zt Z<|Ye Z<|Yt Z<|Zt Z<|Zt Z<|Zt Z<|Ye Z<|Vd Z<|Zs<|Va Z ?_;refine Zu<|Vo Kq Kl Z<|Xa Kn (hB1.ext E2) Z<|Vr Z<|Xl Z fun h3=>?_;refine Zt Z<|Ye Z<|Yt Z<|Zt Z<|Zt Z<|Zt Z<|Ye Z<|Vd Z<|Zs<|Va Z ?_;refine Zw<|Ul Xy Kb Z ?_;refine Qc Kq Kl Z<|Xt (v:=.int _ _) Z (fun w' hw'=>Yg Kn Z (((hB1.ext E2).ext hw').cell Z)) ?_;refine Ry Z<|Qm Z (fun h4=>?_) (fun h4=>?_);refine Qc Kq Kr Z<|Xt (v:=.string _) Z (fun w' hw'=>Yg Ks Z (((hB1.ext E2).ext hw').cell Z)) ?_
      refine Xt Z (fun _ _=>Vl Z Z) ?_;refine Ni Z<|Qm Z (fun h5=>?_) (fun h5=>?_);refine Qc Kq Kl Z<|Xt (v:=.int _ _) Z (fun w' hw'=>Yg Kn Z (((hB1.ext E2).ext hw').cell Z)) ?_;refine Rg v Z<|Xt Z (fun _ _=>Qt Kp Z h) ?_;refine Xt Z (fun _ _=>Mx Z Z Ka) ?_;refine Qg Z (fun _ _=>Uv (a:=.int _ _) (b:=.int _ _) (c:=.int _ _) Jo Z Z Z) (fun w' hw'=>(k2 _)) ?_;refine Ni Z<|Sh Z<|Rg v Z<|Uk (k:=0) Kp Kz Jc Z (fun _=>Z) Z h exq Z Kf ?_;rintro _ u2 hu1;refine Qc Kq Kl Z<|Xt (v:=.int _ _) Z (fun w' hw'=>Yg Kn Z (((hB1.ext E2).ext hw').cell Z)) ?_
      refine Uk Ko Kl Kn Z (fun _=>Z) Z hu1 exq Z Kf ?_;rintro _ _ rfl;refine Ry Z<|Ni Z<|Na Z<|Ud (fun w3 E3=>?_);have hs3:=E3.size;refine Vw Z fun h6=>?_;refine Zz<|Zu<|Xq (XSl 3 XInt) Z Rp Kz ?_;rintro b2 w4 hb2 b2lt E4 hO2;refine Xm Z<|Vd Z<|Zs<|Vb ?_;refine Vk (v:=.tuple #[.slice _ _ _,.bool _]) Z ?_;exact ⟨_,rfl,exq,hO2.toB.o.mono Ka⟩;contradiction;contradiction
   ·have k2 : ∀ w,Does Tryz.prog 116 [.int .i64 n,.int .i64 0,.int .i64 ((p.length:Int) - 1)] w (Ret w (.bool false)):=fun w=>by
     have:=Qs n 0 ((p.length:Int) - 1) w;rwa [decide_eq_false en] at this
    have hm:M=none:=hM.trans (by simp only [madeV];rw [if_neg (fun h=>absurd h.1 Kc),if_neg (fun h=>absurd h.1 Kc),if_neg (fun h=>absurd h.1 Kc),if_neg (fun h=>en ⟨h.2.2.1,by have:=h.2.2.2.1;omega⟩)])
    rw [hm,show og none=[] from rfl,show (none:Option (List (List Int))).isSome=false from rfl]
    focus
     refine Zu<|Yx Z Z Z ?_;rintro b1 w1 hb1 E1 hB1;have hlb1:=hB1.lt;refine Xm Z<|Vd Z<|Zs<|Zu<|Vo Kq Kr Z<|Qd Ks hB1 Z<|Zv Z (Yl (a:=.string _) Jq Z) (k0 _) ?_;rintro _ w2 ⟨u1,rfl,E2,hO1⟩;have hs2:=E2.size;refine Xx Z<|Qh u1 Z<|Uf Z<|Xg u1 Z<|Vd Z<|Zs<|Zw<|Ve<|Zu<|Vo Kq Kl Z<|Xa Kn (hB1.ext E2) Z<|Vr Z<|Xl Z fun h1=>?_;refine Zt Z<|Zt Z<|Zt Z<|Ye Z<|Yt Z<|Zt Z<|Zt Z<|Zt Z<|Ye Z<|Vd Z<|Zs<|Va Z ?_;refine Zu<|Vo Kq Kl Z<|Xa Kn (hB1.ext E2) Z<|Vr Z<|Xl Z fun h2=>?_
     refine Zt Z<|Ye Z<|Yt Z<|Zt Z<|Zt Z<|Zt Z<|Ye Z<|Vd Z<|Zs<|Va Z ?_;refine Zu<|Vo Kq Kl Z<|Xa Kn (hB1.ext E2) Z<|Vr Z<|Xl Z fun h3=>?_;refine Zt Z<|Ye Z<|Yt Z<|Zt Z<|Zt Z<|Zt Z<|Ye Z<|Vd Z<|Zs<|Va Z ?_;refine Zw<|Ul Xy Kb Z ?_;refine Qc Kq Kl Z<|Xt (v:=.int _ _) Z (fun w' hw'=>Yg Kn Z (((hB1.ext E2).ext hw').cell Z)) ?_;refine Ry Z<|Qm Z (fun h4=>?_) (fun h4=>?_);refine Qc Kq Kr Z<|Xt (v:=.string _) Z (fun w' hw'=>Yg Ks Z (((hB1.ext E2).ext hw').cell Z)) ?_
     refine Xt Z (fun _ _=>Vl Z Z) ?_;refine Ni Z<|Qm Z (fun h5=>?_) (fun h5=>?_);refine Qc Kq Kl Z<|Xt (v:=.int _ _) Z (fun w' hw'=>Yg Kn Z (((hB1.ext E2).ext hw').cell Z)) ?_;refine Rg v Z<|Xt Z (fun _ _=>Qt Kp Z h) ?_;refine Xt Z (fun _ _=>Mx Z Z Ka) ?_;refine Qg Z (fun _ _=>Uv (a:=.int _ _) (b:=.int _ _) (c:=.int _ _) Jo Z Z Z) (fun w' hw'=>(k2 _)) ?_;refine Ni Z<|Sh Z<|Vg Z<|Vg Z<|Vg Z<|Vg Z<|Vg Z<|Vg Z<|Vg Z<|Vg Z<|Rq Z<|Na Z<|Ud (fun w3 E3=>?_);have hs3:=E3.size;refine Va Z ?_;refine Zz<|Zu<|Xq (XSl 3 XInt) Z Rp Kz ?_;rintro b2 w4 hb2 b2lt E4 hO2
     refine Xm Z<|Vd Z<|Zs<|Vb ?_;refine Vk (v:=.tuple #[.slice _ _ _,.bool _]) Z ?_;exact ⟨_,rfl,exq,hO2.toB.o.mono Ka⟩;contradiction;contradiction
  ·have hm:M=none:=hM.trans (by simp only [madeV];rw [if_neg (fun h=>absurd h.1 Kc),if_neg (fun h=>absurd h.1 Kc),if_neg (fun h=>absurd h.1 Kc),if_neg (fun h=>et h.2.1)])
   rw [hm,show og none=[] from rfl,show (none:Option (List (List Int))).isSome=false from rfl]
   focus
    refine Zu<|Yx Z Z Z ?_;rintro b1 w1 hb1 E1 hB1;have hlb1:=hB1.lt;refine Xm Z<|Vd Z<|Zs<|Zu<|Vo Kq Kr Z<|Qd Ks hB1 Z<|Zv Z (Yl (a:=.string _) Jq Z) (k0 _) ?_;rintro _ w2 ⟨u1,rfl,E2,hO1⟩;have hs2:=E2.size;refine Xx Z<|Qh u1 Z<|Uf Z<|Xg u1 Z<|Vd Z<|Zs<|Zw<|Ve<|Zu<|Vo Kq Kl Z<|Xa Kn (hB1.ext E2) Z<|Vr Z<|Xl Z fun h1=>?_;refine Zt Z<|Zt Z<|Zt Z<|Ye Z<|Yt Z<|Zt Z<|Zt Z<|Zt Z<|Ye Z<|Vd Z<|Zs<|Va Z ?_;refine Zu<|Vo Kq Kl Z<|Xa Kn (hB1.ext E2) Z<|Vr Z<|Xl Z fun h2=>?_
    refine Zt Z<|Ye Z<|Yt Z<|Zt Z<|Zt Z<|Zt Z<|Ye Z<|Vd Z<|Zs<|Va Z ?_;refine Zu<|Vo Kq Kl Z<|Xa Kn (hB1.ext E2) Z<|Vr Z<|Xl Z fun h3=>?_;refine Zt Z<|Ye Z<|Yt Z<|Zt Z<|Zt Z<|Zt Z<|Ye Z<|Vd Z<|Zs<|Va Z ?_;refine Zw<|Ul Xy Kb Z ?_;refine Qc Kq Kl Z<|Xt (v:=.int _ _) Z (fun w' hw'=>Yg Kn Z (((hB1.ext E2).ext hw').cell Z)) ?_;refine Ry Z<|Qm Z (fun h4=>?_) (fun h4=>?_);refine Qc Kq Kr Z<|Xt (v:=.string _) Z (fun w' hw'=>Yg Ks Z (((hB1.ext E2).ext hw').cell Z)) ?_
    refine Xt Z (fun _ _=>Vl Z Z) ?_;refine Ni Z<|Qm Z (fun h5=>?_) (fun h5=>?_);contradiction;refine Vg Z<|Vg Z<|Vg Z<|Vg Z<|Vg Z<|Vg Z<|Rq Z<|Sh Z<|Vg Z<|Vg Z<|Vg Z<|Vg Z<|Vg Z<|Vg Z<|Vg Z<|Vg Z<|Rq Z<|Na Z<|Ud (fun w3 E3=>?_);have hs3:=E3.size;refine Va Z ?_;refine Zz<|Zu<|Xq (XSl 3 XInt) Z Rp Kz ?_;rintro b2 w4 hb2 b2lt E4 hO2;refine Xm Z<|Vd Z<|Zs<|Vb ?_;refine Vk (v:=.tuple #[.slice _ _ _,.bool _]) Z ?_;exact ⟨_,rfl,exq,hO2.toB.o.mono Ka⟩;contradiction
 have hm:M=none:=hM.trans (by simp only [madeV];rw [if_neg (fun h=>e0 h.1),if_neg (fun h=>e1 h.1),if_neg (fun h=>e2 h.1),if_neg (fun h=>e3 h.1)])
 rw [hm,show og none=[] from rfl,show (none:Option (List (List Int))).isSome=false from rfl]
 focus
  refine Zu<|Yx Z Z Z ?_;rintro b1 w1 hb1 E1 hB1;have hlb1:=hB1.lt;refine Xm Z<|Vd Z<|Zs<|Zu<|Vo Kq Kr Z<|Qd Ks hB1 Z<|Zv Z (Yl (a:=.string _) Jq Z) (k0 _) ?_;rintro _ w2 ⟨u1,rfl,E2,hO1⟩;have hs2:=E2.size;refine Xx Z<|Qh u1 Z<|Uf Z<|Xg u1 Z<|Vd Z<|Zs<|Zw<|Ve<|Zu<|Vo Kq Kl Z<|Xa Kn (hB1.ext E2) Z<|Vr Z<|Xl Z fun h1=>?_;refine Zt Z<|Zt Z<|Zt Z<|Ye Z<|Yt Z<|Zt Z<|Zt Z<|Zt Z<|Ye Z<|Vd Z<|Zs<|Va Z ?_;refine Zu<|Vo Kq Kl Z<|Xa Kn (hB1.ext E2) Z<|Vr Z<|Xl Z fun h2=>?_
  refine Zt Z<|Ye Z<|Yt Z<|Zt Z<|Zt Z<|Zt Z<|Ye Z<|Vd Z<|Zs<|Va Z ?_;refine Zu<|Vo Kq Kl Z<|Xa Kn (hB1.ext E2) Z<|Vr Z<|Xl Z fun h3=>?_;refine Zt Z<|Ye Z<|Yt Z<|Zt Z<|Zt Z<|Zt Z<|Ye Z<|Vd Z<|Zs<|Va Z ?_;refine Zw<|Ul Xy Kb Z ?_;refine Qc Kq Kl Z<|Xt (v:=.int _ _) Z (fun w' hw'=>Yg Kn Z (((hB1.ext E2).ext hw').cell Z)) ?_;refine Ry Z<|Qm Z (fun h4=>?_) (fun h4=>?_);contradiction
  refine Vg Z<|Vg Z<|Vg Z<|Rq Z<|Sh Z<|Vg Z<|Vg Z<|Vg Z<|Vg Z<|Vg Z<|Vg Z<|Rq Z<|Sh Z<|Vg Z<|Vg Z<|Vg Z<|Vg Z<|Vg Z<|Vg Z<|Vg Z<|Vg Z<|Rq Z<|Na Z<|Ud (fun w3 E3=>?_);have hs3:=E3.size;refine Va Z ?_;refine Zz<|Zu<|Xq (XSl 3 XInt) Z Rp Kz ?_;rintro b2 w4 hb2 b2lt E4 hO2;refine Xm Z<|Vd Z<|Zs<|Vb ?_;refine Vk (v:=.tuple #[.slice _ _ _,.bool _]) Z ?_;exact ⟨_,rfl,exq,hO2.toB.o.mono Ka⟩
open Classical in
theorem spec_DeskDo_ok (w:World) (u1 u2:Value) (d:Dsk) (h1:ESl Ints w u1 d.now) (h2:ESl (ESl Ints) w u2 d.past) (k n:Int) (t:List UInt8) (ht:t.length≤1048576) :
  Does Tryz.prog 37 [.agg #[u1,u2],.agg #[.int .i64 k,str t,.int .i64 n]] w (RetDkAB w (if DkOk d then (doV d ⟨k,t,n⟩).1.now else []) (if DkOk d then (doV d ⟨k,t,n⟩).1.past else []) (decide (DkOk d) && (doV d ⟨k,t,n⟩).2)):=by
 obtain ⟨p,pp⟩:=d
 have hle:=h2.le
 have i1:isCell u1=true:=Qe h1
 have i2:isCell u2=true:=Qe h2
 simp only at h1 h2 hle
 refine Sm Tryz.func37 Z Tryz.results37 Tryz.ntmps37 Z Kt Km ?_
 by_cases hd:DkOk ⟨p,pp⟩
 ·have k0 : ∀ w,ESl Ints w u1 p→ESl (ESl Ints) w u2 pp→Does Tryz.prog 16 [.agg #[u1,u2]] w (Ret w (.bool true)):=fun w h1 h2=>by
   have:=Rc w u1 u2 ⟨p,pp⟩ h1 h2;rwa [decide_eq_true hd] at this
  have hpp:Pic p:=hd.1.1
  have hppl:pp.length≤8:=hd.2.1
  have hb1:p.length≤100∧∀ r ∈ p,r.length≤100:=⟨by have:=hpp.2.1;omega,fun r hr=>by rw [(hpp.2.2 r hr).1];have:=hpp.2.1;omega⟩
  have hb2 : ∀ q ∈ pp,q.length≤100∧∀ r ∈ q,r.length≤100:=fun q hq=>by
   have hq:=(hd.2.2 q hq).1
   exact ⟨by have:=hq.2.1;omega,fun r hr=>by rw [(hq.2.2 r hr).1];have:=hq.2.1;omega⟩
  have k1 : ∀ w,ESl Ints w u1 p→ESl (ESl Ints) w u2 pp→Does Tryz.prog 60 [.agg #[u1,u2]] w (RetDk w 23 88 3 p pp):=fun w h1 h2=>l11Copy_ok w u1 u2 p pp h1 h2 hb1 Ka hb2
  rw [if_pos hd,if_pos hd,decide_eq_true hd,Bool.true_and]
  by_cases hb:isBack ⟨p,pp⟩ ⟨k,t,n⟩
  ·obtain ⟨e,hne⟩:=hb
   cases e
   have hpl:0 < pp.length:=List.length_pos_iff.2 hne
   have hdo:doV ⟨p,pp⟩ ⟨4,[],0⟩=(⟨pp.getLastD [],pp.dropLast⟩,true):=by unfold doV;rw [if_pos ⟨rfl,hne⟩]
   rw [hdo]
   simp only
   have stop6:True:=trivial
   focus
    refine Zu<|Yx Z Z Z ?_;rintro b1 w1 hb3 E1 hB1;have hlb1:=hB1.lt;have hs1:=E1.size;refine Yx Z Z Z ?_;rintro b2 w2 hb4 E2 hB2;have hlb2:=hB2.lt;refine Yn Z Xj ?_;rintro b3 w3 hb5 E3 hB3;have hlb3:=hB3.lt;refine Vd Z<|Zs<|Zw<|Zw<|Vq<|Xk Kt Km (hB1.ext exq) Z<|Zv Z (Yl (a:=.agg _) Jw Z) (k0 _ ((Mono.mono exq h1)) ((Mono.mono exq h2))) ?_;rintro _ w4 ⟨rfl,E4⟩;have hs4:=E4.size;refine Xd Z<|Zs<|Xn Z fun h3=>?_;refine Zz<|Zu<|Xk Kt Km (hB1.ext exq) Z<|Zv Z (Yl (a:=.agg _) Gl Z) (k1 _ ((Mono.mono exq h1)) ((Mono.mono exq h2))) ?_;rintro _ w5 ⟨u3,q1,m1,rfl,E5,hO1,hQ1,hm1,hn1⟩;have icu3:=OwnedB.isC hO1;have icq1:=OwnedB.isC (Owned.toB hQ1)
    have cpq1:=OwnedB.capOk (Owned.toB hQ1);have hs5:=E5.size;refine Yn Z Xj ?_;rintro b4 w6 hb6 E6 hB4;refine Xz Z Km Z Z Ke Ke hB4 Ka (((((E1.trans E2).trans E3).trans E4).trans E5).trans E6) ?_;rintro w7 E7 hB4 K1 hz1;have E8:=((((E2.trans E3).trans E4).trans E5).trans E6).wroteAt exq E7 K1 hz1 Ka;have szE8:=E8.size;have E9:=(((E3.trans E4).trans E5).trans E6).wroteAt exq E7 K1 hz1 Ka;have E10:=((E4.trans E5).trans E6).wroteAt exq E7 K1 hz1 Ka;have E11:=(E5.trans E6).wroteAt exq E7 K1 hz1 Ka;have E12:=E6.wroteAt exq E7 K1 hz1 Ka;have hB1:=(hB1.ext exq).of_heap (K1 _ Ka);have hB2:=(hB2.ext exq).of_heap (K1 _ Ka);have hB3:=(hB3.ext exq).of_heap (K1 _ Ka);have hO1:=(hO1.ext E6).wrote K1 Ka
    have hQ1:=(hQ1.toB.ext E6).wrote K1 Ka;refine Zs<|Zw<|Zu<|Qn Je Kv hB2 Z<|Wo Z (Vx (ps:=[(0,.int _ _)]) (cs:=[_,_,_]) Ys Z Z)<|Wo Z (St Z Z)<|Ym Z (fun h4=>?_) (fun h4=>?_);refine Vo Kw Jd Z<|Yz u2 Jg hB1 Z<|Vv Jf Z h2<|Ut Z<|Xb Z<|Zs<|Zx Z (fun h5=>?_) (fun h5=>?_);refine Zu<|Vo Kw Jd Z<|Yz q1 Jg hB4 Z<|Vv Jf Z (OwnedB.read hQ1)<|Rh Z<|Yb Z<|Zs<|Zw ?_;rotate_left;(exfalso;omega);contradiction
   clear stop6
   obtain ⟨qb,qc,ur,rfl,hqc,hcl,hel,hqb,hqb2,icr⟩:=hQ1.elem (i:=pp.length - 1) Ka
   have hcl:w7.cell? ⟨qb,0+((pp.length:Int) - 1).toNat,none⟩=some ur:=by rw [Nat.zero_add,show ((pp.length:Int) - 1).toNat=pp.length - 1 by omega];exact hcl
   focus
    have szE7:=E7.size;refine Vq<|Vo Kw Jd Z<|Qk Jg hB4 Z<|Vc Z<|Wo Z (Ux Jf Ja Z Z Ka) ?_;refine Wo Z (Yg Kx Z Kd) ?_;refine Vo Kw Ja Z<|Xp (v:=ur) Z Ja Z Z (OwnedB.isC hel) hB4 Ki Ka E7 ?_;rintro w8 E13 hB4 K2 hz2;have E14:=E8.wroteAt E7 E13 K2 hz2 Ka;have E15:=E9.wroteAt E7 E13 K2 hz2 Ka;simp only [List.set] at hB4;have hB3:=hB3.of_heap (K2 _ Ka);have hQ1:=hQ1.wrote K2 Ka;have hel:=hel.wrote K2 Ka;refine Zs<|Zw<|Vq<|Vo Kw Jd Z<|Qk Jg hB4 Z<|Vc Z<|Wo Z (Rr Jf Ja Z Z Ka) ?_
    refine Vo Kw Jd Z<|Xp (v:=.slice _ _ _) Z Jd Z Z Z hB4 Ki Ka E13 ?_;rintro w9 E19 hB4 K3 hz3;simp only [List.set] at hB4;have hB3:=hB3.of_heap (K3 _ Ka);have hQ1:=hQ1.wrote K3 Ka;have hel:=hel.wrote K3 Ka;refine Zs<|Zu<|Xk Kt Km hB4 Z<|Uc Km hB3 Z E19 ?_;rintro w10 E25 hB3 K4 hz4;have hQ1:=hQ1.wrote K4 Ka;have hel:=hel.wrote K4 Ka;refine Vd Z<|Zs<|Vb ?_
   have hlast:pp.getLastD []=pp[pp.length - 1]:=by rw [List.getLastD_eq_getLast?,List.getLast?_eq_getElem?,List.getElem?_eq_getElem Ka];rfl
   rw [hlast,List.dropLast_eq_take]
   refine ⟨b3,ur,_,Z,hB3,ur,_,Z,E25,hel.above.mono Ka,?_,icr,Z,Ka⟩
   rw [show ((pp.length:Int) - 1).toNat=pp.length - 1 by omega]
   exact (hQ1.above.mono Ka).takeS Ka
  ·have hdo:doV ⟨p,pp⟩ ⟨k,t,n⟩=match nextV p ⟨k,t,n⟩ with
    | some c=>(⟨c,last8 (pp++[p])⟩,true)
    | none=>(⟨p,pp⟩,false):=by unfold doV;rw [if_neg hb];rfl
   rw [hdo]
   have hback:(⟨k,t,n⟩:Deed)=⟨4,[],0⟩→pp.length=0:=fun e=>Classical.byContradiction fun h=>hb ⟨e,fun h'=>h (by rw [show pp=[] from h'];rfl)⟩
   have k2 : ∀ w,ESl Ints w u1 p→Does Tryz.prog 93 [u1,.agg #[.int .i64 k,str t,.int .i64 n]] w (RetOB w XR (og (madeV p ⟨k,t,n⟩)) (madeV p ⟨k,t,n⟩).isSome):=fun w h=>l11Made_ok w u1 p h hpp k n t ht
   have litown:True:=trivial
   by_cases ha:(⟨k,t,n⟩:Deed)=⟨4,[],0⟩
   ·have hpl0:=hback ha
    cases ha
    have hmv:madeV p ⟨4,[],0⟩=none:=by simp [madeV]
    have hnx:nextV p ⟨4,[],0⟩=none:=by unfold nextV;rw [hmv]
    rw [hmv,show og none=[] from rfl,show (none:Option (List (List Int))).isSome=false from rfl] at k2
    rw [hnx]
    simp only
    focus
     refine Zu<|Yx Z Z Z ?_;rintro b1 w1 hb3 E1 hB1;have hlb1:=hB1.lt;refine Yx Z Z Z ?_;rintro b2 w2 hb4 E2 hB2;have hlb2:=hB2.lt;refine Yn Z Xj ?_;rintro b3 w3 hb5 E3 hB3;have hlb3:=hB3.lt;refine Vd Z<|Zs<|Zw<|Zw<|Vq<|Xk Kt Km (hB1.ext exq) Z<|Zv Z (Yl (a:=.agg _) Jw Z) (k0 _ ((Mono.mono exq h1)) ((Mono.mono exq h2))) ?_;rintro _ w4 ⟨rfl,E4⟩;have hs4:=E4.size;refine Xd Z<|Zs<|Xn Z fun h3=>?_;refine Zz<|Zu<|Xk Kt Km (hB1.ext exq) Z<|Zv Z (Yl (a:=.agg _) Gl Z) (k1 _ ((Mono.mono exq h1)) ((Mono.mono exq h2))) ?_;rintro _ w5 ⟨u3,q1,m1,rfl,E5,hO1,hQ1,hm1,hn1⟩;have icu3:=OwnedB.isC hO1;have icq1:=OwnedB.isC (Owned.toB hQ1);have hs5:=E5.size
     refine Yn Z Xj ?_;rintro b4 w6 hb6 E6 hB4;refine Xz Z Km Z Z Ke Ke hB4 Ka (((((E1.trans E2).trans E3).trans E4).trans E5).trans E6) ?_;rintro w7 E7 hB4 K1 hz1;have E8:=((((E2.trans E3).trans E4).trans E5).trans E6).wroteAt exq E7 K1 hz1 Ka;have hB1:=(hB1.ext exq).of_heap (K1 _ Ka);have hB2:=(hB2.ext exq).of_heap (K1 _ Ka);have hB3:=(hB3.ext exq).of_heap (K1 _ Ka);have hO1:=(hO1.ext E6).wrote K1 Ka;have hQ1:=(hQ1.toB.ext E6).wrote K1 Ka;refine Zs<|Zw<|Zu<|Qn Je Kv hB2 Z<|Wo Z (Vx (ps:=[(0,.int _ _)]) (cs:=[_,_,_]) Ys Z Z)<|Wo Z (St Z Z)<|Ym Z (fun h4=>?_) (fun h4=>?_)
     refine Vo Kw Jd Z<|Yz u2 Jg hB1 Z<|Vv Jf Z h2<|Ut Z<|Xb Z<|Zs<|Zy Z fun h5=>?_;refine Zz<|Zw<|Vq<|Vo Kw Ja Z<|Yz u1 Kx hB1 Z<|Qn Je Kv hB2 Z<|Zv Z (Yd (a:=u1) (b:=.agg _) Ze Z Z) (k2 _ ((Mono.mono E7 h1))) ?_;rintro _ w8 ⟨u4,rfl,E13,hO2⟩;refine Xx Z<|Qh u4 Z<|Uf Z<|Xg u4 Z<|Vd Z<|Zs<|Zw<|Zw<|Ul Xy Kb Z ?_;refine Sh Z<|Nr Z<|Rw Z (fun _ _=>Yh (v:=.bool _) Z) (fun h6=>?_) (fun h6=>?_)
     refine Vg Z<|Vg Z<|Vg Z<|Vg Z<|Vg Z<|Vg Z<|Vg Z<|Vg Z<|Vg Z<|Vg Z<|Vg Z<|Vg Z<|Vg Z<|Vg Z<|Ni Z<|Ud (fun w9 E14=>?_);refine Yi Z ?_;refine Zu<|Xk Kt Km (hB4.ext exq) Z<|Uc Km (hB3.ext (E13.trans E14)) Z ((E7.trans E13).trans E14) ?_;rintro w10 E15 hB3 K2 hz2;have E16:=((E8.trans E13).trans E14).wroteAt exq E15 K2 hz2 Ka;have szE16:=E16.size;have hO1:=(hO1.ext exq).wrote K2 Ka;have hQ1:=(hQ1.ext exq).wrote K2 Ka;refine Vd Z<|Zs<|Vb ?_;rotate_left;contradiction;contradiction
    exact ⟨b3,u3,q1,rfl,hB3,u3,q1,rfl,by exact E15,hO1.above.mono Ka,hQ1.above.mono Ka,icu3,icq1,Ka⟩
   ·cases hmv:madeV p ⟨k,t,n⟩ with
    | none =>
      have hnx : nextV p ⟨k, t, n⟩ = none := by unfold nextV; rw [hmv]
      rw [hmv, show og none = [] from rfl, show (none : Option (List (List Int))).isSome = false from rfl] at k2
      rw [hnx]
      simp only
      focus
        refine Zu<|Yx Z Z Z ?_; rintro b1 w1 hb3 E1 hB1; have hlb1 := hB1.lt; refine Yx Z Z Z ?_; rintro b2 w2 hb4 E2 hB2; have hlb2 := hB2.lt; refine Yn Z Xj ?_; rintro b3 w3 hb5 E3 hB3; have hlb3 := hB3.lt; refine Vd Z<|Zs<|Zw<|Zw<|Vq<|Xk Kt Km (hB1.ext exq) Z<|Zv Z (Yl (a := .agg _) Jw Z) (k0 _ ((Mono.mono exq h1)) ((Mono.mono exq h2))) ?_; rintro _ w4 ⟨rfl, E4⟩; have hs4 := E4.size; refine Xd Z<|Zs<|Xn Z fun h3 => ?_; refine Zz<|Zu<|Xk Kt Km (hB1.ext exq) Z<|Zv Z (Yl (a := .agg _) Gl Z) (k1 _ ((Mono.mono exq h1)) ((Mono.mono exq h2))) ?_; rintro _ w5 ⟨u3, q1, m1, rfl, E5, hO1, hQ1, hm1, hn1⟩; have icu3 := OwnedB.isC hO1; have icq1 := OwnedB.isC (Owned.toB hQ1); have hs5 := E5.size
        refine Yn Z Xj ?_; rintro b4 w6 hb6 E6 hB4; refine Xz Z Km Z Z Ke Ke hB4 Ka (((((E1.trans E2).trans E3).trans E4).trans E5).trans E6) ?_; rintro w7 E7 hB4 K1 hz1; have E8 := ((((E2.trans E3).trans E4).trans E5).trans E6).wroteAt exq E7 K1 hz1 Ka; have hB1 := (hB1.ext exq).of_heap (K1 _ Ka); have hB2 := (hB2.ext exq).of_heap (K1 _ Ka); have hB3 := (hB3.ext exq).of_heap (K1 _ Ka); have hO1 := (hO1.ext E6).wrote K1 Ka; have hQ1 := (hQ1.toB.ext E6).wrote K1 Ka; refine Zs<|Zw<|Zu<|Qn Je Kv hB2 Z<|Wo Z (Vx (ps := [(0, .int _ _)]) (cs := [_, _, _]) Ys Z Z)<|Wo Z (St Z Z)<|Xl Z fun h4 => ?_
        refine Zt Z<|Zt Z<|Zt Z<|Zt Z<|Ye Z<|Zs<|Va Z ?_; refine Zz<|Zw<|Vq<|Vo Kw Ja Z<|Yz u1 Kx hB1 Z<|Qn Je Kv hB2 Z<|Zv Z (Yd (a := u1) (b := .agg _) Ze Z Z) (k2 _ ((Mono.mono E7 h1))) ?_; rintro _ w8 ⟨u4, rfl, E13, hO2⟩; refine Xx Z<|Qh u4 Z<|Uf Z<|Xg u4 Z<|Vd Z<|Zs<|Zw<|Zw<|Ul Xy Kb Z ?_; refine Sh Z<|Nr Z<|Rw Z (fun _ _ => Yh (v := .bool _) Z) (fun h5 => ?_) (fun h5 => ?_); refine Vg Z<|Vg Z<|Vg Z<|Vg Z<|Vg Z<|Vg Z<|Vg Z<|Vg Z<|Vg Z<|Vg Z<|Vg Z<|Vg Z<|Vg Z<|Vg Z<|Ni Z<|Ud (fun w9 E14 => ?_)
        refine Yi Z ?_; refine Zu<|Xk Kt Km (hB4.ext exq) Z<|Uc Km (hB3.ext (E13.trans E14)) Z ((E7.trans E13).trans E14) ?_; rintro w10 E15 hB3 K2 hz2; have E16 := ((E8.trans E13).trans E14).wroteAt exq E15 K2 hz2 Ka; have szE16 := E16.size; have hO1 := (hO1.ext exq).wrote K2 Ka; have hQ1 := (hQ1.ext exq).wrote K2 Ka; refine Vd Z<|Zs<|Vb ?_; rotate_left; contradiction
      exact ⟨b3, u3, q1, rfl, hB3, u3, q1, rfl, by exact E15, hO1.above.mono Ka, hQ1.above.mono Ka, icu3, icq1, Ka⟩
    | some c =>
      rw [hmv, show og (some c) = c from rfl, show (some c).isSome = true from rfl] at k2
      have hc : LeastP c := Nw hpp hmv
      have hcp := hc.1
      have k3 : ∀ (w : World) (v : Value), ESl Ints w v c → Does Tryz.prog 62 [v] w (Ret w (str (txt c))) := fun w v h => by
        have := Ur w v _ h
        rwa [if_pos hcp] at this
      by_cases hcq : c = p
      · subst hcq
        have hnx : nextV c ⟨k, t, n⟩ = none := by unfold nextV; rw [hmv]; simp
        rw [hnx]
        simp only
        focus
          refine Zu<|Yx Z Z Z ?_; rintro b1 w1 hb3 E1 hB1; have hlb1 := hB1.lt; refine Yx Z Z Z ?_; rintro b2 w2 hb4 E2 hB2; have hlb2 := hB2.lt; refine Yn Z Xj ?_; rintro b3 w3 hb5 E3 hB3; have hlb3 := hB3.lt; refine Vd Z<|Zs<|Zw<|Zw<|Vq<|Xk Kt Km (hB1.ext exq) Z<|Zv Z (Yl (a := .agg _) Jw Z) (k0 _ ((Mono.mono exq h1)) ((Mono.mono exq h2))) ?_; rintro _ w4 ⟨rfl, E4⟩; have hs4 := E4.size; refine Xd Z<|Zs<|Xn Z fun h3 => ?_; refine Zz<|Zu<|Xk Kt Km (hB1.ext exq) Z<|Zv Z (Yl (a := .agg _) Gl Z) (k1 _ ((Mono.mono exq h1)) ((Mono.mono exq h2))) ?_; rintro _ w5 ⟨u3, q1, m1, rfl, E5, hO1, hQ1, hm1, hn1⟩; have icu3 := OwnedB.isC hO1; have icq1 := OwnedB.isC (Owned.toB hQ1); have hs5 := E5.size
          refine Yn Z Xj ?_; rintro b4 w6 hb6 E6 hB4; refine Xz Z Km Z Z Ke Ke hB4 Ka (((((E1.trans E2).trans E3).trans E4).trans E5).trans E6) ?_; rintro w7 E7 hB4 K1 hz1; have E8 := ((((E2.trans E3).trans E4).trans E5).trans E6).wroteAt exq E7 K1 hz1 Ka; have hB1 := (hB1.ext exq).of_heap (K1 _ Ka); have hB2 := (hB2.ext exq).of_heap (K1 _ Ka); have hB3 := (hB3.ext exq).of_heap (K1 _ Ka); have hO1 := (hO1.ext E6).wrote K1 Ka; have hQ1 := (hQ1.toB.ext E6).wrote K1 Ka; refine Zs<|Zw<|Zu<|Qn Je Kv hB2 Z<|Wo Z (Vx (ps := [(0, .int _ _)]) (cs := [_, _, _]) Ys Z Z)<|Wo Z (St Z Z)<|Xl Z fun h4 => ?_
          refine Zt Z<|Zt Z<|Zt Z<|Zt Z<|Ye Z<|Zs<|Va Z ?_; refine Zz<|Zw<|Vq<|Vo Kw Ja Z<|Yz u1 Kx hB1 Z<|Qn Je Kv hB2 Z<|Zv Z (Yd (a := u1) (b := .agg _) Ze Z Z) (k2 _ ((Mono.mono E7 h1))) ?_; rintro _ w8 ⟨u4, rfl, E13, hO2⟩; refine Xx Z<|Qh u4 Z<|Uf Z<|Xg u4 Z<|Vd Z<|Zs<|Zw<|Zw<|Ul Xy Kb Z ?_; refine Sh Z<|Nr Z<|Rw Z (fun _ _ => Yh (v := .bool _) Z) (fun h5 => ?_) (fun h5 => ?_); contradiction; refine Rg u4 Z<|Xt Z (fun _ _ => Qt Kp Z (Owned.read hO2)) ?_
          refine Qc Kw Ja Z<|Xt (v := u1) Z (fun w' hw' => Yg Kx Z (((hB1.ext E13).ext hw').cell Z)) ?_; refine Xt Z (fun _ _ => Qt Kp Z h1) ?_; refine Ry Z<|Qm Z (fun h6 => ?_) (fun h6 => ?_); refine Rg u4 Z<|Qg Z (fun _ _ => Yl (a := u4) Jl Z) (fun w' hw' => (k3 _ _ ((Mono.mono hw' (Owned.read hO2))))) ?_; refine Qc Kw Ja Z<|Xt (v := u1) Z (fun w' hw' => Yg Kx Z (((hB1.ext E13).ext hw').cell Z)) ?_; refine Qg Z (fun _ _ => Yl (a := u1) Jl Z) (fun w' hw' => (k3 _ _ ((Mono.mono exq h1)))) ?_; refine Xt Z (fun _ _ => Vl Z Z) ?_; refine Ni Z<|Rq Z<|Ud (fun w9 E14 => ?_); refine Zx Z (fun h7 => ?_) (fun h7 => ?_)
          refine Zu<|Xk Kt Km (hB4.ext exq) Z<|Uc Km (hB3.ext (E13.trans E14)) Z ((E7.trans E13).trans E14) ?_; rintro w10 E15 hB3 K2 hz2; have E16 := ((E8.trans E13).trans E14).wroteAt exq E15 K2 hz2 Ka; have szE16 := E16.size; have hO1 := (hO1.ext exq).wrote K2 Ka; have hQ1 := (hQ1.ext exq).wrote K2 Ka; refine Vd Z<|Zs<|Vb ?_; rotate_left; contradiction; contradiction
        exact ⟨b3, u3, q1, rfl, hB3, u3, q1, rfl, by exact E15, hO1.above.mono Ka, hQ1.above.mono Ka, icu3, icq1, Ka⟩
      · have hnx : nextV p ⟨k, t, n⟩ = some c := by unfold nextV; rw [hmv]; simp [hcq]
        rw [hnx]
        simp only
        have k4 : ∀ (w : World) (v : Value), ESl Ints w v p → Does Tryz.prog 62 [v] w (Ret w (str (txt p))) := fun w v h => by
          have := Ur w v _ h
          rwa [if_pos hpp] at this
        have htx : txt c ≠ txt p := fun e => hcq (txt_inj hcp.gr hpp.gr e)
        have stop12 : True := trivial
        focus
          refine Zu<|Yx Z Z Z ?_; rintro b1 w1 hb3 E1 hB1; have hlb1 := hB1.lt; have hs1 := E1.size; refine Yx Z Z Z ?_; rintro b2 w2 hb4 E2 hB2; have hlb2 := hB2.lt; refine Yn Z Xj ?_; rintro b3 w3 hb5 E3 hB3; have hlb3 := hB3.lt; refine Vd Z<|Zs<|Zw<|Zw<|Vq<|Xk Kt Km (hB1.ext exq) Z<|Zv Z (Yl (a := .agg _) Jw Z) (k0 _ ((Mono.mono exq h1)) ((Mono.mono exq h2))) ?_; rintro _ w4 ⟨rfl, E4⟩; have hs4 := E4.size; refine Xd Z<|Zs<|Xn Z fun h3 => ?_; refine Zz<|Zu<|Xk Kt Km (hB1.ext exq) Z<|Zv Z (Yl (a := .agg _) Gl Z) (k1 _ ((Mono.mono exq h1)) ((Mono.mono exq h2))) ?_; rintro _ w5 ⟨u3, q1, m1, rfl, E5, hO1, hQ1, hm1, hn1⟩; have icu3 := OwnedB.isC hO1; have icq1 := OwnedB.isC (Owned.toB hQ1); have hs5 := E5.size
          refine Yn Z Xj ?_; rintro b4 w6 hb6 E6 hB4; have hlb4 := hB4.lt; have hs6 := E6.size; refine Xz Z Km Z Z Ke Ke hB4 Ka (((((E1.trans E2).trans E3).trans E4).trans E5).trans E6) ?_; rintro w7 E7 hB4 K1 hz1; have E8 := ((((E2.trans E3).trans E4).trans E5).trans E6).wroteAt exq E7 K1 hz1 Ka; have E9 := (((E3.trans E4).trans E5).trans E6).wroteAt exq E7 K1 hz1 Ka; have E10 := ((E4.trans E5).trans E6).wroteAt exq E7 K1 hz1 Ka; have E11 := (E5.trans E6).wroteAt exq E7 K1 hz1 Ka; have hB1 := (hB1.ext exq).of_heap (K1 _ Ka); have hB2 := (hB2.ext exq).of_heap (K1 _ Ka); have hB3 := (hB3.ext exq).of_heap (K1 _ Ka); have hO1 := (hO1.ext E6).wrote K1 Ka; have hQ1 := (hQ1.toB.ext E6).wrote K1 Ka
          refine Zs<|Zw<|Zu<|Qn Je Kv hB2 Z<|Wo Z (Vx (ps := [(0, .int _ _)]) (cs := [_, _, _]) Ys Z Z)<|Wo Z (St Z Z)<|Xl Z fun h4 => ?_; refine Zt Z<|Zt Z<|Zt Z<|Zt Z<|Ye Z<|Zs<|Va Z ?_; refine Zz<|Zw<|Vq<|Vo Kw Ja Z<|Yz u1 Kx hB1 Z<|Qn Je Kv hB2 Z<|Zv Z (Yd (a := u1) (b := .agg _) Ze Z Z) (k2 _ ((Mono.mono E7 h1))) ?_; rintro _ w8 ⟨u4, rfl, E13, hO2⟩; have ichO2 := OwnedB.isC (Owned.toB hO2); have hs7 := E13.size; refine Xx Z<|Qh u4 Z<|Uf Z<|Xg u4 Z<|Vd Z<|Zs<|Zw<|Zw<|Ul Xy Kb Z ?_
          refine Sh Z<|Nr Z<|Rw Z (fun _ _ => Yh (v := .bool _) Z) (fun h5 => ?_) (fun h5 => ?_); contradiction; refine Rg u4 Z<|Xt Z (fun _ _ => Qt Kp Z (Owned.read hO2)) ?_; refine Qc Kw Ja Z<|Xt (v := u1) Z (fun w' hw' => Yg Kx Z (((hB1.ext E13).ext hw').cell Z)) ?_; refine Xt Z (fun _ _ => Qt Kp Z h1) ?_; refine Ry Z<|Qm Z (fun h6 => ?_) (fun h6 => ?_); refine Rg u4 Z<|Qg Z (fun _ _ => Yl (a := u4) Jl Z) (fun w' hw' => (k3 _ _ ((Mono.mono hw' (Owned.read hO2))))) ?_; refine Qc Kw Ja Z<|Xt (v := u1) Z (fun w' hw' => Yg Kx Z (((hB1.ext E13).ext hw').cell Z)) ?_
          refine Qg Z (fun _ _ => Yl (a := u1) Jl Z) (fun w' hw' => (k4 _ _ ((Mono.mono exq h1)))) ?_; refine Xt Z (fun _ _ => Vl Z Z) ?_; refine Ni Z<|Rq Z<|Ud (fun w9 E14 => ?_); have hs8 := E14.size; refine Vw Z fun h7 => ?_; refine Zz<|Zw ?_; rotate_left; refine Vg Z<|Vg Z<|Vg Z<|Vg Z<|Vg Z<|Vg Z<|Rq Z<|Rq Z<|Ud (fun w9 E14 => ?_); have hs8 := E14.size; refine Va Z ?_; refine Zz<|Zw ?_; rotate_left
        · clear stop12
          have stop13 : True := trivial
          have hQ0 := hQ1
          focus
            refine Vq<|Vo Kw Jd Z<|Yz q1 Jg (hB4.ext exq) Z<|Vo Kw Ja Z<|Yz u3 Kx (hB4.ext exq) Z<|Ui Z Jf Ja Gf Z (OwnedB.isC (hO1.ext exq)) Z ?_; rintro b5 w10 hb7 E15 hB5 hHb5; have hs9 := E15.size; refine Wo_app1r Z el24 Z Z hB5 (hQ0.ext ((E13.trans E14).trans E15)) (hO1.ext ((E13.trans E14).trans E15)) Kf Ka Ka (((E7.trans E13).trans E14).trans E15) Ka ?_; have hT1 := (hQ0.ext ((E13.trans E14).trans E15)); rintro v1 w11 hQ0 E16 M1; have E17 := M1.ext hT1 (((E8.trans E13).trans E14).trans E15) Ka; have szE17 := E17.size; have E18 := M1.ext hT1 (((E9.trans E13).trans E14).trans E15) Ka; have E19 := M1.ext hT1 (((E10.trans E13).trans E14).trans E15) Ka
            have E20 := M1.ext hT1 (((E11.trans E13).trans E14).trans E15) Ka; have hB4 := (hB4.ext exq).moves M1 hT1 Ka; have hB1 := (hB1.ext exq).moves M1 hT1 Ka; have hB2 := (hB2.ext exq).moves M1 hT1 Ka; have hB3 := (hB3.ext exq).moves M1 hT1 Ka; have hO1 := (hO1.ext exq).moves M1 hT1 Ka; have hO2 := (hO2.toB.ext exq).moves M1 hT1 Ka; have hB5 := hB5.moves M1 hT1 Ka; have hs10 := E16.size; have icv1 := OwnedB.isC (Owned.toB hQ0); refine Vo Kw Jd Z<|Xp (v := v1) Z Jd Z Z (OwnedB.isC hQ0.toB) hB4 Ki Ka E16 ?_; rintro w12 E21 hB4 K2 hz2; have E22 := E17.wroteAt E16 E21 K2 hz2 Ka; have E23 := E18.wroteAt E16 E21 K2 hz2 Ka; have E24 := E19.wroteAt E16 E21 K2 hz2 Ka; have E25 := E20.wroteAt E16 E21 K2 hz2 Ka; simp only [List.set] at hB4
            have hB1 := hB1.of_heap (K2 _ Ka); have hB2 := hB2.of_heap (K2 _ Ka); have hB3 := hB3.of_heap (K2 _ Ka); have hO1 := hO1.wrote K2 Ka; have hO2 := hO2.wrote K2 Ka; have hB5 := hB5.of_heap (K2 _ Ka); refine Zs<|Zw<|Zw ?_
          clear stop13
          have hM : Moves w10 q1 w11 v1 := M1
          have hne := hM.ne hQ1 (b := b4) Ka Ka
          clear hQ1
          obtain ⟨nb, nc, rfl, hnc⟩ := hQ0.lit Ki
          have hnl : (pp ++ [p]).length = pp.length + 1 := Ki
          rw [hnl] at hB4 hQ0 hne hnc
          focus
            have szE7 := E7.size; refine Vq<|Vo Kw Jd Z<|Qk Jg hB4 Z<|Vv Jf Z (Owned.read hQ0)<|Ut Z<|Zs<|Zx Z (fun h8 => ?_) (fun h8 => ?_); refine Vq<|Vo Kw Jd Z<|Qk Jg hB4 Z<|Wo Z (Rj Jf Ja Z Z Ka) ?_; refine Vo Kw Jd Z<|Xp (v := .slice _ _ _) Z Jd Z Z Z hB4 Ki Ka E21 ?_; rintro w13 E26 hB4 K3 hz3; have E27 := E22.wroteAt E21 E26 K3 hz3 Ka; have E28 := E23.wroteAt E21 E26 K3 hz3 Ka; simp only [List.set] at hB4; have hB3 := hB3.of_heap (K3 _ Ka); have hO2 := hO2.wrote K3 Ka
            refine Zs<|Zu<|Vm u4 Z<|Vo Kw Ja Z<|Xp (v := u4) Z Ja Z Z (OwnedB.isC hO2) hB4 Ki Ka E26 ?_; rintro w14 E31 hB4 K4 hz4; simp only [List.set] at hB4; have hB3 := hB3.of_heap (K4 _ Ka); have hO2 := hO2.wrote K4 Ka; refine Zs<|Zu<|Xk Kt Km hB4 Z<|Uc Km hB3 Z E31 ?_; rintro w15 E36 hB3 K5 hz5; have hO2 := hO2.wrote K5 Ka; refine Vd Z<|Zs<|Vb ?_; rotate_left; refine Zz<|Zu<|Vm u4 Z<|Vo Kw Ja Z<|Xp (v := u4) Z Ja Z Z (OwnedB.isC hO2) hB4 Ki Ka E21 ?_; rintro w13 E26 hB4 K3 hz3; simp only [List.set] at hB4; have hB3 := hB3.of_heap (K3 _ Ka); have hO2 := hO2.wrote K3 Ka
            refine Zs<|Zu<|Xk Kt Km hB4 Z<|Uc Km hB3 Z E26 ?_; rintro w14 E31 hB3 K4 hz4; have hO2 := hO2.wrote K4 Ka; refine Vd Z<|Zs<|Vb ?_; rotate_left
          · have hQ3 := (hQ0.wroteLt (w' := w15) (fun k h1 h2 => (K5 k Ka).trans ((K4 k h2).trans ((K3 k h2).trans (K2 k h2)))) Ka hne).above.mono (show w.heap.size ≤ w4.heap.size by omega)
            refine ⟨b3, u4, _, Z, hB3, u4, _, Z, by exact E36, hO2.above.mono Ka, ?_, Kd, Z, Ka⟩
            rw [show last8 (pp ++ [p]) = (pp ++ [p]).drop 1 from if_pos Ka]
            exact hQ3.dropS Ka
          · have hQ3 := (hQ0.wroteLt (w' := w14) (fun k h1 h2 => (K4 k Ka).trans ((K3 k h2).trans (K2 k h2))) Ka hne).above.mono (show w.heap.size ≤ w4.heap.size by omega)
            refine ⟨b3, u4, _, Z, hB3, u4, _, Z, by exact E31, hO2.above.mono Ka, ?_, Kd, Z, Ka⟩
            rw [show last8 (pp ++ [p]) = pp ++ [p] from if_neg Ka]
            exact hQ3
        · clear stop12
          have stop13 : True := trivial
          have hQ0 := hQ1
          focus
            refine Vq<|Vo Kw Jd Z<|Yz q1 Jg (hB4.ext exq) Z<|Vo Kw Ja Z<|Yz u3 Kx (hB4.ext exq) Z<|Ui Z Jf Ja Gf Z (OwnedB.isC (hO1.ext exq)) Z ?_; rintro b5 w10 hb7 E15 hB5 hHb5; have hs9 := E15.size; refine Wo_app1r Z el24 Z Z hB5 (hQ0.ext ((E13.trans E14).trans E15)) (hO1.ext ((E13.trans E14).trans E15)) Kf Ka Ka (((E7.trans E13).trans E14).trans E15) Ka ?_; have hT1 := (hQ0.ext ((E13.trans E14).trans E15)); rintro v1 w11 hQ0 E16 M1; have E17 := M1.ext hT1 (((E8.trans E13).trans E14).trans E15) Ka; have szE17 := E17.size; have E18 := M1.ext hT1 (((E9.trans E13).trans E14).trans E15) Ka; have E19 := M1.ext hT1 (((E10.trans E13).trans E14).trans E15) Ka
            have E20 := M1.ext hT1 (((E11.trans E13).trans E14).trans E15) Ka; have hB4 := (hB4.ext exq).moves M1 hT1 Ka; have hB1 := (hB1.ext exq).moves M1 hT1 Ka; have hB2 := (hB2.ext exq).moves M1 hT1 Ka; have hB3 := (hB3.ext exq).moves M1 hT1 Ka; have hO1 := (hO1.ext exq).moves M1 hT1 Ka; have hO2 := (hO2.toB.ext exq).moves M1 hT1 Ka; have hB5 := hB5.moves M1 hT1 Ka; have hs10 := E16.size; have icv1 := OwnedB.isC (Owned.toB hQ0); refine Vo Kw Jd Z<|Xp (v := v1) Z Jd Z Z (OwnedB.isC hQ0.toB) hB4 Ki Ka E16 ?_; rintro w12 E21 hB4 K2 hz2; have E22 := E17.wroteAt E16 E21 K2 hz2 Ka; have E23 := E18.wroteAt E16 E21 K2 hz2 Ka; have E24 := E19.wroteAt E16 E21 K2 hz2 Ka; have E25 := E20.wroteAt E16 E21 K2 hz2 Ka; simp only [List.set] at hB4
            have hB1 := hB1.of_heap (K2 _ Ka); have hB2 := hB2.of_heap (K2 _ Ka); have hB3 := hB3.of_heap (K2 _ Ka); have hO1 := hO1.wrote K2 Ka; have hO2 := hO2.wrote K2 Ka; have hB5 := hB5.of_heap (K2 _ Ka); refine Zs<|Zw<|Zw ?_
          clear stop13
          have hM : Moves w10 q1 w11 v1 := M1
          have hne := hM.ne hQ1 (b := b4) Ka Ka
          clear hQ1
          obtain ⟨nb, nc, rfl, hnc⟩ := hQ0.lit Ki
          have hnl : (pp ++ [p]).length = pp.length + 1 := Ki
          rw [hnl] at hB4 hQ0 hne hnc
          focus
            have szE7 := E7.size; refine Vq<|Vo Kw Jd Z<|Qk Jg hB4 Z<|Vv Jf Z (Owned.read hQ0)<|Ut Z<|Zs<|Zx Z (fun h7 => ?_) (fun h7 => ?_); refine Vq<|Vo Kw Jd Z<|Qk Jg hB4 Z<|Wo Z (Rj Jf Ja Z Z Ka) ?_; refine Vo Kw Jd Z<|Xp (v := .slice _ _ _) Z Jd Z Z Z hB4 Ki Ka E21 ?_; rintro w13 E26 hB4 K3 hz3; have E27 := E22.wroteAt E21 E26 K3 hz3 Ka; have E28 := E23.wroteAt E21 E26 K3 hz3 Ka; simp only [List.set] at hB4; have hB3 := hB3.of_heap (K3 _ Ka); have hO2 := hO2.wrote K3 Ka
            refine Zs<|Zu<|Vm u4 Z<|Vo Kw Ja Z<|Xp (v := u4) Z Ja Z Z (OwnedB.isC hO2) hB4 Ki Ka E26 ?_; rintro w14 E31 hB4 K4 hz4; simp only [List.set] at hB4; have hB3 := hB3.of_heap (K4 _ Ka); have hO2 := hO2.wrote K4 Ka; refine Zs<|Zu<|Xk Kt Km hB4 Z<|Uc Km hB3 Z E31 ?_; rintro w15 E36 hB3 K5 hz5; have hO2 := hO2.wrote K5 Ka; refine Vd Z<|Zs<|Vb ?_; rotate_left; refine Zz<|Zu<|Vm u4 Z<|Vo Kw Ja Z<|Xp (v := u4) Z Ja Z Z (OwnedB.isC hO2) hB4 Ki Ka E21 ?_; rintro w13 E26 hB4 K3 hz3; simp only [List.set] at hB4; have hB3 := hB3.of_heap (K3 _ Ka); have hO2 := hO2.wrote K3 Ka
            refine Zs<|Zu<|Xk Kt Km hB4 Z<|Uc Km hB3 Z E26 ?_; rintro w14 E31 hB3 K4 hz4; have hO2 := hO2.wrote K4 Ka; refine Vd Z<|Zs<|Vb ?_; rotate_left
          · have hQ3 := (hQ0.wroteLt (w' := w15) (fun k h1 h2 => (K5 k Ka).trans ((K4 k h2).trans ((K3 k h2).trans (K2 k h2)))) Ka hne).above.mono (show w.heap.size ≤ w4.heap.size by omega)
            refine ⟨b3, u4, _, Z, hB3, u4, _, Z, by exact E36, hO2.above.mono Ka, ?_, Kd, Z, Ka⟩
            rw [show last8 (pp ++ [p]) = (pp ++ [p]).drop 1 from if_pos Ka]
            exact hQ3.dropS Ka
          · have hQ3 := (hQ0.wroteLt (w' := w14) (fun k h1 h2 => (K4 k Ka).trans ((K3 k h2).trans (K2 k h2))) Ka hne).above.mono (show w.heap.size ≤ w4.heap.size by omega)
            refine ⟨b3, u4, _, Z, hB3, u4, _, Z, by exact E31, hO2.above.mono Ka, ?_, Kd, Z, Ka⟩
            rw [show last8 (pp ++ [p]) = pp ++ [p] from if_neg Ka]
            exact hQ3
 ·have k0 : ∀ w,ESl Ints w u1 p→ESl (ESl Ints) w u2 pp→Does Tryz.prog 16 [.agg #[u1,u2]] w (Ret w (.bool false)):=fun w h1 h2=>by
   have:=Rc w u1 u2 ⟨p,pp⟩ h1 h2;rwa [decide_eq_false hd] at this
  rw [if_neg hd,if_neg hd,decide_eq_false hd,Bool.false_and]
  focus
   refine Zu<|Yx Z Z Z ?_;rintro b1 w1 hb1 E1 hB1;have hlb1:=hB1.lt;refine Yx Z Z Z ?_;rintro b2 w2 hb2 E2 hB2;have hlb2:=hB2.lt;refine Yn Z Xj ?_;rintro b3 w3 hb3 E3 hB3;refine Vd Z<|Zs<|Zw<|Zw<|Vq<|Xk Kt Km (hB1.ext exq) Z<|Zv Z (Yl (a:=.agg _) Jw Z) (k0 _ ((Mono.mono exq h1)) ((Mono.mono exq h2))) ?_;rintro _ w4 ⟨rfl,E4⟩;refine Xd Z<|Zs<|Xr Z (fun h3=>?_) (fun h3=>?_);refine Zu<|Wo Z (Vx (ps:=[]) (cs:=[_,_]) Xj Z Z)<|Xz Z Km Z Z Ke Ke (hB3.ext E4) Ka (((E1.trans E2).trans E3).trans E4) ?_;rintro w5 E5 hB3 K1 hz1;have E6:=((E2.trans E3).trans E4).wroteAt exq E5 K1 hz1 Ka;have szE6:=E6.size
   refine Vd Z<|Zs<|Vb ?_;rotate_left;contradiction
  exact ⟨b3,_,_,rfl,hB3,_,_,rfl,by exact E5,(Owned.nil (e:=0) (X:=XSl 0 XInt)).above,(Owned.nil (e:=0) (X:=XSl 0 (XSl 0 XInt))).above,rfl,rfl,Ka⟩
open Go.Lib (decDigits)
theorem enc_no (f:Fm):(32:UInt8) ∉ f.enc:=by
 induction f <;> simp_all [Fm.enc]
theorem ask2_no {p:List (List Int)} {a r:List UInt8} (h:(32:UInt8) ∈ r):ask2 p a r=[119,104,97,116]:=by
 have h1:okF r=false:=by
  unfold okF
  cases hf:theF r with
  | none=>rfl
  | some f=>have:=(theF_some.1 hf).1;subst this;exact absurd h (enc_no f)
 have h2:(rdP r).isSome=false:=by
  cases hq:rdP r with
  | none=>rfl
  | some q=>have:=Sr hq;rw [← this.2] at h;exact absurd h (txt_no this.1.gr Kc)
 unfold ask2;rw [h1,h2];simp
theorem ask_words (p:List (List Int)) (s:List UInt8) :
  (∃ ps,cutB 32 s=ps∧ps.length≠2∧(if (cutF 32 s).2.2 then ask2 p (cutF 32 s).1 (cutF 32 s).2.1 else [119,104,97,116])=[119,104,97,116])
  ∨ ∃ a r,cutB 32 s=[a,r]∧r.length≤s.length∧(if (cutF 32 s).2.2 then ask2 p (cutF 32 s).1 (cutF 32 s).2.1 else [119,104,97,116])=ask2 p a r:=by
 rcases byte_ind 32 s with h | ⟨a,r,rfl,h⟩
 ·left
  exact ⟨_,rfl,by rw [Tw h];simp,by rw [cutF_no h];rfl⟩
 ·rw [cutF_at h,Nl h]
  by_cases hr:(32:UInt8) ∈ r
  ·left
   refine ⟨_,Z,?_,by rw [if_pos Z];exact ask2_no hr⟩
   have:=List.count_pos_iff.2 hr
   rw [List.length_cons,cutB_len];omega
  ·right
   exact ⟨a,r,by rw [Tw hr],by simp;omega,by rw [if_pos rfl]⟩
open Classical in
theorem spec_DeskLine_ok (w:World) (u1 u2:Value) (d:Dsk) (h1:ESl Ints w u1 d.now) (h2:ESl (ESl Ints) w u2 d.past) (s:List UInt8) (hs:s.length≤1048576) :
  Does Tryz.prog 14 [.agg #[u1,u2],str s] w (RetDkRT w (dlV d s).1.now (dlV d s).1.past (dlV d s).2):=by
 have icu1:isCell u1=true:=Qe h1
 have icu2:isCell u2=true:=Qe h2
 have nil1 : ∀ (w w':World),w.heap.size≤w'.heap.size→OwnedB w.heap.size w'.heap.size (XRd (ESl Ints)) w' (.slice none 0 0) []:=fun w w' h=>(OwnedB.nil (e:=0) (X:=XSl 0 XInt)).rd
 have nil2 : ∀ (w w':World),w.heap.size≤w'.heap.size→OwnedB w.heap.size w'.heap.size (XRd (ESl (ESl Ints))) w' (.slice none 0 0) []:=fun w w' h=>(OwnedB.nil (e:=0) (X:=XSl 0 (XSl 0 XInt))).rd
 refine Sm Tryz.func14 Z Tryz.results14 Tryz.ntmps14 Z Kt Km ?_
 by_cases hd:DkOk d
 ·rw [show dlV d s=lnV d s from if_pos hd]
  have bnd : ∀ q,Pic q→q.length≤100∧∀ r ∈ q,r.length≤100:=fun q hq=>⟨by have:=hq.2.1;omega,fun r hr=>by rw [(hq.2.2 r hr).1];have:=hq.2.1;omega⟩
  have hppl:=hd.2.1
  have hp:=hd.1.1
  have k0 : ∀ w,ESl Ints w u1 d.now→ESl (ESl Ints) w u2 d.past→Does Tryz.prog 16 [.agg #[u1,u2]] w (Ret w (.bool true)):=fun w h1 h2=>by
   have:=Rc w u1 u2 d h1 h2;rwa [decide_eq_true hd] at this
  have k1 : ∀ w,ESl Ints w u1 d.now→ESl (ESl Ints) w u2 d.past→Does Tryz.prog 60 [.agg #[u1,u2]] w (RetDk w 23 88 3 d.now d.past):=fun w h1 h2=>l11Copy_ok w u1 u2 d.now d.past h1 h2 (bnd _ hd.1.1) Ka (fun q hq=>bnd q (hd.2.2 q hq).1)
  cases ha:rdD s with
  | some a =>
    rw [show lnV d s = ((doV d a).1, okV (doV d a).2) by unfold lnV; rw [ha]]
    have hat : a.text.length ≤ 1048576 := rdD_text ha hs
    have k2 : ∀ (w : World), Does Tryz.prog 61 [str s] w (Ret w (.tuple #[.agg #[.int .i64 a.kind, str a.text, .int .i64 a.node], .bool true])) := fun w => by
      have := Me w s hs
      rw [ha] at this; exact this
    have k3 : ∀ (w : World), ESl Ints w u1 d.now → ESl (ESl Ints) w u2 d.past → Does Tryz.prog 37 [.agg #[u1, u2], .agg #[.int .i64 a.kind, str a.text, .int .i64 a.node]] w (RetDkRB w (doV d a).1.now (doV d a).1.past (doV d a).2) := fun w h1 h2 => by
      have := (spec_DeskDo_ok w u1 u2 d h1 h2 a.kind a.node a.text hat).mono fun _ _ h => h.r
      rwa [if_pos hd, if_pos hd, decide_eq_true hd, Bool.true_and] at this
    cases hb : (doV d a).2 with
    | true =>
      rw [hb] at k3
      focus
        refine Zu<|Yx Z Z Z ?_; rintro b1 w1 hb1 E1 hB1; have hlb1 := hB1.lt; refine Yn Z Xj ?_; rintro b2 w2 hb2 E2 hB2; have hlb2 := hB2.lt; refine Yu Z<|Zs<|Zw<|Zu<|Xk Kt Km (hB1.ext E2) Z<|Zv Z (Yl (a := .agg _) Jw Z) (k0 _ ((Mono.mono exq h1)) ((Mono.mono exq h2))) ?_; rintro _ w3 ⟨rfl, E3⟩; have hs3 := E3.size; refine Xd Z<|Zs<|Xn Z fun h3 => ?_; refine Zz<|Zu<|Xk Kt Km (hB1.ext exq) Z<|Zv Z (Yl (a := .agg _) Gl Z) (k1 _ ((Mono.mono exq h1)) ((Mono.mono exq h2))) ?_; rintro _ w4 ⟨u3, q1, m1, rfl, E4, hO1, hQ1, hm1, hn1⟩; have icu3 := OwnedB.isC hO1; have icq1 := OwnedB.isC (Owned.toB hQ1); have hs4 := E4.size; refine Yn Z Xj ?_; rintro b3 w5 hb3 E5 hB3; have hlb3 := hB3.lt
        refine Xz Z Km Z Z Ke Ke hB3 Ka ((((E1.trans E2).trans E3).trans E4).trans E5) ?_; rintro w6 E6 hB3 K1 hz1; have E7 := (((E2.trans E3).trans E4).trans E5).wroteAt exq E6 K1 hz1 Ka; have E8 := ((E3.trans E4).trans E5).wroteAt exq E6 K1 hz1 Ka; have E9 := (E4.trans E5).wroteAt exq E6 K1 hz1 Ka; have E10 := E5.wroteAt exq E6 K1 hz1 Ka; have hB1 := (hB1.ext exq).of_heap (K1 _ Ka); have hB2 := (hB2.ext exq).of_heap (K1 _ Ka); have hO1 := (hO1.ext E5).wrote K1 Ka; have hQ1 := (hQ1.toB.ext E5).wrote K1 Ka; refine Zs<|Zu<|Vy Z<|Zv Z (Yl (a := .string _) Tryz.call61 Z) (k2 _) ?_; rintro _ w7 ⟨rfl, E11⟩; have hs6 := E11.size; refine Xx Z<|Mb Z<|Uf Z<|Uj Z Ys ?_; rintro b4 w8 hb4 E12 hB4
        have hlb4 := hB4.lt; refine Uw Kv hB4 Z ((E6.trans E11).trans E12) ?_; rintro w9 E13 hB4 K2 hz2; have E14 := ((E7.trans E11).trans E12).wroteAt exq E13 K2 hz2 Ka; have szE14 := E14.size; have E15 := ((E8.trans E11).trans E12).wroteAt exq E13 K2 hz2 Ka; have szE15 := E15.size; have hB1 := (hB1.ext exq).of_heap (K2 _ Ka); have hB2 := (hB2.ext exq).of_heap (K2 _ Ka); refine Vd Z<|Zs<|Zw<|Zu<|Yt Z<|Zs<|Yi Z ?_; refine Zu<|Xk Kt Km hB1 Z<|Qn Je Kv hB4 Z<|Zv Z (Yd (a := .agg _) (b := .agg _) Gd Z Z) (k3 _ ((Mono.mono E13 h1)) ((Mono.mono E13 h2))) ?_; rintro _ w10 ⟨u4, q2, rfl, E20, hA1, hC1, icu4, icq2, gwu4⟩; refine Xx Z<|Mb Z<|Uf Z<|Yn Z Xj ?_; rintro b5 w11 hb5 E21 hB5; have hs9 := E21.size
        refine Uc Km hB5 Z ((E13.trans E20).trans E21) ?_; rintro w12 E22 hB5 K3 hz3; have hB2 := (hB2.ext exq).of_heap (K3 _ Ka); have hA1 := (hA1.ext E21).wrote K3 Ka; have hC1 := (hC1.ext E21).wrote K3 Ka; refine Vd Z<|Zs<|Zw<|Zu<|Yt Z<|Xd Z<|Zs<|Xn Z fun h4 => ?_; refine Zz<|Zu<|Xk Kt Km hB5 Z<|Uc Km hB2 Z E22 ?_; rintro w13 E31 hB2 K4 hz4; have hA1 := hA1.wrote K4 Ka; have hC1 := hC1.wrote K4 Ka; refine Yu Z<|Zs<|Vb ?_
      exact ⟨b2, u4, q2, rfl, hB2, u4, q2, rfl, by exact E31, hA1.wide Ka Ka, hC1.wide Ka Ka, icu4, icq2⟩
    | false =>
      rw [hb] at k3
      focus
        refine Zu<|Yx Z Z Z ?_; rintro b1 w1 hb1 E1 hB1; have hlb1 := hB1.lt; refine Yn Z Xj ?_; rintro b2 w2 hb2 E2 hB2; have hlb2 := hB2.lt; refine Yu Z<|Zs<|Zw<|Zu<|Xk Kt Km (hB1.ext E2) Z<|Zv Z (Yl (a := .agg _) Jw Z) (k0 _ ((Mono.mono exq h1)) ((Mono.mono exq h2))) ?_; rintro _ w3 ⟨rfl, E3⟩; have hs3 := E3.size; refine Xd Z<|Zs<|Xn Z fun h3 => ?_; refine Zz<|Zu<|Xk Kt Km (hB1.ext exq) Z<|Zv Z (Yl (a := .agg _) Gl Z) (k1 _ ((Mono.mono exq h1)) ((Mono.mono exq h2))) ?_; rintro _ w4 ⟨u3, q1, m1, rfl, E4, hO1, hQ1, hm1, hn1⟩; have icu3 := OwnedB.isC hO1; have icq1 := OwnedB.isC (Owned.toB hQ1); have hs4 := E4.size; refine Yn Z Xj ?_; rintro b3 w5 hb3 E5 hB3; have hlb3 := hB3.lt
        refine Xz Z Km Z Z Ke Ke hB3 Ka ((((E1.trans E2).trans E3).trans E4).trans E5) ?_; rintro w6 E6 hB3 K1 hz1; have E7 := (((E2.trans E3).trans E4).trans E5).wroteAt exq E6 K1 hz1 Ka; have E8 := ((E3.trans E4).trans E5).wroteAt exq E6 K1 hz1 Ka; have E9 := (E4.trans E5).wroteAt exq E6 K1 hz1 Ka; have E10 := E5.wroteAt exq E6 K1 hz1 Ka; have hB1 := (hB1.ext exq).of_heap (K1 _ Ka); have hB2 := (hB2.ext exq).of_heap (K1 _ Ka); have hO1 := (hO1.ext E5).wrote K1 Ka; have hQ1 := (hQ1.toB.ext E5).wrote K1 Ka; refine Zs<|Zu<|Vy Z<|Zv Z (Yl (a := .string _) Tryz.call61 Z) (k2 _) ?_; rintro _ w7 ⟨rfl, E11⟩; have hs6 := E11.size; refine Xx Z<|Mb Z<|Uf Z<|Uj Z Ys ?_; rintro b4 w8 hb4 E12 hB4
        have hlb4 := hB4.lt; refine Uw Kv hB4 Z ((E6.trans E11).trans E12) ?_; rintro w9 E13 hB4 K2 hz2; have E14 := ((E7.trans E11).trans E12).wroteAt exq E13 K2 hz2 Ka; have szE14 := E14.size; have E15 := ((E8.trans E11).trans E12).wroteAt exq E13 K2 hz2 Ka; have szE15 := E15.size; have hB1 := (hB1.ext exq).of_heap (K2 _ Ka); have hB2 := (hB2.ext exq).of_heap (K2 _ Ka); refine Vd Z<|Zs<|Zw<|Zu<|Yt Z<|Zs<|Yi Z ?_; refine Zu<|Xk Kt Km hB1 Z<|Qn Je Kv hB4 Z<|Zv Z (Yd (a := .agg _) (b := .agg _) Gd Z Z) (k3 _ ((Mono.mono E13 h1)) ((Mono.mono E13 h2))) ?_; rintro _ w10 ⟨u4, q2, rfl, E20, hA1, hC1, icu4, icq2, gwu4⟩; refine Xx Z<|Mb Z<|Uf Z<|Yn Z Xj ?_; rintro b5 w11 hb5 E21 hB5; have hs9 := E21.size
        refine Uc Km hB5 Z ((E13.trans E20).trans E21) ?_; rintro w12 E22 hB5 K3 hz3; have hB2 := (hB2.ext exq).of_heap (K3 _ Ka); have hA1 := (hA1.ext E21).wrote K3 Ka; have hC1 := (hC1.ext E21).wrote K3 Ka; refine Vd Z<|Zs<|Zw<|Zu<|Yt Z<|Xd Z<|Zs<|Xr Z (fun h4 => ?_) (fun h4 => ?_); refine Zu<|Xk Kt Km hB5 Z<|Uc Km hB2 Z E22 ?_; rintro w13 E31 hB2 K4 hz4; have hA1 := hA1.wrote K4 Ka; have hC1 := hC1.wrote K4 Ka; refine Yu Z<|Zs<|Vb ?_; rotate_left; contradiction
      exact ⟨b2, u4, q2, rfl, hB2, u4, q2, rfl, by exact E31, hA1.wide Ka Ka, hC1.wide Ka Ka, icu4, icq2⟩
  | none =>
    rw [show lnV d s = (d, askV d.now s) by unfold lnV; rw [ha]]
    have k2 : ∀ (w : World), Does Tryz.prog 61 [str s] w (Ret w (.tuple #[.agg #[.int .i64 0, str [], .int .i64 0], .bool false])) := fun w => by
      have := Me w s hs
      rw [ha] at this; exact this
    have hp1 := hp.1
    have hp5 := hp.2.1
    have htx := Mq hp.gr
    have hfl := faV_le d.now
    have hml := manyV_le d.now 0
    have yn := l11Yes_ok
    have c1 : ∀ (w : World) (v : Value), ESl Ints w v d.now → Does Tryz.prog 62 [v] w (Ret w (str (txt d.now))) := fun w v h => by
      have := Ur w v d.now h; rwa [if_pos hp] at this
    have c2 : ∀ (w : World) (v : Value), ESl Ints w v d.now → Does Tryz.prog 63 [v, .int .i64 0] w (Ret w (.tuple #[.int .i64 (codeV d.now 0).1, .bool (codeV d.now 0).2])) := fun w v h => spec_CodeAt_ok w v d.now h hp
    have c3 : ∀ (w : World) (v : Value), ESl Ints w v d.now → Does Tryz.prog 65 [v, .int .i64 0] w (Ret w (.int .i64 (manyV d.now 0 : Int))) := fun w v h => spec_ManyIn_ok w v d.now h hp
    have c4 : ∀ (w : World) (v u : Value), ESl Ints w v d.now → ESl Ints w u d.now → Does Tryz.prog 67 [v, .int .i64 0, u, .int .i64 0] w (Ret w (.bool (hasV d.now 0 d.now 0))) := fun w v u h h' => spec_HasSet_ok w v u d.now d.now h h' hp hp
    have c5 : ∀ (w : World) (v : Value), ESl Ints w v d.now → Does Tryz.prog 68 [v, .int .i64 0] w (Ret w (.int .i64 (deepAtV d.now 0))) := fun w v h => spec_DeepAt_ok w v d.now h 0
    have c6 : ∀ (w : World) (v : Value), ESl Ints w v d.now → Does Tryz.prog 69 [v] w (RetO w XI (ints (faV d.now))) := fun w v h => spec_FoundedAll_ok w v d.now h
    have cI : ∀ (w : World) (n : Nat), n ≤ 1000000 → Does Tryz.prog 64 [.int .i64 (n : Int)] w (Ret w (str (decDigits n))) := fun w n hn => l1Num_ok n n (Nat.le_refl _) hn w
    have cF : ∀ (w : World), Does Tryz.prog 64 [.int .i64 ((ints (faV d.now)).length : Int)] w (Ret w (str (decDigits (faV d.now).length))) := fun w => by
      rw [Xo] at hfl ⊢
      exact cI w _ Ka
    have cM : ∀ (w : World), Does Tryz.prog 64 [.int .i64 (manyV d.now 0 : Int)] w (Ret w (str (decDigits (manyV d.now 0)))) := fun w => cI w _ Ka
    have c7 : ∀ (w : World), Does Tryz.prog 70 [str s, .int .u8 32] w (RetO w XS (cutB 32 s)) := fun w => l1Cut_ok w s 32 hs
    have stop10 : True := trivial
    focus
      refine Zu<|Yx Z Z Z ?_; rintro b1 w1 hb1 E1 hB1; have hlb1 := hB1.lt; have hs1 := E1.size; refine Yn Z Xj ?_; rintro b2 w2 hb2 E2 hB2; have hlb2 := hB2.lt; have hs2 := E2.size; refine Yu Z<|Zs<|Zw<|Zu<|Xk Kt Km (hB1.ext E2) Z<|Zv Z (Yl (a := .agg _) Jw Z) (k0 _ ((Mono.mono exq h1)) ((Mono.mono exq h2))) ?_; rintro _ w3 ⟨rfl, E3⟩; have hs3 := E3.size; refine Xd Z<|Zs<|Xn Z fun h3 => ?_; refine Zz<|Zu<|Xk Kt Km (hB1.ext exq) Z<|Zv Z (Yl (a := .agg _) Gl Z) (k1 _ ((Mono.mono exq h1)) ((Mono.mono exq h2))) ?_; rintro _ w4 ⟨u3, q1, m1, rfl, E4, hO1, hQ1, hm1, hn1⟩; have icu3 := OwnedB.isC hO1; have cpu3 := OwnedB.capOk hO1; have icq1 := OwnedB.isC (Owned.toB hQ1); have cpq1 := OwnedB.capOk (Owned.toB hQ1); have hs4 := E4.size
      refine Yn Z Xj ?_; rintro b3 w5 hb3 E5 hB3; have hlb3 := hB3.lt; have hs5 := E5.size; refine Xz Z Km Z Z Ke Ke hB3 Ka ((((E1.trans E2).trans E3).trans E4).trans E5) ?_; rintro w6 E6 hB3 K1 hz1; have E7 := (((E2.trans E3).trans E4).trans E5).wroteAt exq E6 K1 hz1 Ka; have szE7 := E7.size; have E8 := ((E3.trans E4).trans E5).wroteAt exq E6 K1 hz1 Ka; have szE8 := E8.size; have E9 := (E4.trans E5).wroteAt exq E6 K1 hz1 Ka; have szE9 := E9.size; have E10 := E5.wroteAt exq E6 K1 hz1 Ka; have szE10 := E10.size; have hB1 := (hB1.ext exq).of_heap (K1 _ Ka); have hB2 := (hB2.ext exq).of_heap (K1 _ Ka); have hO1 := (hO1.ext E5).wrote K1 Ka; have hQ1 := (hQ1.toB.ext E5).wrote K1 Ka
      refine Zs<|Zu<|Vy Z<|Zv Z (Yl (a := .string _) Tryz.call61 Z) (k2 _) ?_; rintro _ w7 ⟨rfl, E11⟩; have hs6 := E11.size; refine Xx Z<|Mb Z<|Uf Z<|Uj Z Ys ?_; rintro b4 w8 hb4 E12 hB4; have hlb4 := hB4.lt; have hs7 := E12.size; refine Uw Kv hB4 Z ((E6.trans E11).trans E12) ?_; rintro w9 E13 hB4 K2 hz2; have E14 := ((E7.trans E11).trans E12).wroteAt exq E13 K2 hz2 Ka; have szE14 := E14.size; have E15 := ((E8.trans E11).trans E12).wroteAt exq E13 K2 hz2 Ka; have szE15 := E15.size; have E16 := ((E9.trans E11).trans E12).wroteAt exq E13 K2 hz2 Ka; have szE16 := E16.size; have E17 := ((E10.trans E11).trans E12).wroteAt exq E13 K2 hz2 Ka; have szE17 := E17.size; have E18 := (E11.trans E12).wroteAt exq E13 K2 hz2 Ka; have szE18 := E18.size
      have E19 := E12.wroteAt exq E13 K2 hz2 Ka; have szE19 := E19.size; have hB3 := (hB3.ext exq).of_heap (K2 _ Ka); have hB1 := (hB1.ext exq).of_heap (K2 _ Ka); have hB2 := (hB2.ext exq).of_heap (K2 _ Ka); have hO1 := (hO1.ext exq).wrote K2 Ka; have hQ1 := (hQ1.ext exq).wrote K2 Ka; refine Vd Z<|Zs<|Zw<|Zu<|Yt Z<|Zs<|Va Z ?_; refine Zz<|Zw<|Zw ?_
    clear stop10 k0 k1 k2
    focus
      have Ew1 := E13; clear E1; clear E2; clear E3; clear E4; clear E5; clear E6; clear E7; clear szE7; clear E8; clear szE8; clear E9; clear szE9; clear E10; clear szE10; clear E11; clear E12; clear E13; clear E14; clear szE14; clear E15; clear szE15; clear E16; clear szE16; clear E17; clear szE17; clear E18; clear szE18; clear E19; clear szE19
    have heldS : w = w := rfl
    by_cases g1 : s = [112, 105, 99, 116, 117, 114, 101]
    · have ea : askV d.now s = [58] ++ txt d.now := by unfold askV; rw [if_pos g1]; rfl
      rw [ea]
      focus
        refine Vq<|Vy Z<|Zs<|Ve<|Zu<|Wo Z (Vl Z Z)<|Vd Z<|Zs<|Zx Z (fun h4 => ?_) (fun h4 => ?_); refine Zw<|Qr (fun w' => Ext w w') Xy Z Kb ?_; intro w10 E1 K3 hz3; refine Sb 1 Kw Ja Z Z exq<|Wha [0, 2]<|Vi Z ?_ ?_; refine Xk Kt Km (hB3.ext E1) Z<|Wnx exq<|Wha [2]<|Wh1 Z<|Yz u1 Kx (hB1.ext E1) Z<|Wnx exq<|Wha [3]<|Wh1 Z<|Zv Z (Yl (a := u1) Jl Z) (c1 _ _ ((Mono.mono exq h1))) ?_; rintro _ w11 ⟨rfl, E2⟩; have hs9 := E2.size; refine Wnx exq<|Vf 4 Z Kb Kb Z (fun _ _ => Ya Z Z (by simp <;> omega)) exq ?_; refine Wha [5]<|Wh1 Z<|Uc Km (hB2.ext (E1.trans E2)) Z ((Ew1.trans E1).trans E2) ?_; rintro w12 E3 hB2 K4 hz4
        have hO1 := (hO1.ext exq).wrote K4 Ka; have hQ1 := (hQ1.ext exq).wrote K4 Ka; refine Wnx E3<|Xv 6 Z Z E3<|Vs Kb ?_; refine Vb ?_; rotate_left; refine Wh1 Z<|Yz u1 Kx (hB1.ext E1) Z<|Wnx exq<|Wha [0, 3]<|Vi Z ?_ ?_; refine Xk Kt Km (hB3.ext E1) Z<|Wnx exq<|Wha [3]<|Wh1 Z<|Zv Z (Yl (a := u1) Jl Z) (c1 _ _ ((Mono.mono exq h1))) ?_; rintro _ w11 ⟨rfl, E2⟩; have hs9 := E2.size; refine Wnx exq<|Vf 4 Z Kb Kb Z (fun _ _ => Ya Z Z (by simp <;> omega)) exq ?_; refine Wha [5]<|Wh1 Z<|Uc Km (hB2.ext (E1.trans E2)) Z ((Ew1.trans E1).trans E2) ?_; rintro w12 E3 hB2 K4 hz4; have hO1 := (hO1.ext exq).wrote K4 Ka; have hQ1 := (hQ1.ext exq).wrote K4 Ka
        refine Wnx E3<|Xv 6 Z Z E3<|Vs Kb ?_; refine Vb ?_; rotate_left; refine Wh1 Z<|Zv Z (Yl (a := u1) Jl Z) (c1 _ _ ((Mono.mono exq h1))) ?_; rintro _ w11 ⟨rfl, E2⟩; have hs9 := E2.size; refine Wnx exq<|Vf 4 Z Kb Kb Z (fun _ _ => Ya Z Z (by simp <;> omega)) exq ?_; refine Wha [0]<|Wh1 Z<|Xk Kt Km (hB3.ext exq) Z<|Wnx exq<|Wha [5]<|Wh1 Z<|Uc Km (hB2.ext (E1.trans E2)) Z ((Ew1.trans E1).trans E2) ?_; rintro w12 E3 hB2 K4 hz4; have hO1 := (hO1.ext exq).wrote K4 Ka; have hQ1 := (hQ1.ext exq).wrote K4 Ka; refine Wnx E3<|Xv 6 Z Z E3<|Vs Kb ?_; refine Vb ?_; rotate_left; contradiction
      all_goals exact ⟨b2, u3, q1, rfl, hB2, u3, q1, rfl, by repeat (first | assumption | refine Ext.trans Kd ?_), hO1.rd.wide Ka Ka, hQ1.rd.wide Ka Ka, icu3, icq1⟩
    by_cases g2 : s = [99, 111, 100, 101]
    · have ea : askV d.now s = if (codeV d.now 0).2 then decDigits (codeV d.now 0).1.toNat else [110, 111, 110, 101] := by
        unfold askV; rw [if_neg g1, if_pos g2]
      rw [ea]
      rcases codeV_nat d.now 0 with ⟨c, hc, e⟩ | e
      · rw [e] at c2 ⊢
        have cC := fun w => cI w c Ka
        focus
          refine Vq<|Vy Z<|Zs<|Ve<|Zu<|Wo Z (Vl Z Z)<|Vd Z<|Zs<|Vw Z fun h4 => ?_; refine Zu<|Wo Z (Vl Z Z)<|Vd Z<|Zs<|Zx Z (fun h5 => ?_) (fun h5 => ?_); refine Zu<|Vo Kw Ja Z<|Yz u1 Kx hB1 Z<|Zv Z (Yd (a := u1) (b := .int _ _) Tryz.call63 Z Z) (c2 _ _ ((Mono.mono Ew1 h1))) ?_; rintro _ w10 ⟨rfl, E1⟩; have hs8 := E1.size; refine Xx Z<|WsxI Z<|Uf Z<|Yb Z<|Vd Z<|Zs<|Zw<|Zu<|Yt Z<|Xd Z<|Zs<|Xn Z fun h6 => ?_; refine Zz<|Zw<|Qr (fun w' => Ext w w') Xy Z Kb ?_; intro w11 E2 K3 hz3; refine Nh 1 Z Z exq<|Wha [0, 2]<|Vi Z ?_ ?_
          refine Xk Kt Km (hB3.ext exq) Z<|Wnx exq<|Wha [2]<|Wh1 Z<|Zv Z (Yl (a := .int _ _) Jt Z) (cC _) ?_; rintro _ w12 ⟨rfl, E3⟩; have hs10 := E3.size; refine Wnx exq<|Wha [3]<|Wh1 Z<|Xz Z Km Z Z Ke Ke (hB2.ext ((E1.trans E2).trans E3)) Ka (((Ew1.trans E1).trans E2).trans E3) ?_; rintro w13 E4 hB2 K4 hz4; have hO1 := (hO1.ext exq).wrote K4 Ka; have hQ1 := (hQ1.ext exq).wrote K4 Ka; refine Wnx E4<|Xv 4 Z Z E4<|Vs Kb ?_; refine Vb ?_; rotate_left; refine Wh1 Z<|Zv Z (Yl (a := .int _ _) Jt Z) (cC _) ?_; rintro _ w12 ⟨rfl, E3⟩; have hs10 := E3.size
          refine Wnx exq<|Wha [0]<|Wh1 Z<|Xk Kt Km (hB3.ext exq) Z<|Wnx exq<|Wha [3]<|Wh1 Z<|Xz Z Km Z Z Ke Ke (hB2.ext ((E1.trans E2).trans E3)) Ka (((Ew1.trans E1).trans E2).trans E3) ?_; rintro w13 E4 hB2 K4 hz4; have hO1 := (hO1.ext exq).wrote K4 Ka; have hQ1 := (hQ1.ext exq).wrote K4 Ka; refine Wnx E4<|Xv 4 Z Z E4<|Vs Kb ?_; refine Vb ?_; rotate_left; contradiction
        all_goals exact ⟨b2, u3, q1, rfl, hB2, u3, q1, rfl, by repeat (first | assumption | refine Ext.trans Kd ?_), hO1.rd.wide Ka Ka, hQ1.rd.wide Ka Ka, icu3, icq1⟩
      · rw [e] at c2 ⊢
        focus
          refine Vq<|Vy Z<|Zs<|Ve<|Zu<|Wo Z (Vl Z Z)<|Vd Z<|Zs<|Vw Z fun h4 => ?_; refine Zu<|Wo Z (Vl Z Z)<|Vd Z<|Zs<|Zx Z (fun h5 => ?_) (fun h5 => ?_); refine Zu<|Vo Kw Ja Z<|Yz u1 Kx hB1 Z<|Zv Z (Yd (a := u1) (b := .int _ _) Tryz.call63 Z Z) (c2 _ _ ((Mono.mono Ew1 h1))) ?_; rintro _ w10 ⟨rfl, E1⟩; have hs8 := E1.size; refine Xx Z<|WsxI Z<|Uf Z<|Yb Z<|Vd Z<|Zs<|Zw<|Zu<|Yt Z<|Xd Z<|Zs<|Xr Z (fun h6 => ?_) (fun h6 => ?_); refine Zw<|Vq<|Xk Kt Km (hB3.ext E1) Z<|Uc Km (hB2.ext E1) Z (Ew1.trans E1) ?_; rintro w11 E2 hB2 K3 hz3; have hO1 := (hO1.ext E1).wrote K3 Ka
          have hQ1 := (hQ1.ext E1).wrote K3 Ka; refine Yu Z<|Zs<|Vb ?_; rotate_left; contradiction; contradiction
        all_goals exact ⟨b2, u3, q1, rfl, hB2, u3, q1, rfl, by repeat (first | assumption | refine Ext.trans Kd ?_), hO1.rd.wide Ka Ka, hQ1.rd.wide Ka Ka, icu3, icq1⟩
    by_cases g3 : s = [109, 97, 110, 121]
    · have ea : askV d.now s = decDigits (manyV d.now 0) := by unfold askV; rw [if_neg g1, if_neg g2, if_pos g3]
      rw [ea]
      focus
        refine Vq<|Vy Z<|Zs<|Ve<|Zu<|Wo Z (Vl Z Z)<|Vd Z<|Zs<|Vw Z fun h4 => ?_; refine Zu<|Wo Z (Vl Z Z)<|Vd Z<|Zs<|Vw Z fun h5 => ?_; refine Zu<|Wo Z (Vl Z Z)<|Vd Z<|Zs<|Zx Z (fun h6 => ?_) (fun h6 => ?_); refine Zw<|Qr (fun w' => Ext w w') Xy Z Kb ?_; intro w10 E1 K3 hz3; refine Sb 1 Kw Ja Z Z exq<|Wha [0, 2]<|Vi Z ?_ ?_; refine Xk Kt Km (hB3.ext E1) Z<|Wnx exq<|Wha [2]<|Wh1 Z<|Yz u1 Kx (hB1.ext E1) Z<|Wnx exq<|Wha [3]<|Wh1 Z<|Zv Z (Yd (a := u1) (b := .int _ _) Tryz.call65 Z Z) (c3 _ _ ((Mono.mono exq h1))) ?_; rintro _ w11 ⟨rfl, E2⟩; have hs9 := E2.size
        refine Wnx exq<|Wha [4]<|Wh1 Z<|Zv Z (Yl (a := .int _ _) Jt Z) (cM _) ?_; rintro _ w12 ⟨rfl, E3⟩; have hs10 := E3.size; refine Wnx exq<|Wha [5]<|Wh1 Z<|Xz Z Km Z Z Ke Ke (hB2.ext ((E1.trans E2).trans E3)) Ka (((Ew1.trans E1).trans E2).trans E3) ?_; rintro w13 E4 hB2 K4 hz4; have hO1 := (hO1.ext exq).wrote K4 Ka; have hQ1 := (hQ1.ext exq).wrote K4 Ka; refine Wnx E4<|Xv 6 Z Z E4<|Vs Kb ?_; refine Vb ?_; rotate_left; refine Wh1 Z<|Yz u1 Kx (hB1.ext E1) Z<|Wnx exq<|Wha [0, 3]<|Vi Z ?_ ?_; refine Xk Kt Km (hB3.ext E1) Z<|Wnx exq<|Wha [3]<|Wh1 Z<|Zv Z (Yd (a := u1) (b := .int _ _) Tryz.call65 Z Z) (c3 _ _ ((Mono.mono exq h1))) ?_
        rintro _ w11 ⟨rfl, E2⟩; have hs9 := E2.size; refine Wnx exq<|Wha [4]<|Wh1 Z<|Zv Z (Yl (a := .int _ _) Jt Z) (cM _) ?_; rintro _ w12 ⟨rfl, E3⟩; have hs10 := E3.size; refine Wnx exq<|Wha [5]<|Wh1 Z<|Xz Z Km Z Z Ke Ke (hB2.ext ((E1.trans E2).trans E3)) Ka (((Ew1.trans E1).trans E2).trans E3) ?_; rintro w13 E4 hB2 K4 hz4; have hO1 := (hO1.ext exq).wrote K4 Ka; have hQ1 := (hQ1.ext exq).wrote K4 Ka; refine Wnx E4<|Xv 6 Z Z E4<|Vs Kb ?_; refine Vb ?_; rotate_left; refine Wh1 Z<|Zv Z (Yd (a := u1) (b := .int _ _) Tryz.call65 Z Z) (c3 _ _ ((Mono.mono exq h1))) ?_; rintro _ w11 ⟨rfl, E2⟩; have hs9 := E2.size; refine Wnx exq<|Wha [0, 4]<|Vi Z ?_ ?_
        refine Xk Kt Km (hB3.ext exq) Z<|Wnx exq<|Wha [4]<|Wh1 Z<|Zv Z (Yl (a := .int _ _) Jt Z) (cM _) ?_; rintro _ w12 ⟨rfl, E3⟩; have hs10 := E3.size; refine Wnx exq<|Wha [5]<|Wh1 Z<|Xz Z Km Z Z Ke Ke (hB2.ext ((E1.trans E2).trans E3)) Ka (((Ew1.trans E1).trans E2).trans E3) ?_; rintro w13 E4 hB2 K4 hz4; have hO1 := (hO1.ext exq).wrote K4 Ka; have hQ1 := (hQ1.ext exq).wrote K4 Ka; refine Wnx E4<|Xv 6 Z Z E4<|Vs Kb ?_; refine Vb ?_; rotate_left; refine Wh1 Z<|Zv Z (Yl (a := .int _ _) Jt Z) (cM _) ?_; rintro _ w12 ⟨rfl, E3⟩; have hs10 := E3.size
        refine Wnx exq<|Wha [0]<|Wh1 Z<|Xk Kt Km (hB3.ext exq) Z<|Wnx exq<|Wha [5]<|Wh1 Z<|Xz Z Km Z Z Ke Ke (hB2.ext ((E1.trans E2).trans E3)) Ka (((Ew1.trans E1).trans E2).trans E3) ?_; rintro w13 E4 hB2 K4 hz4; have hO1 := (hO1.ext exq).wrote K4 Ka; have hQ1 := (hQ1.ext exq).wrote K4 Ka; refine Wnx E4<|Xv 6 Z Z E4<|Vs Kb ?_; refine Vb ?_; rotate_left; contradiction
      all_goals exact ⟨b2, u3, q1, rfl, hB2, u3, q1, rfl, by repeat (first | assumption | refine Ext.trans Kd ?_), hO1.rd.wide Ka Ka, hQ1.rd.wide Ka Ka, icu3, icq1⟩
    by_cases g4 : s = [111, 119, 110]
    · have ea : askV d.now s = ynV (hasV d.now 0 d.now 0) := by unfold askV; rw [if_neg g1, if_neg g2, if_neg g3, if_pos g4]
      rw [ea]
      focus
        refine Vq<|Vy Z<|Zs<|Ve<|Zu<|Wo Z (Vl Z Z)<|Vd Z<|Zs<|Vw Z fun h4 => ?_; refine Zu<|Wo Z (Vl Z Z)<|Vd Z<|Zs<|Vw Z fun h5 => ?_; refine Zu<|Wo Z (Vl Z Z)<|Vd Z<|Zs<|Vw Z fun h6 => ?_; refine Zu<|Wo Z (Vl Z Z)<|Vd Z<|Zs<|Zx Z (fun h7 => ?_) (fun h7 => ?_); refine Zw<|Qr (fun w' => Ext w w') Xy Z Kb ?_; intro w10 E1 K3 hz3; refine Sb 1 Kw Ja Z Z exq<|Sb 3 Kw Ja Z Z exq<|Wha [0, 2, 4]<|Vi Z ?_ ?_; refine Xk Kt Km (hB3.ext E1) Z<|Wnx exq<|Wha [2, 4]<|Vi Z ?_ ?_
        refine Yz u1 Kx (hB1.ext E1) Z<|Wnx exq<|Wha [4]<|Wh1 Z<|Yz u1 Kx (hB1.ext E1) Z<|Wnx exq<|Wha [5]<|Wh1 Z<|Zv Z (Rx (a := u1) (b := .int _ _) (c := u1) (d := .int _ _) Gu Z Z Z Z) (c4 _ _ _ ((Mono.mono exq h1)) ((Mono.mono exq h1))) ?_; rintro _ w11 ⟨rfl, E2⟩; have hs9 := E2.size; refine Wnx exq<|Wha [6]<|Wh1 Z<|Zv Z (Yl (a := .bool _) Jy Z) (yn _ _) ?_; rintro _ w12 ⟨rfl, E3⟩; have hs10 := E3.size; refine Wnx exq<|Wha [7]<|Wh1 Z<|Xz Z Km Z Z Ke Ke (hB2.ext ((E1.trans E2).trans E3)) Ka (((Ew1.trans E1).trans E2).trans E3) ?_; rintro w13 E4 hB2 K4 hz4; have hO1 := (hO1.ext exq).wrote K4 Ka; have hQ1 := (hQ1.ext exq).wrote K4 Ka
        refine Wnx E4<|Xv 8 Z Z E4<|Vs Kb ?_; refine Vb ?_; rotate_left; refine Wh1 Z<|Yz u1 Kx (hB1.ext E1) Z<|Wnx exq<|Wha [2]<|Wh1 Z<|Yz u1 Kx (hB1.ext E1) Z<|Wnx exq<|Wha [5]<|Wh1 Z<|Zv Z (Rx (a := u1) (b := .int _ _) (c := u1) (d := .int _ _) Gu Z Z Z Z) (c4 _ _ _ ((Mono.mono exq h1)) ((Mono.mono exq h1))) ?_; rintro _ w11 ⟨rfl, E2⟩; have hs9 := E2.size; refine Wnx exq<|Wha [6]<|Wh1 Z<|Zv Z (Yl (a := .bool _) Jy Z) (yn _ _) ?_; rintro _ w12 ⟨rfl, E3⟩; have hs10 := E3.size; refine Wnx exq<|Wha [7]<|Wh1 Z<|Xz Z Km Z Z Ke Ke (hB2.ext ((E1.trans E2).trans E3)) Ka (((Ew1.trans E1).trans E2).trans E3) ?_; rintro w13 E4 hB2 K4 hz4
        have hO1 := (hO1.ext exq).wrote K4 Ka; have hQ1 := (hQ1.ext exq).wrote K4 Ka; refine Wnx E4<|Xv 8 Z Z E4<|Vs Kb ?_; refine Vb ?_; rotate_left; refine Vi Z ?_ ?_; refine Yz u1 Kx (hB1.ext E1) Z<|Wnx exq<|Wha [0, 4]<|Vi Z ?_ ?_; refine Xk Kt Km (hB3.ext E1) Z<|Wnx exq<|Wha [4]<|Wh1 Z<|Yz u1 Kx (hB1.ext E1) Z<|Wnx exq<|Wha [5]<|Wh1 Z<|Zv Z (Rx (a := u1) (b := .int _ _) (c := u1) (d := .int _ _) Gu Z Z Z Z) (c4 _ _ _ ((Mono.mono exq h1)) ((Mono.mono exq h1))) ?_; rintro _ w11 ⟨rfl, E2⟩; have hs9 := E2.size; refine Wnx exq<|Wha [6]<|Wh1 Z<|Zv Z (Yl (a := .bool _) Jy Z) (yn _ _) ?_; rintro _ w12 ⟨rfl, E3⟩; have hs10 := E3.size
        refine Wnx exq<|Wha [7]<|Wh1 Z<|Xz Z Km Z Z Ke Ke (hB2.ext ((E1.trans E2).trans E3)) Ka (((Ew1.trans E1).trans E2).trans E3) ?_; rintro w13 E4 hB2 K4 hz4; have hO1 := (hO1.ext exq).wrote K4 Ka; have hQ1 := (hQ1.ext exq).wrote K4 Ka; refine Wnx E4<|Xv 8 Z Z E4<|Vs Kb ?_; refine Vb ?_; rotate_left; refine Wh1 Z<|Yz u1 Kx (hB1.ext E1) Z<|Wnx exq<|Wha [0, 5]<|Vi Z ?_ ?_; refine Xk Kt Km (hB3.ext E1) Z<|Wnx exq<|Wha [5]<|Wh1 Z<|Zv Z (Rx (a := u1) (b := .int _ _) (c := u1) (d := .int _ _) Gu Z Z Z Z) (c4 _ _ _ ((Mono.mono exq h1)) ((Mono.mono exq h1))) ?_; rintro _ w11 ⟨rfl, E2⟩; have hs9 := E2.size
        refine Wnx exq<|Wha [6]<|Wh1 Z<|Zv Z (Yl (a := .bool _) Jy Z) (yn _ _) ?_; rintro _ w12 ⟨rfl, E3⟩; have hs10 := E3.size; refine Wnx exq<|Wha [7]<|Wh1 Z<|Xz Z Km Z Z Ke Ke (hB2.ext ((E1.trans E2).trans E3)) Ka (((Ew1.trans E1).trans E2).trans E3) ?_; rintro w13 E4 hB2 K4 hz4; have hO1 := (hO1.ext exq).wrote K4 Ka; have hQ1 := (hQ1.ext exq).wrote K4 Ka; refine Wnx E4<|Xv 8 Z Z E4<|Vs Kb ?_; refine Vb ?_; rotate_left; refine Wh1 Z<|Zv Z (Rx (a := u1) (b := .int _ _) (c := u1) (d := .int _ _) Gu Z Z Z Z) (c4 _ _ _ ((Mono.mono exq h1)) ((Mono.mono exq h1))) ?_; rintro _ w11 ⟨rfl, E2⟩; have hs9 := E2.size; refine Wnx exq<|Wha [0, 6]<|Vi Z ?_ ?_
        refine Xk Kt Km (hB3.ext exq) Z<|Wnx exq<|Wha [6]<|Wh1 Z<|Zv Z (Yl (a := .bool _) Jy Z) (yn _ _) ?_; rintro _ w12 ⟨rfl, E3⟩; have hs10 := E3.size; refine Wnx exq<|Wha [7]<|Wh1 Z<|Xz Z Km Z Z Ke Ke (hB2.ext ((E1.trans E2).trans E3)) Ka (((Ew1.trans E1).trans E2).trans E3) ?_; rintro w13 E4 hB2 K4 hz4; have hO1 := (hO1.ext exq).wrote K4 Ka; have hQ1 := (hQ1.ext exq).wrote K4 Ka; refine Wnx E4<|Xv 8 Z Z E4<|Vs Kb ?_; refine Vb ?_; rotate_left; refine Wh1 Z<|Zv Z (Yl (a := .bool _) Jy Z) (yn _ _) ?_; rintro _ w12 ⟨rfl, E3⟩; have hs10 := E3.size
        refine Wnx exq<|Wha [0]<|Wh1 Z<|Xk Kt Km (hB3.ext exq) Z<|Wnx exq<|Wha [7]<|Wh1 Z<|Xz Z Km Z Z Ke Ke (hB2.ext ((E1.trans E2).trans E3)) Ka (((Ew1.trans E1).trans E2).trans E3) ?_; rintro w13 E4 hB2 K4 hz4; have hO1 := (hO1.ext exq).wrote K4 Ka; have hQ1 := (hQ1.ext exq).wrote K4 Ka; refine Wnx E4<|Xv 8 Z Z E4<|Vs Kb ?_; refine Vb ?_; rotate_left; refine Wh1 Z<|Yz u1 Kx (hB1.ext E1) Z<|Wnx exq<|Wha [0, 2]<|Vi Z ?_ ?_
        refine Xk Kt Km (hB3.ext E1) Z<|Wnx exq<|Wha [2]<|Wh1 Z<|Yz u1 Kx (hB1.ext E1) Z<|Wnx exq<|Wha [5]<|Wh1 Z<|Zv Z (Rx (a := u1) (b := .int _ _) (c := u1) (d := .int _ _) Gu Z Z Z Z) (c4 _ _ _ ((Mono.mono exq h1)) ((Mono.mono exq h1))) ?_; rintro _ w11 ⟨rfl, E2⟩; have hs9 := E2.size; refine Wnx exq<|Wha [6]<|Wh1 Z<|Zv Z (Yl (a := .bool _) Jy Z) (yn _ _) ?_; rintro _ w12 ⟨rfl, E3⟩; have hs10 := E3.size; refine Wnx exq<|Wha [7]<|Wh1 Z<|Xz Z Km Z Z Ke Ke (hB2.ext ((E1.trans E2).trans E3)) Ka (((Ew1.trans E1).trans E2).trans E3) ?_; rintro w13 E4 hB2 K4 hz4; have hO1 := (hO1.ext exq).wrote K4 Ka; have hQ1 := (hQ1.ext exq).wrote K4 Ka
        refine Wnx E4<|Xv 8 Z Z E4<|Vs Kb ?_; refine Vb ?_; rotate_left; refine Wh1 Z<|Yz u1 Kx (hB1.ext E1) Z<|Wnx exq<|Wha [0, 5]<|Vi Z ?_ ?_; refine Xk Kt Km (hB3.ext E1) Z<|Wnx exq<|Wha [5]<|Wh1 Z<|Zv Z (Rx (a := u1) (b := .int _ _) (c := u1) (d := .int _ _) Gu Z Z Z Z) (c4 _ _ _ ((Mono.mono exq h1)) ((Mono.mono exq h1))) ?_; rintro _ w11 ⟨rfl, E2⟩; have hs9 := E2.size; refine Wnx exq<|Wha [6]<|Wh1 Z<|Zv Z (Yl (a := .bool _) Jy Z) (yn _ _) ?_; rintro _ w12 ⟨rfl, E3⟩; have hs10 := E3.size; refine Wnx exq<|Wha [7]<|Wh1 Z<|Xz Z Km Z Z Ke Ke (hB2.ext ((E1.trans E2).trans E3)) Ka (((Ew1.trans E1).trans E2).trans E3) ?_; rintro w13 E4 hB2 K4 hz4
        have hO1 := (hO1.ext exq).wrote K4 Ka; have hQ1 := (hQ1.ext exq).wrote K4 Ka; refine Wnx E4<|Xv 8 Z Z E4<|Vs Kb ?_; refine Vb ?_; rotate_left; refine Wh1 Z<|Zv Z (Rx (a := u1) (b := .int _ _) (c := u1) (d := .int _ _) Gu Z Z Z Z) (c4 _ _ _ ((Mono.mono exq h1)) ((Mono.mono exq h1))) ?_; rintro _ w11 ⟨rfl, E2⟩; have hs9 := E2.size; refine Wnx exq<|Wha [0, 6]<|Vi Z ?_ ?_; refine Xk Kt Km (hB3.ext exq) Z<|Wnx exq<|Wha [6]<|Wh1 Z<|Zv Z (Yl (a := .bool _) Jy Z) (yn _ _) ?_; rintro _ w12 ⟨rfl, E3⟩; have hs10 := E3.size; refine Wnx exq<|Wha [7]<|Wh1 Z<|Xz Z Km Z Z Ke Ke (hB2.ext ((E1.trans E2).trans E3)) Ka (((Ew1.trans E1).trans E2).trans E3) ?_
        rintro w13 E4 hB2 K4 hz4; have hO1 := (hO1.ext exq).wrote K4 Ka; have hQ1 := (hQ1.ext exq).wrote K4 Ka; refine Wnx E4<|Xv 8 Z Z E4<|Vs Kb ?_; refine Vb ?_; rotate_left; refine Wh1 Z<|Zv Z (Yl (a := .bool _) Jy Z) (yn _ _) ?_; rintro _ w12 ⟨rfl, E3⟩; have hs10 := E3.size; refine Wnx exq<|Wha [0]<|Wh1 Z<|Xk Kt Km (hB3.ext exq) Z<|Wnx exq<|Wha [7]<|Wh1 Z<|Xz Z Km Z Z Ke Ke (hB2.ext ((E1.trans E2).trans E3)) Ka (((Ew1.trans E1).trans E2).trans E3) ?_; rintro w13 E4 hB2 K4 hz4; have hO1 := (hO1.ext exq).wrote K4 Ka; have hQ1 := (hQ1.ext exq).wrote K4 Ka; refine Wnx E4<|Xv 8 Z Z E4<|Vs Kb ?_; refine Vb ?_; rotate_left; contradiction
      all_goals exact ⟨b2, u3, q1, rfl, hB2, u3, q1, rfl, by repeat (first | assumption | refine Ext.trans Kd ?_), hO1.rd.wide Ka Ka, hQ1.rd.wide Ka Ka, icu3, icq1⟩
    by_cases g5 : s = [100, 101, 101, 112]
    · have ea : askV d.now s = if 0 ≤ deepAtV d.now 0 then decDigits (deepAtV d.now 0).toNat else [110, 111, 110, 101] := by
        unfold askV; rw [if_neg g1, if_neg g2, if_neg g3, if_neg g4, if_pos g5]
      rw [ea]
      rcases deepAtV_nat hp 0 with ⟨c, hc, e⟩ | e
      · rw [e] at c5 ⊢
        rw [if_pos Ka]
        have cC := fun w => cI w c Ka
        focus
          refine Vq<|Vy Z<|Zs<|Ve<|Zu<|Wo Z (Vl Z Z)<|Vd Z<|Zs<|Vw Z fun h4 => ?_; refine Zu<|Wo Z (Vl Z Z)<|Vd Z<|Zs<|Vw Z fun h5 => ?_; refine Zu<|Wo Z (Vl Z Z)<|Vd Z<|Zs<|Vw Z fun h6 => ?_; refine Zu<|Wo Z (Vl Z Z)<|Vd Z<|Zs<|Vw Z fun h7 => ?_; refine Zu<|Wo Z (Vl Z Z)<|Vd Z<|Zs<|Zx Z (fun h8 => ?_) (fun h8 => ?_); refine Zw<|Zu<|Vo Kw Ja Z<|Yz u1 Kx hB1 Z<|Zv Z (Yd (a := u1) (b := .int _ _) Zp Z Z) (c5 _ _ ((Mono.mono Ew1 h1))) ?_; rintro _ w10 ⟨rfl, E1⟩; have hs8 := E1.size; refine Yc Z<|Zs<|Vw Z fun h9 => ?_
          refine Zz<|Zw<|Qr (fun w' => Ext w w') Xy Z Kb ?_; intro w11 E2 K3 hz3; refine Sb 1 Kw Ja Z Z exq<|Wha [0, 2]<|Vi Z ?_ ?_; refine Xk Kt Km (hB3.ext exq) Z<|Wnx exq<|Wha [2]<|Wh1 Z<|Yz u1 Kx (hB1.ext exq) Z<|Wnx exq<|Wha [3]<|Wh1 Z<|Zv Z (Yd (a := u1) (b := .int _ _) Zp Z Z) (c5 _ _ ((Mono.mono exq h1))) ?_; rintro _ w12 ⟨rfl, E3⟩; have hs10 := E3.size; refine Wnx exq<|Wha [4]<|Wh1 Z<|Zv Z (Yl (a := .int _ _) Jt Z) (cC _) ?_; rintro _ w13 ⟨rfl, E4⟩; have hs11 := E4.size
          refine Wnx exq<|Wha [5]<|Wh1 Z<|Xz Z Km Z Z Ke Ke (hB2.ext (((E1.trans E2).trans E3).trans E4)) Ka ((((Ew1.trans E1).trans E2).trans E3).trans E4) ?_; rintro w14 E5 hB2 K4 hz4; have hO1 := (hO1.ext exq).wrote K4 Ka; have hQ1 := (hQ1.ext exq).wrote K4 Ka; refine Wnx E5<|Xv 6 Z Z E5<|Vs Kb ?_; refine Vb ?_; rotate_left; refine Wh1 Z<|Yz u1 Kx (hB1.ext exq) Z<|Wnx exq<|Wha [0, 3]<|Vi Z ?_ ?_; refine Xk Kt Km (hB3.ext exq) Z<|Wnx exq<|Wha [3]<|Wh1 Z<|Zv Z (Yd (a := u1) (b := .int _ _) Zp Z Z) (c5 _ _ ((Mono.mono exq h1))) ?_; rintro _ w12 ⟨rfl, E3⟩; have hs10 := E3.size
          refine Wnx exq<|Wha [4]<|Wh1 Z<|Zv Z (Yl (a := .int _ _) Jt Z) (cC _) ?_; rintro _ w13 ⟨rfl, E4⟩; have hs11 := E4.size; refine Wnx exq<|Wha [5]<|Wh1 Z<|Xz Z Km Z Z Ke Ke (hB2.ext (((E1.trans E2).trans E3).trans E4)) Ka ((((Ew1.trans E1).trans E2).trans E3).trans E4) ?_; rintro w14 E5 hB2 K4 hz4; have hO1 := (hO1.ext exq).wrote K4 Ka; have hQ1 := (hQ1.ext exq).wrote K4 Ka; refine Wnx E5<|Xv 6 Z Z E5<|Vs Kb ?_; refine Vb ?_; rotate_left; refine Wh1 Z<|Zv Z (Yd (a := u1) (b := .int _ _) Zp Z Z) (c5 _ _ ((Mono.mono exq h1))) ?_; rintro _ w12 ⟨rfl, E3⟩; have hs10 := E3.size; refine Wnx exq<|Wha [0, 4]<|Vi Z ?_ ?_
          refine Xk Kt Km (hB3.ext exq) Z<|Wnx exq<|Wha [4]<|Wh1 Z<|Zv Z (Yl (a := .int _ _) Jt Z) (cC _) ?_; rintro _ w13 ⟨rfl, E4⟩; have hs11 := E4.size; refine Wnx exq<|Wha [5]<|Wh1 Z<|Xz Z Km Z Z Ke Ke (hB2.ext (((E1.trans E2).trans E3).trans E4)) Ka ((((Ew1.trans E1).trans E2).trans E3).trans E4) ?_; rintro w14 E5 hB2 K4 hz4; have hO1 := (hO1.ext exq).wrote K4 Ka; have hQ1 := (hQ1.ext exq).wrote K4 Ka; refine Wnx E5<|Xv 6 Z Z E5<|Vs Kb ?_; refine Vb ?_; rotate_left; refine Wh1 Z<|Zv Z (Yl (a := .int _ _) Jt Z) (cC _) ?_; rintro _ w13 ⟨rfl, E4⟩; have hs11 := E4.size
          refine Wnx exq<|Wha [0]<|Wh1 Z<|Xk Kt Km (hB3.ext exq) Z<|Wnx exq<|Wha [5]<|Wh1 Z<|Xz Z Km Z Z Ke Ke (hB2.ext (((E1.trans E2).trans E3).trans E4)) Ka ((((Ew1.trans E1).trans E2).trans E3).trans E4) ?_; rintro w14 E5 hB2 K4 hz4; have hO1 := (hO1.ext exq).wrote K4 Ka; have hQ1 := (hQ1.ext exq).wrote K4 Ka; refine Wnx E5<|Xv 6 Z Z E5<|Vs Kb ?_; refine Vb ?_; rotate_left; contradiction
        all_goals exact ⟨b2, u3, q1, rfl, hB2, u3, q1, rfl, by repeat (first | assumption | refine Ext.trans Kd ?_), hO1.rd.wide Ka Ka, hQ1.rd.wide Ka Ka, icu3, icq1⟩
      · rw [e] at c5 ⊢
        rw [if_neg Ka]
        focus
          refine Vq<|Vy Z<|Zs<|Ve<|Zu<|Wo Z (Vl Z Z)<|Vd Z<|Zs<|Vw Z fun h4 => ?_; refine Zu<|Wo Z (Vl Z Z)<|Vd Z<|Zs<|Vw Z fun h5 => ?_; refine Zu<|Wo Z (Vl Z Z)<|Vd Z<|Zs<|Vw Z fun h6 => ?_; refine Zu<|Wo Z (Vl Z Z)<|Vd Z<|Zs<|Vw Z fun h7 => ?_; refine Zu<|Wo Z (Vl Z Z)<|Vd Z<|Zs<|Zx Z (fun h8 => ?_) (fun h8 => ?_); refine Zw<|Zu<|Vo Kw Ja Z<|Yz u1 Kx hB1 Z<|Zv Z (Yd (a := u1) (b := .int _ _) Zp Z Z) (c5 _ _ ((Mono.mono Ew1 h1))) ?_; rintro _ w10 ⟨rfl, E1⟩; have hs8 := E1.size; refine Yc Z<|Zs<|Zx Z (fun h9 => ?_) (fun h9 => ?_)
          refine Zu<|Xk Kt Km (hB3.ext E1) Z<|Uc Km (hB2.ext E1) Z (Ew1.trans E1) ?_; rintro w11 E2 hB2 K3 hz3; have hO1 := (hO1.ext E1).wrote K3 Ka; have hQ1 := (hQ1.ext E1).wrote K3 Ka; refine Yu Z<|Zs<|Vb ?_; rotate_left; contradiction; contradiction
        all_goals exact ⟨b2, u3, q1, rfl, hB2, u3, q1, rfl, by repeat (first | assumption | refine Ext.trans Kd ?_), hO1.rd.wide Ka Ka, hQ1.rd.wide Ka Ka, icu3, icq1⟩
    by_cases g6 : s = [102, 111, 117, 110, 100, 101, 100]
    · have ea : askV d.now s = decDigits (faV d.now).length := by unfold askV; rw [if_neg g1, if_neg g2, if_neg g3, if_neg g4, if_neg g5, if_pos g6]
      rw [ea]
      focus
        refine Vq<|Vy Z<|Zs<|Ve<|Zu<|Wo Z (Vl Z Z)<|Vd Z<|Zs<|Vw Z fun h4 => ?_; refine Zu<|Wo Z (Vl Z Z)<|Vd Z<|Zs<|Vw Z fun h5 => ?_; refine Zu<|Wo Z (Vl Z Z)<|Vd Z<|Zs<|Vw Z fun h6 => ?_; refine Zu<|Wo Z (Vl Z Z)<|Vd Z<|Zs<|Vw Z fun h7 => ?_; refine Zu<|Wo Z (Vl Z Z)<|Vd Z<|Zs<|Vw Z fun h8 => ?_; refine Zu<|Wo Z (Vl Z Z)<|Vd Z<|Zs<|Zx Z (fun h9 => ?_) (fun h9 => ?_); refine Zw<|Qr (fun w' => Ext w w') Xy Z Kb ?_; intro w10 E1 K3 hz3; refine Sb 1 Kw Ja Z Z exq<|Wha [0, 2]<|Vi Z ?_ ?_
        refine Xk Kt Km (hB3.ext E1) Z<|Wnx exq<|Wha [2]<|Wh1 Z<|Yz u1 Kx (hB1.ext E1) Z<|Wnx exq<|Wha [3]<|Wh1 Z<|Zv Z (Yl (a := u1) Tryz.call69 Z) (c6 _ _ ((Mono.mono exq h1))) ?_; rintro u4 w11 ⟨E2, hO2⟩; have hs9 := E2.size; refine Wnx exq<|Vf 4 Z Kb Kb Z (fun _ _ => Qt Ko Z (Owned.read hO2)) exq ?_; refine Wha [5]<|Wh1 Z<|Zv Z (Yl (a := .int _ _) Jt Z) (cF _) ?_; rintro _ w12 ⟨rfl, E3⟩; have hs10 := E3.size; refine Wnx exq<|Wha [6]<|Wh1 Z<|Xz Z Km Z Z Ke Ke (hB2.ext ((E1.trans E2).trans E3)) Ka (((Ew1.trans E1).trans E2).trans E3) ?_; rintro w13 E4 hB2 K4 hz4; have hO1 := (hO1.ext exq).wrote K4 Ka
        have hQ1 := (hQ1.ext exq).wrote K4 Ka; refine Wnx E4<|Xv 7 Z Z E4<|Vs Kb ?_; refine Vb ?_; rotate_left; refine Wh1 Z<|Yz u1 Kx (hB1.ext E1) Z<|Wnx exq<|Wha [0, 3]<|Vi Z ?_ ?_; refine Xk Kt Km (hB3.ext E1) Z<|Wnx exq<|Wha [3]<|Wh1 Z<|Zv Z (Yl (a := u1) Tryz.call69 Z) (c6 _ _ ((Mono.mono exq h1))) ?_; rintro u4 w11 ⟨E2, hO2⟩; have hs9 := E2.size; refine Wnx exq<|Vf 4 Z Kb Kb Z (fun _ _ => Qt Ko Z (Owned.read hO2)) exq ?_; refine Wha [5]<|Wh1 Z<|Zv Z (Yl (a := .int _ _) Jt Z) (cF _) ?_; rintro _ w12 ⟨rfl, E3⟩; have hs10 := E3.size
        refine Wnx exq<|Wha [6]<|Wh1 Z<|Xz Z Km Z Z Ke Ke (hB2.ext ((E1.trans E2).trans E3)) Ka (((Ew1.trans E1).trans E2).trans E3) ?_; rintro w13 E4 hB2 K4 hz4; have hO1 := (hO1.ext exq).wrote K4 Ka; have hQ1 := (hQ1.ext exq).wrote K4 Ka; refine Wnx E4<|Xv 7 Z Z E4<|Vs Kb ?_; refine Vb ?_; rotate_left; refine Wh1 Z<|Zv Z (Yl (a := u1) Tryz.call69 Z) (c6 _ _ ((Mono.mono exq h1))) ?_; rintro u4 w11 ⟨E2, hO2⟩; have hs9 := E2.size; refine Wnx exq<|Vf 4 Z Kb Kb Z (fun _ _ => Qt Ko Z (Owned.read hO2)) exq ?_; refine Wha [0, 5]<|Vi Z ?_ ?_
        refine Xk Kt Km (hB3.ext exq) Z<|Wnx exq<|Wha [5]<|Wh1 Z<|Zv Z (Yl (a := .int _ _) Jt Z) (cF _) ?_; rintro _ w12 ⟨rfl, E3⟩; have hs10 := E3.size; refine Wnx exq<|Wha [6]<|Wh1 Z<|Xz Z Km Z Z Ke Ke (hB2.ext ((E1.trans E2).trans E3)) Ka (((Ew1.trans E1).trans E2).trans E3) ?_; rintro w13 E4 hB2 K4 hz4; have hO1 := (hO1.ext exq).wrote K4 Ka; have hQ1 := (hQ1.ext exq).wrote K4 Ka; refine Wnx E4<|Xv 7 Z Z E4<|Vs Kb ?_; refine Vb ?_; rotate_left; refine Wh1 Z<|Zv Z (Yl (a := .int _ _) Jt Z) (cF _) ?_; rintro _ w12 ⟨rfl, E3⟩; have hs10 := E3.size
        refine Wnx exq<|Wha [0]<|Wh1 Z<|Xk Kt Km (hB3.ext exq) Z<|Wnx exq<|Wha [6]<|Wh1 Z<|Xz Z Km Z Z Ke Ke (hB2.ext ((E1.trans E2).trans E3)) Ka (((Ew1.trans E1).trans E2).trans E3) ?_; rintro w13 E4 hB2 K4 hz4; have hO1 := (hO1.ext exq).wrote K4 Ka; have hQ1 := (hQ1.ext exq).wrote K4 Ka; refine Wnx E4<|Xv 7 Z Z E4<|Vs Kb ?_; refine Vb ?_; rotate_left; contradiction
      all_goals exact ⟨b2, u3, q1, rfl, hB2, u3, q1, rfl, by repeat (first | assumption | refine Ext.trans Kd ?_), hO1.rd.wide Ka Ka, hQ1.rd.wide Ka Ka, icu3, icq1⟩
    have ea : askV d.now s = if (cutF 32 s).2.2 then ask2 d.now (cutF 32 s).1 (cutF 32 s).2.1 else [119, 104, 97, 116] := by
      unfold askV; rw [if_neg g1, if_neg g2, if_neg g3, if_neg g4, if_neg g5, if_neg g6]
    rw [ea]
    rcases ask_words d.now s with ⟨ps, e1, e2, e3⟩ | ⟨a, r, e1, e2, e3⟩
    · rw [e1] at c7
      rw [e3]
      focus
        refine Vq<|Vy Z<|Zs<|Ve<|Zu<|Wo Z (Vl Z Z)<|Vd Z<|Zs<|Vw Z fun h4 => ?_; refine Zu<|Wo Z (Vl Z Z)<|Vd Z<|Zs<|Vw Z fun h5 => ?_; refine Zu<|Wo Z (Vl Z Z)<|Vd Z<|Zs<|Vw Z fun h6 => ?_; refine Zu<|Wo Z (Vl Z Z)<|Vd Z<|Zs<|Vw Z fun h7 => ?_; refine Zu<|Wo Z (Vl Z Z)<|Vd Z<|Zs<|Vw Z fun h8 => ?_; refine Zu<|Wo Z (Vl Z Z)<|Vd Z<|Zs<|Vw Z fun h9 => ?_; refine Zz<|Zu<|Vy Z<|Zv Z (Yd (a := .string _) (b := .int _ _) Tryz.call70 Z Z) (c7 _) ?_; rintro u4 w10 ⟨E1, hO2⟩; have hs8 := E1.size
        refine Xg u4 Z<|Zs<|Zw<|Zu<|Vm u4 Z<|Vv Ky Z (Owned.read hO2)<|Vr Z<|Zs<|Zy Z fun h10 => ?_; refine Zz<|Zu<|Xk Kt Km (hB3.ext E1) Z<|Uc Km (hB2.ext E1) Z (Ew1.trans E1) ?_; rintro w11 E2 hB2 K3 hz3; have hO1 := (hO1.ext E1).wrote K3 Ka; have hQ1 := (hQ1.ext E1).wrote K3 Ka; refine Yu Z<|Zs<|Vb ?_
      all_goals exact ⟨b2, u3, q1, rfl, hB2, u3, q1, rfl, by repeat (first | assumption | refine Ext.trans Kd ?_), hO1.rd.wide Ka Ka, hQ1.rd.wide Ka Ka, icu3, icq1⟩
    · rw [e1] at c7
      rw [e3]
      have c8 : ∀ (w : World) (v : Value), ESl Ints w v d.now → Does Tryz.prog 71 [v, str a, str r] w (Ret w (str (ask2 d.now a r))) := fun w v h => l11Ask_ok w v d.now h hp a r Ka
      have stop30 : True := trivial
      focus
        have szEw1 := Ew1.size; refine Vq<|Vy Z<|Zs<|Ve<|Zu<|Wo Z (Vl Z Z)<|Vd Z<|Zs<|Vw Z fun h4 => ?_; refine Zu<|Wo Z (Vl Z Z)<|Vd Z<|Zs<|Vw Z fun h5 => ?_; refine Zu<|Wo Z (Vl Z Z)<|Vd Z<|Zs<|Vw Z fun h6 => ?_; refine Zu<|Wo Z (Vl Z Z)<|Vd Z<|Zs<|Vw Z fun h7 => ?_; refine Zu<|Wo Z (Vl Z Z)<|Vd Z<|Zs<|Vw Z fun h8 => ?_; refine Zu<|Wo Z (Vl Z Z)<|Vd Z<|Zs<|Vw Z fun h9 => ?_; refine Zz<|Zu<|Vy Z<|Zv Z (Yd (a := .string _) (b := .int _ _) Tryz.call70 Z Z) (c7 _) ?_; rintro u4 w10 ⟨E1, hO2⟩; have ichO2 := OwnedB.isC (Owned.toB hO2); have hs8 := E1.size
        refine Xg u4 Z<|Zs<|Zw<|Zu<|Vm u4 Z<|Vv Ky Z (Owned.read hO2)<|Vr Z<|Zs<|Zx Z (fun h10 => ?_) (fun h10 => ?_); refine Zw ?_; rotate_left; contradiction
      clear stop30
      obtain ⟨wb, wc, rfl, _⟩ := hO2.lit Ki
      focus
        have hB3 := (hB3.ext E1); have hB1 := (hB1.ext E1); have hB2 := (hB2.ext E1); have hO1 := (hO1.ext E1); have hQ1 := (hQ1.ext E1); have hO2 := hO2.toB; have Ew2 := (Ew1.trans E1); clear Ew1; clear szEw1; clear E1
      have heldS : w = w := rfl
      focus
        refine Qr (fun w' => Ext w w') Xy Z Kb ?_; intro w11 E1 K3 hz3; refine Sb 1 Kw Ja Z Z exq<|WtmS 3 Z Z exq<|Vf 4 Z Kb Kb Z (fun _ _ => Vn (k := 0) Ky Kr Z Z Ka) exq ?_; refine WtmS 6 Z Z exq<|Vf 7 Z Kb Kb Z (fun _ _ => Vn (k := 1) Ky Kr Z Z Ka) exq ?_; refine Wha [0, 2, 5, 8]<|Vi Z ?_ ?_; refine Xk Kt Km (hB3.ext E1) Z<|Wnx exq<|Wha [2, 5, 8]<|Vi Z ?_ ?_; refine Yz u1 Kx (hB1.ext E1) Z<|Wnx exq<|Wha [5, 8]<|Vi Z ?_ ?_; refine Uh Ks Z Z (Mono.mono E1 (OwnedB.read hO2)) Kf ?_; rintro _ ⟨rfl, -⟩
        refine Wnx exq<|Wha [8]<|Wh1 Z<|Uh Ks Z Z (Mono.mono E1 (OwnedB.read hO2)) Kf ?_; rintro _ ⟨rfl, -⟩; refine Wnx exq<|Wha [9]<|Wh1 Z<|Zv Z (Uv (a := u1) (b := .string _) (c := .string _) Jj Z Z Z) (c8 _ _ ((Mono.mono exq h1))) ?_; rintro _ w12 ⟨rfl, E2⟩; have hs10 := E2.size; refine Wnx exq<|Wha [10]<|Wh1 Z<|Uc Km (hB2.ext (E1.trans E2)) Z ((Ew2.trans E1).trans E2) ?_; rintro w13 E3 hB2 K4 hz4; have hO1 := (hO1.ext exq).wrote K4 Ka; have hQ1 := (hQ1.ext exq).wrote K4 Ka; refine Wnx E3<|Xv 11 Z Z E3<|Vs Kb ?_; refine Vb ?_; rotate_left; refine Wh1 Z<|Uh Ks Z Z (Mono.mono E1 (OwnedB.read hO2)) Kf ?_; rintro _ ⟨rfl, -⟩
        refine Wnx exq<|Wha [5]<|Wh1 Z<|Uh Ks Z Z (Mono.mono E1 (OwnedB.read hO2)) Kf ?_; rintro _ ⟨rfl, -⟩; refine Wnx exq<|Wha [9]<|Wh1 Z<|Zv Z (Uv (a := u1) (b := .string _) (c := .string _) Jj Z Z Z) (c8 _ _ ((Mono.mono exq h1))) ?_; rintro _ w12 ⟨rfl, E2⟩; have hs10 := E2.size; refine Wnx exq<|Wha [10]<|Wh1 Z<|Uc Km (hB2.ext (E1.trans E2)) Z ((Ew2.trans E1).trans E2) ?_; rintro w13 E3 hB2 K4 hz4; have hO1 := (hO1.ext exq).wrote K4 Ka; have hQ1 := (hQ1.ext exq).wrote K4 Ka; refine Wnx E3<|Xv 11 Z Z E3<|Vs Kb ?_; refine Vb ?_; rotate_left; refine Vi Z ?_ ?_; refine Uh Ks Z Z (Mono.mono E1 (OwnedB.read hO2)) Kf ?_; rintro _ ⟨rfl, -⟩
        refine Wnx exq<|Wha [2, 8]<|Vi Z ?_ ?_; refine Yz u1 Kx (hB1.ext E1) Z<|Wnx exq<|Wha [8]<|Wh1 Z<|Uh Ks Z Z (Mono.mono E1 (OwnedB.read hO2)) Kf ?_; rintro _ ⟨rfl, -⟩; refine Wnx exq<|Wha [9]<|Wh1 Z<|Zv Z (Uv (a := u1) (b := .string _) (c := .string _) Jj Z Z Z) (c8 _ _ ((Mono.mono exq h1))) ?_; rintro _ w12 ⟨rfl, E2⟩; have hs10 := E2.size; refine Wnx exq<|Wha [10]<|Wh1 Z<|Uc Km (hB2.ext (E1.trans E2)) Z ((Ew2.trans E1).trans E2) ?_; rintro w13 E3 hB2 K4 hz4; have hO1 := (hO1.ext exq).wrote K4 Ka; have hQ1 := (hQ1.ext exq).wrote K4 Ka; refine Wnx E3<|Xv 11 Z Z E3<|Vs Kb ?_; refine Vb ?_; rotate_left
        refine Wh1 Z<|Uh Ks Z Z (Mono.mono E1 (OwnedB.read hO2)) Kf ?_; rintro _ ⟨rfl, -⟩; refine Wnx exq<|Wha [2]<|Wh1 Z<|Yz u1 Kx (hB1.ext E1) Z<|Wnx exq<|Wha [9]<|Wh1 Z<|Zv Z (Uv (a := u1) (b := .string _) (c := .string _) Jj Z Z Z) (c8 _ _ ((Mono.mono exq h1))) ?_; rintro _ w12 ⟨rfl, E2⟩; have hs10 := E2.size; refine Wnx exq<|Wha [10]<|Wh1 Z<|Uc Km (hB2.ext (E1.trans E2)) Z ((Ew2.trans E1).trans E2) ?_; rintro w13 E3 hB2 K4 hz4; have hO1 := (hO1.ext exq).wrote K4 Ka; have hQ1 := (hQ1.ext exq).wrote K4 Ka; refine Wnx E3<|Xv 11 Z Z E3<|Vs Kb ?_; refine Vb ?_; rotate_left; refine Wh1 Z<|Uh Ks Z Z (Mono.mono E1 (OwnedB.read hO2)) Kf ?_; rintro _ ⟨rfl, -⟩
        refine Wnx exq<|Wha [2, 5]<|Vi Z ?_ ?_; refine Yz u1 Kx (hB1.ext E1) Z<|Wnx exq<|Wha [5]<|Wh1 Z<|Uh Ks Z Z (Mono.mono E1 (OwnedB.read hO2)) Kf ?_; rintro _ ⟨rfl, -⟩; refine Wnx exq<|Wha [9]<|Wh1 Z<|Zv Z (Uv (a := u1) (b := .string _) (c := .string _) Jj Z Z Z) (c8 _ _ ((Mono.mono exq h1))) ?_; rintro _ w12 ⟨rfl, E2⟩; have hs10 := E2.size; refine Wnx exq<|Wha [10]<|Wh1 Z<|Uc Km (hB2.ext (E1.trans E2)) Z ((Ew2.trans E1).trans E2) ?_; rintro w13 E3 hB2 K4 hz4; have hO1 := (hO1.ext exq).wrote K4 Ka; have hQ1 := (hQ1.ext exq).wrote K4 Ka; refine Wnx E3<|Xv 11 Z Z E3<|Vs Kb ?_; refine Vb ?_; rotate_left
        refine Wh1 Z<|Uh Ks Z Z (Mono.mono E1 (OwnedB.read hO2)) Kf ?_; rintro _ ⟨rfl, -⟩; refine Wnx exq<|Wha [2]<|Wh1 Z<|Yz u1 Kx (hB1.ext E1) Z<|Wnx exq<|Wha [9]<|Wh1 Z<|Zv Z (Uv (a := u1) (b := .string _) (c := .string _) Jj Z Z Z) (c8 _ _ ((Mono.mono exq h1))) ?_; rintro _ w12 ⟨rfl, E2⟩; have hs10 := E2.size; refine Wnx exq<|Wha [10]<|Wh1 Z<|Uc Km (hB2.ext (E1.trans E2)) Z ((Ew2.trans E1).trans E2) ?_; rintro w13 E3 hB2 K4 hz4; have hO1 := (hO1.ext exq).wrote K4 Ka; have hQ1 := (hQ1.ext exq).wrote K4 Ka; refine Wnx E3<|Xv 11 Z Z E3<|Vs Kb ?_; refine Vb ?_; rotate_left; refine Vi Z ?_ ?_; refine Yz u1 Kx (hB1.ext E1) Z<|Wnx exq<|Wha [0, 5, 8]<|Vi Z ?_ ?_
        refine Xk Kt Km (hB3.ext E1) Z<|Wnx exq<|Wha [5, 8]<|Vi Z ?_ ?_; refine Uh Ks Z Z (Mono.mono E1 (OwnedB.read hO2)) Kf ?_; rintro _ ⟨rfl, -⟩; refine Wnx exq<|Wha [8]<|Wh1 Z<|Uh Ks Z Z (Mono.mono E1 (OwnedB.read hO2)) Kf ?_; rintro _ ⟨rfl, -⟩; refine Wnx exq<|Wha [9]<|Wh1 Z<|Zv Z (Uv (a := u1) (b := .string _) (c := .string _) Jj Z Z Z) (c8 _ _ ((Mono.mono exq h1))) ?_; rintro _ w12 ⟨rfl, E2⟩; have hs10 := E2.size; refine Wnx exq<|Wha [10]<|Wh1 Z<|Uc Km (hB2.ext (E1.trans E2)) Z ((Ew2.trans E1).trans E2) ?_; rintro w13 E3 hB2 K4 hz4; have hO1 := (hO1.ext exq).wrote K4 Ka; have hQ1 := (hQ1.ext exq).wrote K4 Ka
        refine Wnx E3<|Xv 11 Z Z E3<|Vs Kb ?_; refine Vb ?_; rotate_left; refine Wh1 Z<|Uh Ks Z Z (Mono.mono E1 (OwnedB.read hO2)) Kf ?_; rintro _ ⟨rfl, -⟩; refine Wnx exq<|Wha [5]<|Wh1 Z<|Uh Ks Z Z (Mono.mono E1 (OwnedB.read hO2)) Kf ?_; rintro _ ⟨rfl, -⟩; refine Wnx exq<|Wha [9]<|Wh1 Z<|Zv Z (Uv (a := u1) (b := .string _) (c := .string _) Jj Z Z Z) (c8 _ _ ((Mono.mono exq h1))) ?_; rintro _ w12 ⟨rfl, E2⟩; have hs10 := E2.size; refine Wnx exq<|Wha [10]<|Wh1 Z<|Uc Km (hB2.ext (E1.trans E2)) Z ((Ew2.trans E1).trans E2) ?_; rintro w13 E3 hB2 K4 hz4; have hO1 := (hO1.ext exq).wrote K4 Ka; have hQ1 := (hQ1.ext exq).wrote K4 Ka
        refine Wnx E3<|Xv 11 Z Z E3<|Vs Kb ?_; refine Vb ?_; rotate_left; refine Vi Z ?_ ?_; refine Uh Ks Z Z (Mono.mono E1 (OwnedB.read hO2)) Kf ?_; rintro _ ⟨rfl, -⟩; refine Wnx exq<|Wha [0, 8]<|Vi Z ?_ ?_; refine Xk Kt Km (hB3.ext E1) Z<|Wnx exq<|Wha [8]<|Wh1 Z<|Uh Ks Z Z (Mono.mono E1 (OwnedB.read hO2)) Kf ?_; rintro _ ⟨rfl, -⟩; refine Wnx exq<|Wha [9]<|Wh1 Z<|Zv Z (Uv (a := u1) (b := .string _) (c := .string _) Jj Z Z Z) (c8 _ _ ((Mono.mono exq h1))) ?_; rintro _ w12 ⟨rfl, E2⟩; have hs10 := E2.size; refine Wnx exq<|Wha [10]<|Wh1 Z<|Uc Km (hB2.ext (E1.trans E2)) Z ((Ew2.trans E1).trans E2) ?_; rintro w13 E3 hB2 K4 hz4
        have hO1 := (hO1.ext exq).wrote K4 Ka; have hQ1 := (hQ1.ext exq).wrote K4 Ka; refine Wnx E3<|Xv 11 Z Z E3<|Vs Kb ?_; refine Vb ?_; rotate_left; refine Wh1 Z<|Uh Ks Z Z (Mono.mono E1 (OwnedB.read hO2)) Kf ?_; rintro _ ⟨rfl, -⟩; refine Wnx exq<|Wha [0, 9]<|Vi Z ?_ ?_; refine Xk Kt Km (hB3.ext E1) Z<|Wnx exq<|Wha [9]<|Wh1 Z<|Zv Z (Uv (a := u1) (b := .string _) (c := .string _) Jj Z Z Z) (c8 _ _ ((Mono.mono exq h1))) ?_; rintro _ w12 ⟨rfl, E2⟩; have hs10 := E2.size; refine Wnx exq<|Wha [10]<|Wh1 Z<|Uc Km (hB2.ext (E1.trans E2)) Z ((Ew2.trans E1).trans E2) ?_; rintro w13 E3 hB2 K4 hz4; have hO1 := (hO1.ext exq).wrote K4 Ka; have hQ1 := (hQ1.ext exq).wrote K4 Ka
        refine Wnx E3<|Xv 11 Z Z E3<|Vs Kb ?_; refine Vb ?_; rotate_left; refine Wh1 Z<|Zv Z (Uv (a := u1) (b := .string _) (c := .string _) Jj Z Z Z) (c8 _ _ ((Mono.mono exq h1))) ?_; rintro _ w12 ⟨rfl, E2⟩; have hs10 := E2.size; refine Wnx exq<|Wha [0]<|Wh1 Z<|Xk Kt Km (hB3.ext exq) Z<|Wnx exq<|Wha [10]<|Wh1 Z<|Uc Km (hB2.ext (E1.trans E2)) Z ((Ew2.trans E1).trans E2) ?_; rintro w13 E3 hB2 K4 hz4; have hO1 := (hO1.ext exq).wrote K4 Ka; have hQ1 := (hQ1.ext exq).wrote K4 Ka; refine Wnx E3<|Xv 11 Z Z E3<|Vs Kb ?_; refine Vb ?_; rotate_left; refine Wh1 Z<|Uh Ks Z Z (Mono.mono E1 (OwnedB.read hO2)) Kf ?_; rintro _ ⟨rfl, -⟩; refine Wnx exq<|Wha [0, 5]<|Vi Z ?_ ?_
        refine Xk Kt Km (hB3.ext E1) Z<|Wnx exq<|Wha [5]<|Wh1 Z<|Uh Ks Z Z (Mono.mono E1 (OwnedB.read hO2)) Kf ?_; rintro _ ⟨rfl, -⟩; refine Wnx exq<|Wha [9]<|Wh1 Z<|Zv Z (Uv (a := u1) (b := .string _) (c := .string _) Jj Z Z Z) (c8 _ _ ((Mono.mono exq h1))) ?_; rintro _ w12 ⟨rfl, E2⟩; have hs10 := E2.size; refine Wnx exq<|Wha [10]<|Wh1 Z<|Uc Km (hB2.ext (E1.trans E2)) Z ((Ew2.trans E1).trans E2) ?_; rintro w13 E3 hB2 K4 hz4; have hO1 := (hO1.ext exq).wrote K4 Ka; have hQ1 := (hQ1.ext exq).wrote K4 Ka; refine Wnx E3<|Xv 11 Z Z E3<|Vs Kb ?_; refine Vb ?_; rotate_left; refine Wh1 Z<|Uh Ks Z Z (Mono.mono E1 (OwnedB.read hO2)) Kf ?_; rintro _ ⟨rfl, -⟩
        refine Wnx exq<|Wha [0, 9]<|Vi Z ?_ ?_; refine Xk Kt Km (hB3.ext E1) Z<|Wnx exq<|Wha [9]<|Wh1 Z<|Zv Z (Uv (a := u1) (b := .string _) (c := .string _) Jj Z Z Z) (c8 _ _ ((Mono.mono exq h1))) ?_; rintro _ w12 ⟨rfl, E2⟩; have hs10 := E2.size; refine Wnx exq<|Wha [10]<|Wh1 Z<|Uc Km (hB2.ext (E1.trans E2)) Z ((Ew2.trans E1).trans E2) ?_; rintro w13 E3 hB2 K4 hz4; have hO1 := (hO1.ext exq).wrote K4 Ka; have hQ1 := (hQ1.ext exq).wrote K4 Ka; refine Wnx E3<|Xv 11 Z Z E3<|Vs Kb ?_; refine Vb ?_; rotate_left; refine Wh1 Z<|Zv Z (Uv (a := u1) (b := .string _) (c := .string _) Jj Z Z Z) (c8 _ _ ((Mono.mono exq h1))) ?_; rintro _ w12 ⟨rfl, E2⟩; have hs10 := E2.size
        refine Wnx exq<|Wha [0]<|Wh1 Z<|Xk Kt Km (hB3.ext exq) Z<|Wnx exq<|Wha [10]<|Wh1 Z<|Uc Km (hB2.ext (E1.trans E2)) Z ((Ew2.trans E1).trans E2) ?_; rintro w13 E3 hB2 K4 hz4; have hO1 := (hO1.ext exq).wrote K4 Ka; have hQ1 := (hQ1.ext exq).wrote K4 Ka; refine Wnx E3<|Xv 11 Z Z E3<|Vs Kb ?_; refine Vb ?_; rotate_left; refine Vi Z ?_ ?_; refine Uh Ks Z Z (Mono.mono E1 (OwnedB.read hO2)) Kf ?_; rintro _ ⟨rfl, -⟩; refine Wnx exq<|Wha [0, 2, 8]<|Vi Z ?_ ?_; refine Xk Kt Km (hB3.ext E1) Z<|Wnx exq<|Wha [2, 8]<|Vi Z ?_ ?_
        refine Yz u1 Kx (hB1.ext E1) Z<|Wnx exq<|Wha [8]<|Wh1 Z<|Uh Ks Z Z (Mono.mono E1 (OwnedB.read hO2)) Kf ?_; rintro _ ⟨rfl, -⟩; refine Wnx exq<|Wha [9]<|Wh1 Z<|Zv Z (Uv (a := u1) (b := .string _) (c := .string _) Jj Z Z Z) (c8 _ _ ((Mono.mono exq h1))) ?_; rintro _ w12 ⟨rfl, E2⟩; have hs10 := E2.size; refine Wnx exq<|Wha [10]<|Wh1 Z<|Uc Km (hB2.ext (E1.trans E2)) Z ((Ew2.trans E1).trans E2) ?_; rintro w13 E3 hB2 K4 hz4; have hO1 := (hO1.ext exq).wrote K4 Ka; have hQ1 := (hQ1.ext exq).wrote K4 Ka; refine Wnx E3<|Xv 11 Z Z E3<|Vs Kb ?_; refine Vb ?_; rotate_left; refine Wh1 Z<|Uh Ks Z Z (Mono.mono E1 (OwnedB.read hO2)) Kf ?_; rintro _ ⟨rfl, -⟩
        refine Wnx exq<|Wha [2]<|Wh1 Z<|Yz u1 Kx (hB1.ext E1) Z<|Wnx exq<|Wha [9]<|Wh1 Z<|Zv Z (Uv (a := u1) (b := .string _) (c := .string _) Jj Z Z Z) (c8 _ _ ((Mono.mono exq h1))) ?_; rintro _ w12 ⟨rfl, E2⟩; have hs10 := E2.size; refine Wnx exq<|Wha [10]<|Wh1 Z<|Uc Km (hB2.ext (E1.trans E2)) Z ((Ew2.trans E1).trans E2) ?_; rintro w13 E3 hB2 K4 hz4; have hO1 := (hO1.ext exq).wrote K4 Ka; have hQ1 := (hQ1.ext exq).wrote K4 Ka; refine Wnx E3<|Xv 11 Z Z E3<|Vs Kb ?_; refine Vb ?_; rotate_left; refine Vi Z ?_ ?_; refine Yz u1 Kx (hB1.ext E1) Z<|Wnx exq<|Wha [0, 8]<|Vi Z ?_ ?_
        refine Xk Kt Km (hB3.ext E1) Z<|Wnx exq<|Wha [8]<|Wh1 Z<|Uh Ks Z Z (Mono.mono E1 (OwnedB.read hO2)) Kf ?_; rintro _ ⟨rfl, -⟩; refine Wnx exq<|Wha [9]<|Wh1 Z<|Zv Z (Uv (a := u1) (b := .string _) (c := .string _) Jj Z Z Z) (c8 _ _ ((Mono.mono exq h1))) ?_; rintro _ w12 ⟨rfl, E2⟩; have hs10 := E2.size; refine Wnx exq<|Wha [10]<|Wh1 Z<|Uc Km (hB2.ext (E1.trans E2)) Z ((Ew2.trans E1).trans E2) ?_; rintro w13 E3 hB2 K4 hz4; have hO1 := (hO1.ext exq).wrote K4 Ka; have hQ1 := (hQ1.ext exq).wrote K4 Ka; refine Wnx E3<|Xv 11 Z Z E3<|Vs Kb ?_; refine Vb ?_; rotate_left; refine Wh1 Z<|Uh Ks Z Z (Mono.mono E1 (OwnedB.read hO2)) Kf ?_; rintro _ ⟨rfl, -⟩
        refine Wnx exq<|Wha [0, 9]<|Vi Z ?_ ?_; refine Xk Kt Km (hB3.ext E1) Z<|Wnx exq<|Wha [9]<|Wh1 Z<|Zv Z (Uv (a := u1) (b := .string _) (c := .string _) Jj Z Z Z) (c8 _ _ ((Mono.mono exq h1))) ?_; rintro _ w12 ⟨rfl, E2⟩; have hs10 := E2.size; refine Wnx exq<|Wha [10]<|Wh1 Z<|Uc Km (hB2.ext (E1.trans E2)) Z ((Ew2.trans E1).trans E2) ?_; rintro w13 E3 hB2 K4 hz4; have hO1 := (hO1.ext exq).wrote K4 Ka; have hQ1 := (hQ1.ext exq).wrote K4 Ka; refine Wnx E3<|Xv 11 Z Z E3<|Vs Kb ?_; refine Vb ?_; rotate_left; refine Wh1 Z<|Zv Z (Uv (a := u1) (b := .string _) (c := .string _) Jj Z Z Z) (c8 _ _ ((Mono.mono exq h1))) ?_; rintro _ w12 ⟨rfl, E2⟩; have hs10 := E2.size
        refine Wnx exq<|Wha [0]<|Wh1 Z<|Xk Kt Km (hB3.ext exq) Z<|Wnx exq<|Wha [10]<|Wh1 Z<|Uc Km (hB2.ext (E1.trans E2)) Z ((Ew2.trans E1).trans E2) ?_; rintro w13 E3 hB2 K4 hz4; have hO1 := (hO1.ext exq).wrote K4 Ka; have hQ1 := (hQ1.ext exq).wrote K4 Ka; refine Wnx E3<|Xv 11 Z Z E3<|Vs Kb ?_; refine Vb ?_; rotate_left; refine Wh1 Z<|Uh Ks Z Z (Mono.mono E1 (OwnedB.read hO2)) Kf ?_; rintro _ ⟨rfl, -⟩; refine Wnx exq<|Wha [0, 2]<|Vi Z ?_ ?_; refine Xk Kt Km (hB3.ext E1) Z<|Wnx exq<|Wha [2]<|Wh1 Z<|Yz u1 Kx (hB1.ext E1) Z<|Wnx exq<|Wha [9]<|Wh1 Z<|Zv Z (Uv (a := u1) (b := .string _) (c := .string _) Jj Z Z Z) (c8 _ _ ((Mono.mono exq h1))) ?_
        rintro _ w12 ⟨rfl, E2⟩; have hs10 := E2.size; refine Wnx exq<|Wha [10]<|Wh1 Z<|Uc Km (hB2.ext (E1.trans E2)) Z ((Ew2.trans E1).trans E2) ?_; rintro w13 E3 hB2 K4 hz4; have hO1 := (hO1.ext exq).wrote K4 Ka; have hQ1 := (hQ1.ext exq).wrote K4 Ka; refine Wnx E3<|Xv 11 Z Z E3<|Vs Kb ?_; refine Vb ?_; rotate_left; refine Wh1 Z<|Yz u1 Kx (hB1.ext E1) Z<|Wnx exq<|Wha [0, 9]<|Vi Z ?_ ?_; refine Xk Kt Km (hB3.ext E1) Z<|Wnx exq<|Wha [9]<|Wh1 Z<|Zv Z (Uv (a := u1) (b := .string _) (c := .string _) Jj Z Z Z) (c8 _ _ ((Mono.mono exq h1))) ?_; rintro _ w12 ⟨rfl, E2⟩; have hs10 := E2.size; refine Wnx exq<|Wha [10]<|Wh1 Z<|Uc Km (hB2.ext (E1.trans E2)) Z ((Ew2.trans E1).trans E2) ?_; rintro w13 E3 hB2 K4 hz4
        have hO1 := (hO1.ext exq).wrote K4 Ka; have hQ1 := (hQ1.ext exq).wrote K4 Ka; refine Wnx E3<|Xv 11 Z Z E3<|Vs Kb ?_; refine Vb ?_; rotate_left; refine Wh1 Z<|Zv Z (Uv (a := u1) (b := .string _) (c := .string _) Jj Z Z Z) (c8 _ _ ((Mono.mono exq h1))) ?_; rintro _ w12 ⟨rfl, E2⟩; have hs10 := E2.size; refine Wnx exq<|Wha [0]<|Wh1 Z<|Xk Kt Km (hB3.ext exq) Z<|Wnx exq<|Wha [10]<|Wh1 Z<|Uc Km (hB2.ext (E1.trans E2)) Z ((Ew2.trans E1).trans E2) ?_; rintro w13 E3 hB2 K4 hz4; have hO1 := (hO1.ext exq).wrote K4 Ka; have hQ1 := (hQ1.ext exq).wrote K4 Ka; refine Wnx E3<|Xv 11 Z Z E3<|Vs Kb ?_; refine Vb ?_; rotate_left
        refine Wh1 Z<|Uh Ks Z Z (Mono.mono E1 (OwnedB.read hO2)) Kf ?_; rintro _ ⟨rfl, -⟩; refine Wnx exq<|Wha [0, 2, 5]<|Vi Z ?_ ?_; refine Xk Kt Km (hB3.ext E1) Z<|Wnx exq<|Wha [2, 5]<|Vi Z ?_ ?_; refine Yz u1 Kx (hB1.ext E1) Z<|Wnx exq<|Wha [5]<|Wh1 Z<|Uh Ks Z Z (Mono.mono E1 (OwnedB.read hO2)) Kf ?_; rintro _ ⟨rfl, -⟩; refine Wnx exq<|Wha [9]<|Wh1 Z<|Zv Z (Uv (a := u1) (b := .string _) (c := .string _) Jj Z Z Z) (c8 _ _ ((Mono.mono exq h1))) ?_; rintro _ w12 ⟨rfl, E2⟩; have hs10 := E2.size; refine Wnx exq<|Wha [10]<|Wh1 Z<|Uc Km (hB2.ext (E1.trans E2)) Z ((Ew2.trans E1).trans E2) ?_; rintro w13 E3 hB2 K4 hz4
        have hO1 := (hO1.ext exq).wrote K4 Ka; have hQ1 := (hQ1.ext exq).wrote K4 Ka; refine Wnx E3<|Xv 11 Z Z E3<|Vs Kb ?_; refine Vb ?_; rotate_left; refine Wh1 Z<|Uh Ks Z Z (Mono.mono E1 (OwnedB.read hO2)) Kf ?_; rintro _ ⟨rfl, -⟩; refine Wnx exq<|Wha [2]<|Wh1 Z<|Yz u1 Kx (hB1.ext E1) Z<|Wnx exq<|Wha [9]<|Wh1 Z<|Zv Z (Uv (a := u1) (b := .string _) (c := .string _) Jj Z Z Z) (c8 _ _ ((Mono.mono exq h1))) ?_; rintro _ w12 ⟨rfl, E2⟩; have hs10 := E2.size; refine Wnx exq<|Wha [10]<|Wh1 Z<|Uc Km (hB2.ext (E1.trans E2)) Z ((Ew2.trans E1).trans E2) ?_; rintro w13 E3 hB2 K4 hz4; have hO1 := (hO1.ext exq).wrote K4 Ka; have hQ1 := (hQ1.ext exq).wrote K4 Ka
        refine Wnx E3<|Xv 11 Z Z E3<|Vs Kb ?_; refine Vb ?_; rotate_left; refine Vi Z ?_ ?_; refine Yz u1 Kx (hB1.ext E1) Z<|Wnx exq<|Wha [0, 5]<|Vi Z ?_ ?_; refine Xk Kt Km (hB3.ext E1) Z<|Wnx exq<|Wha [5]<|Wh1 Z<|Uh Ks Z Z (Mono.mono E1 (OwnedB.read hO2)) Kf ?_; rintro _ ⟨rfl, -⟩; refine Wnx exq<|Wha [9]<|Wh1 Z<|Zv Z (Uv (a := u1) (b := .string _) (c := .string _) Jj Z Z Z) (c8 _ _ ((Mono.mono exq h1))) ?_; rintro _ w12 ⟨rfl, E2⟩; have hs10 := E2.size; refine Wnx exq<|Wha [10]<|Wh1 Z<|Uc Km (hB2.ext (E1.trans E2)) Z ((Ew2.trans E1).trans E2) ?_; rintro w13 E3 hB2 K4 hz4; have hO1 := (hO1.ext exq).wrote K4 Ka; have hQ1 := (hQ1.ext exq).wrote K4 Ka
        refine Wnx E3<|Xv 11 Z Z E3<|Vs Kb ?_; refine Vb ?_; rotate_left; refine Wh1 Z<|Uh Ks Z Z (Mono.mono E1 (OwnedB.read hO2)) Kf ?_; rintro _ ⟨rfl, -⟩; refine Wnx exq<|Wha [0, 9]<|Vi Z ?_ ?_; refine Xk Kt Km (hB3.ext E1) Z<|Wnx exq<|Wha [9]<|Wh1 Z<|Zv Z (Uv (a := u1) (b := .string _) (c := .string _) Jj Z Z Z) (c8 _ _ ((Mono.mono exq h1))) ?_; rintro _ w12 ⟨rfl, E2⟩; have hs10 := E2.size; refine Wnx exq<|Wha [10]<|Wh1 Z<|Uc Km (hB2.ext (E1.trans E2)) Z ((Ew2.trans E1).trans E2) ?_; rintro w13 E3 hB2 K4 hz4; have hO1 := (hO1.ext exq).wrote K4 Ka; have hQ1 := (hQ1.ext exq).wrote K4 Ka; refine Wnx E3<|Xv 11 Z Z E3<|Vs Kb ?_; refine Vb ?_; rotate_left
        refine Wh1 Z<|Zv Z (Uv (a := u1) (b := .string _) (c := .string _) Jj Z Z Z) (c8 _ _ ((Mono.mono exq h1))) ?_; rintro _ w12 ⟨rfl, E2⟩; have hs10 := E2.size; refine Wnx exq<|Wha [0]<|Wh1 Z<|Xk Kt Km (hB3.ext exq) Z<|Wnx exq<|Wha [10]<|Wh1 Z<|Uc Km (hB2.ext (E1.trans E2)) Z ((Ew2.trans E1).trans E2) ?_; rintro w13 E3 hB2 K4 hz4; have hO1 := (hO1.ext exq).wrote K4 Ka; have hQ1 := (hQ1.ext exq).wrote K4 Ka; refine Wnx E3<|Xv 11 Z Z E3<|Vs Kb ?_; refine Vb ?_; rotate_left; refine Wh1 Z<|Uh Ks Z Z (Mono.mono E1 (OwnedB.read hO2)) Kf ?_; rintro _ ⟨rfl, -⟩; refine Wnx exq<|Wha [0, 2]<|Vi Z ?_ ?_
        refine Xk Kt Km (hB3.ext E1) Z<|Wnx exq<|Wha [2]<|Wh1 Z<|Yz u1 Kx (hB1.ext E1) Z<|Wnx exq<|Wha [9]<|Wh1 Z<|Zv Z (Uv (a := u1) (b := .string _) (c := .string _) Jj Z Z Z) (c8 _ _ ((Mono.mono exq h1))) ?_; rintro _ w12 ⟨rfl, E2⟩; have hs10 := E2.size; refine Wnx exq<|Wha [10]<|Wh1 Z<|Uc Km (hB2.ext (E1.trans E2)) Z ((Ew2.trans E1).trans E2) ?_; rintro w13 E3 hB2 K4 hz4; have hO1 := (hO1.ext exq).wrote K4 Ka; have hQ1 := (hQ1.ext exq).wrote K4 Ka; refine Wnx E3<|Xv 11 Z Z E3<|Vs Kb ?_; refine Vb ?_; rotate_left; refine Wh1 Z<|Yz u1 Kx (hB1.ext E1) Z<|Wnx exq<|Wha [0, 9]<|Vi Z ?_ ?_
        refine Xk Kt Km (hB3.ext E1) Z<|Wnx exq<|Wha [9]<|Wh1 Z<|Zv Z (Uv (a := u1) (b := .string _) (c := .string _) Jj Z Z Z) (c8 _ _ ((Mono.mono exq h1))) ?_; rintro _ w12 ⟨rfl, E2⟩; have hs10 := E2.size; refine Wnx exq<|Wha [10]<|Wh1 Z<|Uc Km (hB2.ext (E1.trans E2)) Z ((Ew2.trans E1).trans E2) ?_; rintro w13 E3 hB2 K4 hz4; have hO1 := (hO1.ext exq).wrote K4 Ka; have hQ1 := (hQ1.ext exq).wrote K4 Ka; refine Wnx E3<|Xv 11 Z Z E3<|Vs Kb ?_; refine Vb ?_; rotate_left; refine Wh1 Z<|Zv Z (Uv (a := u1) (b := .string _) (c := .string _) Jj Z Z Z) (c8 _ _ ((Mono.mono exq h1))) ?_; rintro _ w12 ⟨rfl, E2⟩; have hs10 := E2.size
        refine Wnx exq<|Wha [0]<|Wh1 Z<|Xk Kt Km (hB3.ext exq) Z<|Wnx exq<|Wha [10]<|Wh1 Z<|Uc Km (hB2.ext (E1.trans E2)) Z ((Ew2.trans E1).trans E2) ?_; rintro w13 E3 hB2 K4 hz4; have hO1 := (hO1.ext exq).wrote K4 Ka; have hQ1 := (hQ1.ext exq).wrote K4 Ka; refine Wnx E3<|Xv 11 Z Z E3<|Vs Kb ?_; refine Vb ?_; rotate_left
      all_goals exact ⟨b2, u3, q1, rfl, hB2, u3, q1, rfl, by repeat (first | assumption | refine Ext.trans Kd ?_), hO1.rd.wide Ka Ka, hQ1.rd.wide Ka Ka, icu3, icq1⟩
 ·rw [show dlV d s=(⟨[],[]⟩,[]) from if_neg hd]
  have k0 : ∀ w,ESl Ints w u1 d.now→ESl (ESl Ints) w u2 d.past→Does Tryz.prog 16 [.agg #[u1,u2]] w (Ret w (.bool false)):=fun w h1 h2=>by
   have:=Rc w u1 u2 d h1 h2;rwa [decide_eq_false hd] at this
  focus
   refine Zu<|Yx Z Z Z ?_;rintro b1 w1 hb1 E1 hB1;have hlb1:=hB1.lt;refine Yn Z Xj ?_;rintro b2 w2 hb2 E2 hB2;refine Yu Z<|Zs<|Zw<|Zu<|Xk Kt Km (hB1.ext E2) Z<|Zv Z (Yl (a:=.agg _) Jw Z) (k0 _ ((Mono.mono exq h1)) ((Mono.mono exq h2))) ?_;rintro _ w3 ⟨rfl,E3⟩;refine Xd Z<|Zs<|Xr Z (fun h3=>?_) (fun h3=>?_);refine Zu<|Wo Z (Vx (ps:=[]) (cs:=[_,_]) Xj Z Z)<|Uc Km (hB2.ext E3) Z ((E1.trans E2).trans E3) ?_;rintro w4 E4 hB2 K1 hz1;have E5:=(E2.trans E3).wroteAt exq E4 K1 hz1 Ka;have szE5:=E5.size;refine Yu Z<|Zs<|Vb ?_;rotate_left;contradiction
  exact ⟨b2,_,_,rfl,hB2,_,_,rfl,by exact E4,nil1 _ _ Ka,nil2 _ _ Ka,rfl,rfl⟩
theorem sameDesk_ok (w:World) (u1 u2 v1 v2:Value) (p p':List (List Int)) (q q':List (List (List Int))) (h1:ESl Ints w u1 p) (h2:ESl (ESl Ints) w u2 q) (h3:ESl Ints w v1 p') (h4:ESl (ESl Ints) w v2 q') :
  Does Tryz.prog 15 [.agg #[u1,u2],.agg #[v1,v2]] w (Ret w (.bool (decide (p=p'∧q=q')))):=by
 have icu1:isCell u1=true:=Qe h1
 have icu2:isCell u2=true:=Qe h2
 have icv1:isCell v1=true:=Qe h3
 have icv2:isCell v2=true:=Qe h4
 have hle:=h2.le
 have hle':=h4.le
 refine Vu Tryz.func15 Z Tryz.results15 Tryz.ntmps15 Z ?_
 focus
  refine Zu<|Yx Z Z Z ?_;rintro b1 w1 hb1 E1 hB1;refine Yx Z Z Z ?_;rintro b2 w2 hb2 E2 hB2;refine Vd Z<|Zs<|Zw<|Zu<|Vo Kw Jd Z<|Yz u2 Jg (hB1.ext E2) Z<|Vv Jf Z h2<|Vo Kw Jd Z<|Yz v2 Jg hB2 Z<|Vv Jf Z h4<|Um Z<|Zs<|Yq Z (fun h5=>?_) (fun h5=>?_);refine Zu<|Vd Z<|Zs<|Vb ?_;refine Vk (v:=.bool _) Z ?_;refine ⟨congrArg Value.bool ?_,exq⟩;rotate_left;refine Zz<|Zw<|Zu<|Yb Z<|Zs<|Ve ?_;rotate_left
 ·exact (decide_eq_false (fun e=>by obtain ⟨_,e⟩:=e;subst e;omega)).symm
 refine Yw [4,5,13,14,15,16,17,18,19,20,21,22,23,24,25,26,27,28,29,30,31] (fun (k:Nat)=>[(5,.int .i64 (k:Nat))]) (fun k w'=>Ext w2 w'∧k≤q.length∧q.take k=q'.take k) (fun x=>q.length - x) 0 Kg ?_ ?_
 ·exact ⟨Ext.refl _,Nat.zero_le _,Ki⟩
 rintro k ρj w3 ⟨E3,hk,he⟩
 focus
  refine Zw<|Zu<|Vc Z<|Vo Kw Jd Z<|Yz u2 Jg (hB1.ext exq) Z<|Vv Jf Z h2<|Yc Z<|Zs<|Zx Z (fun h6=>?_) (fun h6=>?_);refine Zz<|Zw<|Ve<|Zw<|Ul Xy Kb Z ?_;refine Qc Kw Jd Z<|Xt (v:=u2) Z (fun w' hw'=>Yg Jg Z (((hB1.ext exq).ext hw').cell Z)) ?_;refine Sa Z<|Uk Jf Ja Kx Z (fun _=>Z) Z h2 exq Z Kf ?_;rintro _ u3 hu1;refine Qc Kw Jd Z<|Xt (v:=v2) Z (fun w' hw'=>Yg Jg Z (((hB2.ext E3).ext hw').cell Z)) ?_
  refine Sa Z<|Uk Jf Ja Kx Z (fun _=>Z) Z h4 exq Z Kf ?_;rintro _ u4 hu2;refine Qg Z (fun _ _=>Yd (a:=u3) (b:=u4) Tryz.call72 Z Z) (fun w' hw'=>(sameRows_ok _ _ _ _ _ ((Mono.mono exq hu1)) ((Mono.mono exq hu2)))) ?_;refine Nr Z<|Ud (fun w4 E4=>?_);refine Yq Z (fun h7=>?_) (fun h7=>?_);refine Zu<|Vd Z<|Zs<|Vb ?_;refine Vk (v:=.bool _) Z ?_;refine ⟨congrArg Value.bool ?_,exq⟩;rotate_left;refine Zz<|Vq<|Vc Z<|Yk Z<|Yb Z<|Zs ?_;rotate_left;refine Yp ?_;refine Vp ?_
  refine Zu<|Vo Kw Ja Z<|Yz u1 Kx (hB1.ext exq) Z<|Vo Kw Ja Z<|Yz v1 Kx (hB2.ext E3) Z<|Zv Z (Yd (a:=u1) (b:=v1) Tryz.call72 Z Z) (sameRows_ok _ _ _ _ _ ((Mono.mono exq h1)) ((Mono.mono exq h3))) ?_;rintro _ w4 ⟨rfl,E4⟩;refine Vd Z<|Zs<|Vb ?_;refine Vk (v:=.bool _) Z ?_;refine ⟨congrArg Value.bool ?_,exq⟩;rotate_left
 ·exact (decide_eq_false (fun e=>ne_at (k:=k) Ka Ka Kd e.2)).symm
 ·refine ⟨(k+1),Kg,Kh,?_,?_⟩
  ·exact ⟨E3.trans Kd,Ka,(Td Ka Ka).2 ⟨he,Kd⟩⟩
  ·omega
 ·obtain rfl:k=q.length:=by omega
  have hq:=ext_take Ka he
  rw [hq]
  simp
theorem noDesk_ok (w:World) (u1 u2:Value) (p:List (List Int)) (q:List (List (List Int))) (h1:ESl Ints w u1 p) (h2:ESl (ESl Ints) w u2 q) :
  Does Tryz.prog 17 [.agg #[u1,u2]] w (Ret w (.bool (decide (p=[]∧q=[])))):=by
 have icu1:isCell u1=true:=Qe h1
 have icu2:isCell u2=true:=Qe h2
 have kD:=fun (w:World) (h1:ESl Ints w u1 p) (h2:ESl (ESl Ints) w u2 q)=>sameDesk_ok w u1 u2 (.slice none 0 0) (.slice none 0 0) p [] q [] h1 h2 ⟨_,_,rfl,RSl.nil⟩ ⟨_,_,rfl,RSl.nil⟩
 refine Vu Tryz.func17 Z Tryz.results17 Tryz.ntmps17 Z ?_
 focus
  refine Zu<|Yx Z Z Z ?_;rintro b1 w1 hb1 E1 hB1;refine Vd Z<|Zs<|Zw<|Vq<|Xk Kt Km hB1 Z<|Wo Z (Vx (ps:=[]) (cs:=[_,_]) Xj Z Z)<|Zv Z (Yd (a:=.agg _) (b:=.agg _) Zk Z Z) (kD _ ((Mono.mono E1 h1)) ((Mono.mono E1 h2))) ?_;rintro _ w2 ⟨rfl,E2⟩;refine Vd Z<|Zs<|Vb ?_;exact ⟨rfl,exq⟩
theorem lnV_ok {d:Dsk} (h:DkOk d) (s:List UInt8):DkOk (lnV d s).1:=by
 unfold lnV
 split
 ·exact doV_ok h
 ·exact h
theorem Twin_ok {w0:World} (w:World) {br m:Nat} (n:Int) (hr:Rdr w0 w br m) (hm:m≤10000000) (hn:0≤n∧n≤1000) :
  Does Tryz.prog 105 [.pointer (some ⟨br,0,none⟩),.int .i64 n] w (RetDO w0 w br (m+63) XR (fun p=>p.length≤5∧∀ r ∈ p,r.length≤6)):=by
 refine Vu Tryz.func105 Z Tryz.results105 Tryz.ntmps105 Z ?_
 have hG:w.grownBy w (some br):=Ra _ _
 have hlr:=hr.lt
 have hgr:=hr.ge
 focus
  refine Zu<|Xm Z<|Zs<|Zu<|Ua Z<|Vc Z<|Zv Z (Yd (a:=.pointer _) (b:=.int _ _) Tryz.call151 Z Z) (Picture_ok _ _ Kd Ka Kd) ?_;rintro u1 w1 ⟨E1,hr1,x1,hO1,hy1⟩;(try dsimp only at hy1);have hG:=Vh hG E1;refine Xg u1 Z<|Zs<|Zw<|Zw<|Vq<|Vm u1 Z ?_
 by_cases hp:Pic x1
 ·have hk : ∀ w u,ESl Ints w u x1→Does Tryz.prog 115 [u] w (Ret w (.bool true)):=fun w u h=>by
   have:=Uq w u x1 h
   rw [decide_eq_true hp] at this;exact this
  focus
   refine Zv Z (Yl (a:=u1) Jv Z) (hk _ _ ((Owned.read hO1))) ?_;rintro _ w2 ⟨rfl,E2⟩;have hr1:=hr1.ext E2;have hG:=Vj hG E2;refine Yt Z<|Vm u1 Z<|Vv Kp Z (Owned.read hO1)<|Ut Z<|Xb Z<|Ym Z (fun h1=>?_) (fun h1=>?_);refine Ua Z<|Zv Z (Yd (a:=.pointer _) (b:=.int _ _) Jb Z Z) (Yv _ _ Kd Ka) ?_;rintro _ w3 ⟨y1,rfl,E3,hr2,hy2⟩;(try dsimp only at hy2);have hO1:=(hO1.toB.ext E2).grown E3 Ka;have hG:=Vh hG E3;refine Vr Z<|Xb Z<|Zs<|Zx Z (fun h2=>?_) (fun h2=>?_);refine Zu<|Ua Z<|Vm u1 Z<|Vv Kp Z (OwnedB.read hO1)<|Zv Z (Yd (a:=.pointer _) (b:=.int _ _) Jb Z Z) (Yv _ _ Kd Ka) ?_
   rintro _ w4 ⟨y2,rfl,E4,hr3,hy3⟩;(try dsimp only at hy3);have hO1:=hO1.grown E4 Ka;have hG:=Vh hG E4;refine Yb Z<|Zs<|Zu<|Ua Z<|Vm u1 Z<|Vv Kp Z (OwnedB.read hO1)<|Zv Z (Yd (a:=.pointer _) (b:=.int _ _) Jb Z Z) (Yv _ _ Kd Ka) ?_;rintro _ w5 ⟨y3,rfl,E5,hr4,hy4⟩;(try dsimp only at hy4);have hO1:=hO1.grown E5 Ka;have hG:=Vh hG E5;refine Yb Z<|Zs<|Zu<|Yb Z<|Zs<|Ve ?_;rotate_left;refine Zz<|Zu<|Vm u1 Z<|Xg u1 Z<|Zs<|Vb ?_;refine Vk (v:=u1) Z ?_;rotate_left;refine Zt Z<|Zt Z<|Zt Z<|Ye Z<|Zs<|Va Z ?_;refine Zz<|Zu<|Vm u1 Z<|Xg u1 Z<|Zs<|Vb ?_;refine Vk (v:=u1) Z ?_
   rotate_left
  ·have hy3':=hy3 Ka
   have hy4':=hy4 Ka
   have hlen : ∀ r ∈ x1,r.length=x1.length:=fun r hr=>(hp.2.2 r hr).1
   clear hp hk
   refine Yw [8,32,33,34,35,36,37,38,39,40,41,42,43,44,45,46,47,48,49,50] (fun (j,rows)=>[(8,.int .i64 (j:Nat))]) (fun (j,rows) w'=>w.grownBy w' (some br)∧Rdr w0 w' br (m+63)∧j≤x1.length∧Owned w.heap.size XR w' u1 rows∧rows.length=x1.length∧∀ r ∈ rows,r.length=x1.length) (fun x=>x1.length - x.1) (0,x1) Kg ?_ ?_
   ·exact ⟨hG,hr4,Nat.zero_le _,hO1.o,rfl,hlen⟩
   rintro ⟨j,rows⟩ ρj w6 ⟨hG6,hr6,hj,hO6,hrl,hrr⟩
   have E6:=hr6.old
   by_cases hlt:j < x1.length
   ·obtain ⟨ub,uc,rfl,_⟩:=hO6.lit Ka
    have hrb:=hrr rows[y3] (List.getElem_mem Ka)
    have hra:=hrr rows[y2] (List.getElem_mem Ka)
    have hset : ∀ r':List Int,r'.length=x1.length→∀ r ∈ rows.set y3 r',r.length=x1.length:=by
     intro r' h9 r hr9
     rcases List.mem_or_eq_of_mem_set hr9 with h | h
     ·exact hrr r h
     ·rw [h];exact h9
    focus
     refine Zw<|Zu<|Vc Z<|Qo Z<|Vv Kp Z (Owned.read hO6)<|Yc Z<|Zs<|Zx Z (fun h3=>?_) (fun h3=>?_);refine Zz<|Zw<|Ve<|Qr (fun _=>True) Xy Z Kb ?_;intro w7 E7 K1 hz1;have hG6:=Vj hG6 E7;have hr6:=hr6.ext E7;refine WtmS 0 Z Z trivial<|Nh 1 Z Z trivial<|Vf 2 Z Kb Kb Z (fun _ _=>Vn Kp Kz Z Z Ka) trivial ?_;refine Nh 4 Z Z trivial<|WtmS 5 Z Z trivial<|Nh 6 Z Z trivial<|Vf 7 Z Kb Kb Z (fun _ _=>Vn Kp Kz Z Z Ka) trivial ?_;refine Nh 9 Z Z trivial<|Wha [3,8]<|Vi Z ?_ ?_;rotate_left;refine Wh1 Z ?_;rotate_left;(exfalso;omega)
    all_goals
     have hO7:=hO6.ext E7
     obtain ⟨bra,cra,hRa,ha1,ha2,ha3,ha4⟩:=rowCell hO7 (i:=y2) (j:=j) Ka Ka
     obtain ⟨brb,crb,hRb,hb1,hb2,hb3,hb4⟩:=rowCell hO7 (i:=y3) (j:=j) Ka Ka
    ·focus
      refine Wo Z (Yg Jc Z Kd) ?_;refine Wnx trivial<|Wha [8]<|Wh1 Z<|Wo Z (Yg Jc Z Kd) ?_;refine Wnx trivial<|Vf 10 Z Kb Kb Z (fun _ _=>Vn Ko Kl Z Z Ka) trivial ?_;refine Wha [11]<|Wh1 Z<|Wo Z (Yg Kn Z Kd) ?_;refine Wnx trivial<|Vf 12 Z Kb Kb Z (fun _ _=>Vn Ko Kl Z Z Ka) trivial ?_;refine Wha [13]<|Wh1 Z<|Sn Z Kl Z Z (hO6.toB.ext E7) hRb Kf Kf ?_;rintro w8 hO6 hRb On1 K2 hz2;have E8:=On1.ext1 (E6.trans E7) Ka;have hG6:=Vz hG6 (E6.trans E7) E8 K2 hz2 (by first | exact .inr rfl | omega)
      have hr6:=hr6.wrote E8 (K2 _ Ka) hz2;refine Wnx trivial<|Vs Kb ?_;refine Vq<|Vc Z<|Yk Z<|Yb Z<|Zs ?_;rotate_left
     refine ⟨((j+1,rows.set y3 (rows[y3].set j rows[y2][j]))),Kg,Kh,?_,?_⟩
     ·exact ⟨hG6,hr6,Ka,hO6,by simp [hrl],hset _ (by simp [hrb])⟩
     ·simp only;omega
    ·focus
      refine Wo Z (Yg Jc Z Kd) ?_;refine Wnx trivial<|Vf 10 Z Kb Kb Z (fun _ _=>Vn Ko Kl Z Z Ka) trivial ?_;refine Wha [3,11]<|Vi Z ?_ ?_;refine Wo Z (Yg Jc Z Kd) ?_;refine Wnx trivial<|Wha [11]<|Wh1 Z<|Wo Z (Yg Kn Z Kd) ?_;refine Wnx trivial<|Vf 12 Z Kb Kb Z (fun _ _=>Vn Ko Kl Z Z Ka) trivial ?_;refine Wha [13]<|Wh1 Z<|Sn Z Kl Z Z (hO6.toB.ext E7) hRb Kf Kf ?_;rintro w8 hO6 hRb On1 K2 hz2;have E8:=On1.ext1 (E6.trans E7) Ka
      have hG6:=Vz hG6 (E6.trans E7) E8 K2 hz2 (by first | exact .inr rfl | omega);have hr6:=hr6.wrote E8 (K2 _ Ka) hz2;refine Wnx trivial<|Vs Kb ?_;refine Vq<|Vc Z<|Yk Z<|Yb Z<|Zs ?_;rotate_left;refine Wh1 Z<|Wo Z (Yg Kn Z Kd) ?_;refine Wnx trivial<|Wha [3]<|Wh1 Z<|Wo Z (Yg Jc Z Kd) ?_;refine Wnx trivial<|Vf 12 Z Kb Kb Z (fun _ _=>Vn Ko Kl Z Z Ka) trivial ?_;refine Wha [13]<|Wh1 Z<|Sn Z Kl Z Z (hO6.toB.ext E7) hRb Kf Kf ?_;rintro w8 hO6 hRb On1 K2 hz2;have E8:=On1.ext1 (E6.trans E7) Ka
      have hG6:=Vz hG6 (E6.trans E7) E8 K2 hz2 (by first | exact .inr rfl | omega);have hr6:=hr6.wrote E8 (K2 _ Ka) hz2;refine Wnx trivial<|Vs Kb ?_;refine Vq<|Vc Z<|Yk Z<|Yb Z<|Zs ?_;rotate_left
     ·refine ⟨((j+1,rows.set y3 (rows[y3].set j rows[y2][j]))),Kg,Kh,?_,?_⟩
      ·exact ⟨hG6,hr6,Ka,hO6,by simp [hrl],hset _ (by simp [hrb])⟩
      ·simp only;omega
     ·refine ⟨((j+1,rows.set y3 (rows[y3].set j rows[y2][j]))),Kg,Kh,?_,?_⟩
      ·exact ⟨hG6,hr6,Ka,hO6,by simp [hrl],hset _ (by simp [hrb])⟩
      ·simp only;omega
   ·obtain rfl:j=x1.length:=by omega
    focus
     refine Zw<|Zu<|Vc Z<|Vm u1 Z<|Vv Kp Z (Owned.read hO6)<|Yc Z<|Zs<|Zy Z fun h3=>?_;refine Yp ?_;refine Vp ?_;refine Zu<|Vm u1 Z<|Xg u1 Z<|Zs<|Vb ?_;refine Vk (v:=u1) Z ?_
    exact ⟨hG6,hr6,_,hO6,Ka,fun r h=>by have:=hrr r h;omega⟩
  ·exact ⟨hG,hr2.le Ka,_,hO1.o,hy1⟩
  ·exact ⟨hG,hr1.le Ka,_,hO1.ext E2,hy1⟩
 ·have hk : ∀ w u,ESl Ints w u x1→Does Tryz.prog 115 [u] w (Ret w (.bool false)):=fun w u h=>by
   have:=Uq w u x1 h
   rw [decide_eq_false hp] at this;exact this
  focus
   refine Zv Z (Yl (a:=u1) Jv Z) (hk _ _ ((Owned.read hO1))) ?_;rintro _ w2 ⟨rfl,E2⟩;have hr1:=hr1.ext E2;have hG:=Vj hG E2;refine Yt Z<|Zt Z<|Zt Z<|Zt Z<|Ye Z<|Yt Z<|Zt Z<|Zt Z<|Zt Z<|Ye Z<|Zs<|Va Z ?_;refine Zz<|Zu<|Vm u1 Z<|Xg u1 Z<|Zs<|Vb ?_;refine Vk (v:=u1) Z ?_
  exact ⟨hG,hr1.le Ka,_,hO1.ext E2,hy1⟩
end Go.Proofs.YtbgpppaljpngmaaGreatDoor
