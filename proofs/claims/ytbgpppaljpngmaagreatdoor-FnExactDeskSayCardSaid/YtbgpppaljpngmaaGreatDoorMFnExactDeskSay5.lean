/- Lemmas for FnExactDeskSay. -/
import Derived.Test.YtbgpppaljpngmaaGreatDoorMFnExactDeskSay4
import Derived.Laws.StructEq
import Derived.Tactics
import Derived.Tactics2
namespace Go.Proofs.YtbgpppaljpngmaaGreatDoor
open Go.Hs
set_option maxRecDepth 10000
set_option maxHeartbeats 4000000
set_option linter.unusedVariables false
set_option linter.unusedSimpArgs false
theorem doV_none {d:Dsk} {a:Deed} (h1 : ¬isBack d a) (h2:nextV d.now a=none):doV d a=(d,false):=by
 unfold doV;rw [if_neg h1,h2]
theorem madeV_t {p:List (List Int)} {k n:Int} {t:List UInt8} (h : ¬(k=1∨k=2∨t=[])):madeV p ⟨k,t,n⟩=none:=by
 simp only [madeV]
 rw [if_neg (fun e=>h (.inr (.inr e.2.1))),if_neg (fun e=>h (.inl e.1)),if_neg (fun e=>h (.inr (.inl e.1))),if_neg (fun e=>h (.inr (.inr e.2.1)))]
theorem madeV_n {p:List (List Int)} {k n:Int} {t:List UInt8} (h : ¬(k=3∨n=0)):madeV p ⟨k,t,n⟩=none:=by
 simp only [madeV]
 rw [if_neg (fun e=>h (.inr e.2.2)),if_neg (fun e=>h (.inr e.2)),if_neg (fun e=>h (.inr e.2)),if_neg (fun e=>h (.inl e.1))]
open Classical in
theorem deskDo_ok (w:World) (hM:EMx gMx w (.bool true) ()) (u1 u2:Value) (d:Dsk) (h1:ESl Ints w u1 d.now) (h2:ESl (ESl Ints) w u2 d.past) (hd:DkOk d) (k n:Int) (t:List UInt8) (ht:t.length≤1048576) :
  Does Tryz.prog 92 [.agg #[u1,u2],.agg #[.int .i64 k,str t,.int .i64 n]] w (RetDkB w 23 88 3 (doV d ⟨k,t,n⟩).1.now (doV d ⟨k,t,n⟩).1.past (doV d ⟨k,t,n⟩).2):=by
 obtain ⟨p,pp⟩:=d
 have hle:=h2.le
 have i1:isCell u1=true:=Uu h1
 have i2:isCell u2=true:=Uu h2
 simp only at h1 h2 hle
 have hpp:Pic p:=hd.1.1
 have hppl:pp.length≤8:=hd.2.1
 have bnd : ∀ q,Pic q→q.length≤100∧∀ r ∈ q,r.length≤100:=fun q hq=>⟨by have:=hq.2.1;omega,fun r hr=>by rw [(hq.2.2 r hr).1];have:=hq.2.1;omega⟩
 have hb2 : ∀ q ∈ pp,q.length≤100∧∀ r ∈ q,r.length≤100:=fun q hq=>bnd q (hd.2.2 q hq).1
 have k1 : ∀ w,ESl Ints w u1 p→ESl (ESl Ints) w u2 pp→Does Tryz.prog 77 [.agg #[u1,u2]] w (RetDk w 23 88 3 p pp):=fun w h1 h2=>Sh w u1 u2 p pp h1 h2 (bnd p hpp) Ka hb2
 refine Su Tryz.func92 Z Tryz.results92 Tryz.ntmps92 Z Ks Ko ?_
 by_cases hA:k=1∨k=2∨t=[]
 ·by_cases hB:k=3∨n=0
  ·by_cases h4:k=4
   ·subst h4
    have et:t=[]:=by rcases hA with h | h | h;exact absurd h Kc;exact absurd h Kc;exact h
    have en:n=0:=by rcases hB with h | h;exact absurd h Kc;exact h
    subst et en
    by_cases hpl:pp=[]
    ·have hdo:doV ⟨p,pp⟩ ⟨4,[],0⟩=(⟨p,pp⟩,false):=doV_none (fun h=>h.2 hpl) (by simp [nextV,madeV])
     have hpl0:pp.length=0:=by rw [hpl];rfl
     rw [hdo]
     focus
      refine Zp<|Yl Z Z Z ?_;rintro b1 w1 hb1 E1 hB1;have hlb1:=hB1.lt;refine Yl Z Z Z ?_;rintro b2 w2 hb3 E2 hB2;have hlb2:=hB2.lt;refine Yp Z Xf ?_;rintro b3 w3 hb4 E3 hB3;have hlb3:=hB3.lt;have hs3:=E3.size;refine Zz Z<|Zn<|Zp<|Xc Ks Ko (hB1.ext exq) Z<|Zr Z (Vx (a:=.agg _) Gf Z) (k1 _ ((Mono.mono exq h1)) ((Mono.mono exq h2))) ?_;rintro _ w4 ⟨u3,q1,m1,rfl,E4,hO1,hQ1,hm1,hn1⟩;have icu3:=OwnedB.isC hO1;have icq1:=OwnedB.isC (Owned.toB hQ1);have hs4:=E4.size;refine Yp Z Xf ?_;rintro b4 w5 hb5 E5 hB4;have hlb4:=hB4.lt;refine Xj Z Ko Z Z Ke Ke hB4 Ka ((((E1.trans E2).trans E3).trans E4).trans E5) ?_;rintro w6 E6 hB4 K1 hz1
      have hB2:=(hB2.ext exq).of_heap (K1 _ Ka);have hB3:=(hB3.ext exq).of_heap (K1 _ Ka);have hO1:=(hO1.ext E5).wrote K1 Ka;have hQ1:=(hQ1.toB.ext E5).wrote K1 Ka;refine Zn<|Zp<|Vn Kq Kl Z<|Yk Km hB2 Z<|Vm Z<|Yw Z fun h3=>?_;refine Vn Kq Kl Z<|Yk Km hB2 Z<|Vm Z<|Vp Z<|Zz Z<|Zn<|Zq<|Zp<|Yi Z<|Ym Z<|Uh Z (fun h4=>?_) (fun h4=>?_);refine Vn Kq Ku Z<|Ul Kv hB2 Z<|Wo Z (Xb Z Z)<|Yq Z<|WspndecF Z fun h5=>?_;refine Vn Kq Kl Z<|Yk Km hB2 Z<|Xo Z<|Uh Z (fun h6=>?_) (fun h6=>?_)
      refine Vn Kq Kl Z<|Yk Km hB2 Z<|Xo Z<|Yq Z<|Vp Z<|Zn<|Uv Z fun h7=>?_;refine Zv<|Zq<|Zp<|Vn Kq Kl Z<|Yk Km hB2 Z<|Vm Z<|Zn<|Zs Z (fun h8=>?_) (fun h8=>?_);refine Zq<|Zp<|Vn Ky Jb Z<|Yu q1 Jf hB4 Z<|Vk Jc Z (OwnedB.read hQ1)<|Vm Z<|Zn<|Zs Z (fun h9=>?_) (fun h9=>?_);refine Zp<|Xc Ks Ko hB4 Z<|Ui Ko hB3 Z E6 ?_;rintro w7 E11 hB3 K2 hz2;have hO1:=hO1.wrote K2 Ka;have hQ1:=hQ1.wrote K2 Ka;refine Zz Z<|Zn<|Zy ?_;rotate_left;(exfalso;omega);contradiction;contradiction;contradiction
     exact ⟨b3,u3,q1,rfl,hB3,u3,q1,m1,rfl,by exact E11,hO1.wide Ka (Nat.le_refl _),hQ1.o,Ka,Ka⟩
    ·have hpl0:0 < pp.length:=List.length_pos_iff.2 hpl
     have hdo:doV ⟨p,pp⟩ ⟨4,[],0⟩=(⟨pp.getLastD [],pp.dropLast⟩,true):=by unfold doV;rw [if_pos ⟨rfl,hpl⟩]
     rw [hdo]
     simp only
     have stop8:True:=trivial
     focus
      refine Zp<|Yl Z Z Z ?_;rintro b1 w1 hb1 E1 hB1;have hlb1:=hB1.lt;refine Yl Z Z Z ?_;rintro b2 w2 hb3 E2 hB2;have hlb2:=hB2.lt;refine Yp Z Xf ?_;rintro b3 w3 hb4 E3 hB3;have hlb3:=hB3.lt;refine Zz Z<|Zn<|Zp<|Xc Ks Ko (hB1.ext exq) Z<|Zr Z (Vx (a:=.agg _) Gf Z) (k1 _ ((Mono.mono exq h1)) ((Mono.mono exq h2))) ?_;rintro _ w4 ⟨u3,q1,m1,rfl,E4,hO1,hQ1,hm1,hn1⟩;have icu3:=OwnedB.isC hO1;have icq1:=OwnedB.isC (Owned.toB hQ1);have cpq1:=OwnedB.capOk (Owned.toB hQ1);have hs4:=E4.size;refine Yp Z Xf ?_;rintro b4 w5 hb5 E5 hB4;have hlb4:=hB4.lt;refine Xj Z Ko Z Z Ke Ke hB4 Ka ((((E1.trans E2).trans E3).trans E4).trans E5) ?_;rintro w6 E6 hB4 K1 hz1
      have E7:=(((E2.trans E3).trans E4).trans E5).wroteAt exq E6 K1 hz1 Ka;have E8:=((E3.trans E4).trans E5).wroteAt exq E6 K1 hz1 Ka;have E9:=(E4.trans E5).wroteAt exq E6 K1 hz1 Ka;have szE9:=E9.size;have E10:=E5.wroteAt exq E6 K1 hz1 Ka;have szE10:=E10.size;have hB1:=(hB1.ext exq).of_heap (K1 _ Ka);have hB2:=(hB2.ext exq).of_heap (K1 _ Ka);have hB3:=(hB3.ext exq).of_heap (K1 _ Ka);have hO1:=(hO1.ext E5).wrote K1 Ka;have hQ1:=(hQ1.toB.ext E5).wrote K1 Ka;refine Zn<|Zp<|Vn Kq Kl Z<|Yk Km hB2 Z<|Vm Z<|Yw Z fun h3=>?_
      refine Vn Kq Kl Z<|Yk Km hB2 Z<|Vm Z<|Vp Z<|Zz Z<|Zn<|Zq<|Zp<|Yi Z<|Ym Z<|Uh Z (fun h4=>?_) (fun h4=>?_);refine Vn Kq Ku Z<|Ul Kv hB2 Z<|Wo Z (Xb Z Z)<|Yq Z<|WspndecF Z fun h5=>?_;refine Vn Kq Kl Z<|Yk Km hB2 Z<|Xo Z<|Uh Z (fun h6=>?_) (fun h6=>?_);refine Vn Kq Kl Z<|Yk Km hB2 Z<|Xo Z<|Yq Z<|Vp Z<|Zn<|Uv Z fun h7=>?_;refine Zv<|Zq<|Zp<|Vn Kq Kl Z<|Yk Km hB2 Z<|Vm Z<|Zn<|Zs Z (fun h8=>?_) (fun h8=>?_)
      refine Zq<|Zp<|Vn Ky Jb Z<|Yu q1 Jf hB4 Z<|Vk Jc Z (OwnedB.read hQ1)<|Vm Z<|Zn<|Zt Z fun h9=>?_;refine Zv<|Zq ?_;rotate_left;contradiction;contradiction;contradiction
     clear stop8 k1
     obtain ⟨qb,qc,ur,rfl,hqc,hcl,icr,hqb,hqb2,hDk⟩:=hQ1.backDk hpl0 Ka
     have hel:=hDk.dkNow
     have hpa:=hDk.dkPast
     have hcl:w6.cell? ⟨qb,0+((pp.length:Int) - 1).toNat,none⟩=some ur:=by rw [Nat.zero_add,show ((pp.length:Int) - 1).toNat=pp.length - 1 by omega];exact hcl
     have hlast:pp.getLastD []=pp[pp.length - 1]:=by rw [List.getLastD_eq_getLast?,List.getLast?_eq_getElem?,List.getElem?_eq_getElem Ka];rfl
     rw [hlast,List.dropLast_eq_take]
     have hbl:=hd.2.2 _ (List.getElem_mem (show pp.length - 1 < pp.length by omega))
     have k2 : ∀ (w:World),OwnedB m1 w4.heap.size (XRd (ESl Ints)) w ur pp[pp.length - 1]→OwnedB m1 w4.heap.size (XRd (ESl (ESl Ints))) w (.slice (some ⟨qb,0,none⟩) (pp.length - 1) qc) (pp.take (pp.length - 1))→Does Tryz.prog 77 [.agg #[ur,.slice (some ⟨qb,0,none⟩) ((pp.length:Int) - 1).toNat qc]] w (RetDk w 23 88 3 pp[pp.length - 1] (pp.take (pp.length - 1))):=fun w h1 h2=>by
      rw [show ((pp.length:Int) - 1).toNat=pp.length - 1 by omega]
      exact Sh w _ _ _ _ h1.read h2.read (bnd _ hbl.1) (by simp;omega) (fun q hq=>hb2 q (List.mem_of_mem_take hq))
     clear hDk hQ1 hO1
     focus
      have szE6:=E6.size;refine Vf<|Vn Ky Jb Z<|Ql Jf hB4 Z<|Vn Ky Jb Z<|Ql Jf hB4 Z<|Vk Jc Z (Owned.read hQ1)<|Qm Z<|Wo Z (Ur Jc Ja Z Z Ka) ?_;refine Wo Z (Vt Kw Z Kd) ?_;refine Vn Ky Ja Z<|Xk (v:=ur) Z Ja Z Z Kd hB4 (by first | decide | simp) Ka E6 ?_;rintro w7 E11 hB4 K2 hz2;have E12:=E7.wroteAt E6 E11 K2 hz2 Ka;have E13:=E8.wroteAt E6 E11 K2 hz2 Ka;simp only [List.set] at hB4;have hB3:=hB3.of_heap (K2 _ Ka);have hQ1:=(hQ1.toB.ext E10).wrote K2 Ka;have hel:=hel.wrote K2 Ka;have hpa:=hpa.wrote K2 Ka
      refine Zn<|Zp<|Vn Ky Jb Z<|Ql Jf hB4 Z<|Vn Ky Jb Z<|Ql Jf hB4 Z<|Vk Jc Z (OwnedB.read hQ1)<|Qm Z<|Wo Z (Sf Jc Ja Z Z Ka) ?_;refine Vn Ky Jb Z<|Xk (v:=.slice _ _ _) Z Jb Z Z Z hB4 Ki Ka E11 ?_;rintro w8 E16 hB4 K3 hz3;simp only [List.set] at hB4;have hB3:=hB3.of_heap (K3 _ Ka);have hel:=hel.wrote K3 Ka;have hpa:=hpa.wrote K3 Ka;refine Zn<|Zp<|Xc Ks Ko hB4 Z<|Zr Z (Vx (a:=.agg _) Gf Z) (k2 _ (hel) (hpa)) ?_;rintro _ w9 ⟨u4,q1,m2,rfl,E21,hO2,hQ2,hm2,hn2⟩;have icu4:=OwnedB.isC hO2;have icq1:=OwnedB.isC (Owned.toB hQ2)
      refine Ui Ko (hB3.ext E21) Z (E16.trans E21) ?_;rintro w10 E22 hB3 K4 hz4;have hO2:=hO2.wrote K4 Ka;have hQ2:=hQ2.toB.wrote K4 Ka;refine Zz Z<|Zn<|Zy ?_
     exact ⟨b3,u4,q1,rfl,hB3,u4,q1,m2,rfl,by exact E22,hO2.wide Ka (Nat.le_refl _),hQ2.o,Ka,Ka⟩
   ·have hnb : ¬isBack ⟨p,pp⟩ ⟨k,t,n⟩:=fun h=>h4 (by have:=h.1;injection this)
    have kN : ∀ (w:World),EMx gMx w (.bool true) ()→ESl Ints w u1 p→Does Tryz.prog 138 [u1,.agg #[.int .i64 k,str t,.int .i64 n]] w (RetOB w XR (og (madeV p ⟨k,t,n⟩)) (madeV p ⟨k,t,n⟩).isSome):=fun w hM h=>nextSet_ok w hM u1 p h hpp k n t ht hA hB
    have stop2:True:=trivial
    focus
     refine Zp<|Yl Z Z Z ?_;rintro b1 w1 hb1 E1 hB1;have hlb1:=hB1.lt;have hs1:=E1.size;refine Yl Z Z Z ?_;rintro b2 w2 hb3 E2 hB2;have hlb2:=hB2.lt;have hs2:=E2.size;refine Yp Z Xf ?_;rintro b3 w3 hb4 E3 hB3;have hlb3:=hB3.lt;have hs3:=E3.size;refine Zz Z<|Zn<|Zp<|Xc Ks Ko (hB1.ext exq) Z<|Zr Z (Vx (a:=.agg _) Gf Z) (k1 _ ((Mono.mono exq h1)) ((Mono.mono exq h2))) ?_;rintro _ w4 ⟨u3,q1,m1,rfl,E4,hO1,hQ1,hm1,hn1⟩;have icu3:=OwnedB.isC hO1;have cpu3:=OwnedB.capOk hO1;have icq1:=OwnedB.isC (Owned.toB hQ1);have cpq1:=OwnedB.capOk (Owned.toB hQ1);have hs4:=E4.size;refine Yp Z Xf ?_;rintro b4 w5 hb5 E5 hB4;have hlb4:=hB4.lt;have hs5:=E5.size
     refine Xj Z Ko Z Z Ke Ke hB4 Ka ((((E1.trans E2).trans E3).trans E4).trans E5) ?_;rintro w6 E6 hB4 K1 hz1;have E7:=(((E2.trans E3).trans E4).trans E5).wroteAt exq E6 K1 hz1 Ka;have szE7:=E7.size;have E8:=((E3.trans E4).trans E5).wroteAt exq E6 K1 hz1 Ka;have szE8:=E8.size;have E9:=(E4.trans E5).wroteAt exq E6 K1 hz1 Ka;have szE9:=E9.size;have E10:=E5.wroteAt exq E6 K1 hz1 Ka;have szE10:=E10.size;have hB1:=(hB1.ext exq).of_heap (K1 _ Ka);have hB2:=(hB2.ext exq).of_heap (K1 _ Ka);have hB3:=(hB3.ext exq).of_heap (K1 _ Ka);have hO1:=(hO1.ext E5).wrote K1 Ka;have hQ1:=(hQ1.toB.ext E5).wrote K1 Ka;refine Zn<|Zq ?_
    clear stop2
    refine W_mid [7,13,14,15,16,17,18,19,20] (fun x:Bool=>[(7,.bool x)]) (fun x w'=>w'=w6∧(x=true↔k=1∨k=2)) ?_ ?_
    ·focus
      refine Vf<|Vn Kq Kl Z<|Yk Km hB2 Z<|Vm Z<|Yf Z (fun h3=>?_) (fun h3=>?_);refine Zo Z<|Zo Z<|Zo Z<|Yq Z<|Zz Z<|Zn ?_;rotate_left;refine Vn Kq Kl Z<|Yk Km hB2 Z<|Vm Z<|Vp Z<|Zz Z<|Zn ?_;rotate_left
     all_goals exact ⟨_,⟨rfl,trivial⟩,Kh,rfl,by simp_all⟩
    rintro x ρ6 w6' ⟨e6,hx⟩
    have e6:=e6.symm
    subst e6
    have stop3:True:=trivial
    focus
     have szE10:=E10.size;have szE9:=E9.size;have szE8:=E8.size;have szE7:=E7.size;have szE6:=E6.size;have szE5:=E5.size;have szE4:=E4.size;have szE3:=E3.size;have szE2:=E2.size;have szE1:=E1.size;refine Zq<|Zq ?_
    clear stop3
    refine W_mid [21,22,23,24,25,26,27,28,29,30,31,32,33,34,35,36,37] (fun _:Unit=>[(37,.bool false)]) (fun _ w'=>w'=w6) ?_ ?_
    ·focus
      refine Vf<|Yi Z<|Ym Z<|Yn Z (Vq (v:=.bool _) Z) (fun h3=>?_) (fun h3=>?_);refine Vn Kq Ku Z<|Ul Kv hB2 Z<|Wo Z (Xb Z Z)<|Yq Z<|Uh Z (fun h5=>?_) (fun h5=>?_);refine Zo Z<|Zo Z<|Zo Z<|Zo Z<|Zo Z<|Zo Z<|Zo Z<|Zo Z<|Yq Z<|Zn ?_;rotate_left;refine Vn Kq Kl Z<|Yk Km hB2 Z<|Xo Z<|Uh Z (fun h6=>?_) (fun h6=>?_);refine Vn Kq Kl Z<|Yk Km hB2 Z<|Xo Z<|Yq Z<|Vp Z<|Zn ?_;rotate_left;refine Zo Z<|Zo Z<|Zo Z<|Vp Z<|Vp Z<|Zn ?_;rotate_left
      refine Zo Z<|Zo Z<|Zo Z<|Vp Z<|Yi Z<|Vn Kq Kl Z<|Yk Km hB2 Z<|Xo Z<|Uh Z (fun h5=>?_) (fun h5=>?_);refine Vn Kq Kl Z<|Yk Km hB2 Z<|Xo Z<|Yq Z<|Vp Z<|Zn ?_;rotate_left;refine Zo Z<|Zo Z<|Zo Z<|Vp Z<|Vp Z<|Zn ?_;rotate_left
     all_goals first
      | exact ⟨(),⟨rfl,trivial⟩,Kh,rfl⟩
      | exact ⟨(),⟨congrArg Value.bool (by simpa using (hB.resolve_left Kd)),trivial⟩,Kh,rfl⟩
      | (exfalso;simp_all)
    rintro ⟨⟩ ρ7 w7 e7
    have e7:=e7.symm
    subst e7
    have stop11:True:=trivial
    focus
     have szE10:=E10.size;have szE9:=E9.size;have szE8:=E8.size;have szE7:=E7.size;have szE6:=E6.size;have szE5:=E5.size;have szE4:=E4.size;have szE3:=E3.size;have szE2:=E2.size;have szE1:=E1.size;refine Zx Z ?_;refine Zv<|Zq<|Zp<|Vn Kq Kl Z<|Yk Km hB2 Z<|Vm Z<|Zn<|Vj Z fun h3=>?_;refine Zv<|Zq ?_
    clear stop11
    cases hmv:madeV p ⟨k,t,n⟩ with
    | none =>
      rw [hmv, show og none = [] from rfl, show (none : Option (List (List Int))).isSome = false from rfl] at kN
      rw [doV_none hnb (by unfold nextV; rw [hmv])]
      focus
        refine Vf<|Vn Ky Ja Z<|Yu u1 Kw hB1 Z<|Qt Je Kx hB2 Z<|Zr Z (Yg (a := u1) (b := .agg _) Tryz.call138 Z Z) (kN _ ((Mono.mono E6 hM)) ((Mono.mono E6 h1))) ?_; rintro _ w7 ⟨u4, rfl, E11, hO2⟩; have hs6 := E11.size; refine Xl Z<|Un u4 Z<|Xv Z<|Yr u4 Z<|Zz Z<|Zn<|Zq<|Zp<|Yi Z<|Ym Z<|Yn Z (Vq (v := .bool _) Z) (fun h5 => ?_) (fun h5 => ?_); refine Zo Z<|Zo Z<|Zo Z<|Zo Z<|Yq Z<|Zn<|Vv Z ?_; refine Zp<|Xc Ks Ko (hB4.ext E11) Z<|Ui Ko (hB3.ext E11) Z (E6.trans E11) ?_; rintro w8 E12 hB3 K2 hz2; have hO1 := (hO1.ext E11).wrote K2 Ka; have hQ1 := (hQ1.ext E11).wrote K2 Ka; refine Zz Z<|Zn<|Zy ?_
        rotate_left; contradiction
      exact ⟨b3, u3, q1, rfl, hB3, u3, q1, m1, rfl, by exact E12, hO1.wide Ka (Nat.le_refl _), hQ1.o, Ka, Ka⟩
    | some c =>
      rw [hmv, show og (some c) = c from rfl, show (some c).isSome = true from rfl] at kN
      have hc : LeastP c := madeV_least hpp hmv
      have hcp := hc.1
      by_cases hcq : c = p
      · have kE : ∀ (w : World) (v u : Value), ESl Ints w v c → ESl Ints w u p → Does Tryz.prog 139 [v, u, .func (.func 140) [].toArray [].toArray] w (Ret w (.bool true)) := fun w v u h h' => by
          have := Mb w v u c p h h' Tryz.call140
          rwa [decide_eq_true hcq] at this
        have hnx : nextV p ⟨k, t, n⟩ = none := by unfold nextV; rw [hmv]; simp [hcq]
        rw [doV_none hnb hnx]
        focus
          refine Vf<|Vn Ky Ja Z<|Yu u1 Kw hB1 Z<|Qt Je Kx hB2 Z<|Zr Z (Yg (a := u1) (b := .agg _) Tryz.call138 Z Z) (kN _ ((Mono.mono E6 hM)) ((Mono.mono E6 h1))) ?_; rintro _ w7 ⟨u4, rfl, E11, hO2⟩; have hs6 := E11.size; refine Xl Z<|Un u4 Z<|Xv Z<|Yr u4 Z<|Zz Z<|Zn<|Zq<|Zp<|Yi Z<|Ym Z<|Yn Z (Vq (v := .bool _) Z) (fun h5 => ?_) (fun h5 => ?_); contradiction; refine Vb u4 Z<|Vn Ky Ja Z<|Yu u1 Kw (hB1.ext E11) Z<|Zr Z (Ud (a := u4) (b := u1) (c := .func _ _ _) Tryz.call139 Z Z Z) (kE _ _ _ ((Owned.read hO2)) ((Mono.mono exq h1))) ?_; rintro _ w8 ⟨rfl, E12⟩; have hs7 := E12.size; refine Vp Z<|Zn<|Vv Z ?_
          refine Zp<|Xc Ks Ko (hB4.ext exq) Z<|Ui Ko (hB3.ext (E11.trans E12)) Z ((E6.trans E11).trans E12) ?_; rintro w9 E13 hB3 K2 hz2; have hO1 := (hO1.ext exq).wrote K2 Ka; have hQ1 := (hQ1.ext exq).wrote K2 Ka; refine Zz Z<|Zn<|Zy ?_
        exact ⟨b3, u3, q1, rfl, hB3, u3, q1, m1, rfl, by exact E13, hO1.wide Ka (Nat.le_refl _), hQ1.o, Ka, Ka⟩
      · have kE : ∀ (w : World) (v u : Value), ESl Ints w v c → ESl Ints w u p → Does Tryz.prog 139 [v, u, .func (.func 140) [].toArray [].toArray] w (Ret w (.bool false)) := fun w v u h h' => by
          have := Mb w v u c p h h' Tryz.call140
          rwa [decide_eq_false hcq] at this
        have hnx : nextV p ⟨k, t, n⟩ = some c := by unfold nextV; rw [hmv]; simp [hcq]
        have hdo : doV ⟨p, pp⟩ ⟨k, t, n⟩ = (⟨c, last8 (pp ++ [p])⟩, true) := by unfold doV; rw [if_neg hnb]; simp only; rw [hnx]
        rw [hdo]
        simp only
        have stop15 : True := trivial
        have hQ0 := hQ1
        focus
          refine Vf<|Vn Ky Ja Z<|Yu u1 Kw hB1 Z<|Qt Je Kx hB2 Z<|Zr Z (Yg (a := u1) (b := .agg _) Tryz.call138 Z Z) (kN _ ((Mono.mono E6 hM)) ((Mono.mono E6 h1))) ?_; rintro _ w7 ⟨u4, rfl, E11, hO2⟩; have ichO2 := OwnedB.isC (Owned.toB hO2); have hs6 := E11.size; refine Xl Z<|Un u4 Z<|Xv Z<|Yr u4 Z<|Zz Z<|Zn<|Zq<|Zp<|Yi Z<|Ym Z<|Yn Z (Vq (v := .bool _) Z) (fun h5 => ?_) (fun h5 => ?_); contradiction; refine Vb u4 Z<|Vn Ky Ja Z<|Yu u1 Kw (hB1.ext E11) Z<|Zr Z (Ud (a := u4) (b := u1) (c := .func _ _ _) Tryz.call139 Z Z Z) (kE _ _ _ ((Owned.read hO2)) ((Mono.mono exq h1))) ?_; rintro _ w8 ⟨rfl, E12⟩; have hs7 := E12.size
          refine Vp Z<|Zn<|Zx Z ?_; refine Zv<|Zp<|Vn Ky Jb Z<|Yu q1 Jf (hB4.ext exq) Z<|Vn Ky Ja Z<|Yu u3 Kw (hB4.ext exq) Z<|Ua Z Jc Ja Ge Z (OwnedB.isC (hO1.ext exq)) Z ?_; rintro b5 w9 hb6 E13 hB5 hHb5; have hlb5 := hB5.lt; have hs8 := E13.size; refine Wo_app1r Z el24 Z Z hB5 (hQ0.ext ((E11.trans E12).trans E13)) (hO1.ext ((E11.trans E12).trans E13)) Kf Ka Ka (((E6.trans E11).trans E12).trans E13) Ka ?_; have hT1 := (hQ0.ext ((E11.trans E12).trans E13)); rintro v1 w10 hQ0 E14 M1; have E17 := M1.ext hT1 (((E9.trans E11).trans E12).trans E13) Ka; have szE17 := E17.size; have hB3 := (hB3.ext exq).moves M1 hT1 Ka
          have hO2 := (hO2.toB.ext exq).moves M1 hT1 Ka; have szM1 := M1.1.size; have icv1 := OwnedB.isC (Owned.toB hQ0); refine Yr v1 Z<|Zn<|Zq<|Zq ?_
        clear stop15
        obtain ⟨nb, nc, rfl, hnc⟩ := hQ0.lit Ki
        have hnl : (pp ++ [p]).length = pp.length + 1 := Ki
        rw [hnl] at hQ0 hnc ⊢
        have hR : ESl (ESl Ints) w10 (.slice (some ⟨nb, 0, none⟩) (pp.length + 1) nc) (pp ++ [p]) := hQ0.read
        have hbn : ∀ q ∈ pp ++ [p], q.length ≤ 100 ∧ ∀ r ∈ q, r.length ≤ 100 := fun q hq => by
          rcases List.mem_append.1 hq with hq | hq
          · exact hb2 q hq
          · rw [List.mem_singleton.1 hq]; exact bnd p hpp
        clear hQ0 hQ1 kN kE k1 M1 hT1 icv1
        by_cases hl8 : pp.length + 1 ≤ 8
        · have kC : ∀ (w : World), ESl Ints w u4 c → ESl (ESl Ints) w (.slice (some ⟨nb, 0, none⟩) (pp.length + 1) nc) (pp ++ [p]) → Does Tryz.prog 77 [.agg #[u4, .slice (some ⟨nb, 0, none⟩) (pp.length + 1) nc]] w (RetDk w 23 88 3 c (last8 (pp ++ [p]))) := fun w h1 h2 => by
            rw [show last8 (pp ++ [p]) = pp ++ [p] from if_neg Ka]
            exact Sh w _ _ _ _ h1 h2 (bnd c hcp) Ka hbn
          focus
            have szE14 := E14.size; refine Vf<|Up Z<|Vk Jc Z hR<|Qe Z<|Zn<|Zt Z fun h6 => ?_; refine Zv<|Zp<|Vb u4 Z<|Up Z<|Wo Z (opv_build2 Xf Z (by first | assumption | rfl) (by first | assumption | rfl)) ?_; refine Zr Z (Vx (a := .agg _) Gf Z) (kC _ ((OwnedB.read hO2)) (hR)) ?_; rintro _ w11 ⟨u5, q2, m2, rfl, E18, hO3, hQ2, hm2, hn2⟩; have icu5 := OwnedB.isC hO3; have icq2 := OwnedB.isC (Owned.toB hQ2); refine Ui Ko (hB3.ext E18) Z (E14.trans E18) ?_; rintro w12 E19 hB3 K2 hz2; have hO3 := hO3.wrote K2 Ka; have hQ2 := hQ2.toB.wrote K2 Ka; refine Zz Z<|Zn<|Zy ?_
          exact ⟨b3, _, _, rfl, hB3, _, _, m2, rfl, by exact E19, hO3.wide Ka (Nat.le_refl _), hQ2.o, Ka, Ka⟩
        · have kC : ∀ (w : World), ESl Ints w u4 c → ESl (ESl Ints) w (.slice (some ⟨nb, 0, none⟩) (pp.length + 1) nc) (pp ++ [p]) → Does Tryz.prog 77 [.agg #[u4, .slice (some ⟨nb, 0 + (1 : Int).toNat, none⟩) (pp.length + 1 - (1 : Int).toNat) (nc - (1 : Int).toNat)]] w (RetDk w 23 88 3 c (last8 (pp ++ [p]))) := fun w h1 h2 => by
            rw [show last8 (pp ++ [p]) = (pp ++ [p]).drop 1 from if_pos Ka]
            exact Sh w _ _ _ _ h1 (h2.dropS (k := 1) Ka) (bnd c hcp) (by simp; omega) (fun q hq => hbn q (List.mem_of_mem_drop hq))
          focus
            have szE14 := E14.size; refine Vf<|Up Z<|Vk Jc Z hR<|Qe Z<|Zn<|Zs Z (fun h6 => ?_) (fun h6 => ?_); refine Vf<|Up Z<|Wo Z (Rm Jc Ja Z Z Ka) ?_; refine Ys Z<|Zn<|Zp<|Vb u4 Z<|Up Z<|Wo Z (opv_build2 Xf Z (by first | assumption | rfl) (by first | assumption | rfl)) ?_; refine Zr Z (Vx (a := .agg _) Gf Z) (kC _ ((OwnedB.read hO2)) (hR)) ?_; rintro _ w11 ⟨u5, q2, m2, rfl, E18, hO3, hQ2, hm2, hn2⟩; have icu5 := OwnedB.isC hO3; have icq2 := OwnedB.isC (Owned.toB hQ2); refine Ui Ko (hB3.ext E18) Z (E14.trans E18) ?_; rintro w12 E19 hB3 K2 hz2; have hO3 := hO3.wrote K2 Ka; have hQ2 := hQ2.toB.wrote K2 Ka; refine Zz Z<|Zn<|Zy ?_; rotate_left; (exfalso; omega)
          exact ⟨b3, _, _, rfl, hB3, _, _, m2, rfl, by exact E19, hO3.wide Ka (Nat.le_refl _), hQ2.o, Ka, Ka⟩
  ·have hdo:doV ⟨p,pp⟩ ⟨k,t,n⟩=(⟨p,pp⟩,false):=doV_none (fun h=>hB (.inr (by have:=h.1;injection this))) (by unfold nextV;rw [madeV_n hB])
   have hk3 : ¬k=3:=fun h=>hB (.inl h)
   have hn0 : ¬n=0:=fun h=>hB (.inr h)
   rw [hdo]
   focus
    refine Zp<|Yl Z Z Z ?_;rintro b1 w1 hb1 E1 hB1;have hlb1:=hB1.lt;refine Yl Z Z Z ?_;rintro b2 w2 hb3 E2 hB2;have hlb2:=hB2.lt;refine Yp Z Xf ?_;rintro b3 w3 hb4 E3 hB3;have hlb3:=hB3.lt;have hs3:=E3.size;refine Zz Z<|Zn<|Zp<|Xc Ks Ko (hB1.ext exq) Z<|Zr Z (Vx (a:=.agg _) Gf Z) (k1 _ ((Mono.mono exq h1)) ((Mono.mono exq h2))) ?_;rintro _ w4 ⟨u3,q1,m1,rfl,E4,hO1,hQ1,hm1,hn1⟩;have icu3:=OwnedB.isC hO1;have icq1:=OwnedB.isC (Owned.toB hQ1);have hs4:=E4.size;refine Yp Z Xf ?_;rintro b4 w5 hb5 E5 hB4;have hlb4:=hB4.lt;refine Xj Z Ko Z Z Ke Ke hB4 Ka ((((E1.trans E2).trans E3).trans E4).trans E5) ?_;rintro w6 E6 hB4 K1 hz1
    have hB2:=(hB2.ext exq).of_heap (K1 _ Ka);have hB3:=(hB3.ext exq).of_heap (K1 _ Ka);have hO1:=(hO1.ext E5).wrote K1 Ka;have hQ1:=(hQ1.toB.ext E5).wrote K1 Ka;refine Zn<|Zp<|Vn Kq Kl Z<|Yk Km hB2 Z<|Vm Z<|Yf Z (fun h3=>?_) (fun h3=>?_);refine Zo Z<|Zo Z<|Zo Z<|Yq Z<|Zz Z<|Zn<|Zq<|Zp<|Yi Z<|Ym Z<|Yn Z (Vq (v:=.bool _) Z) (fun h4=>?_) (fun h4=>?_);contradiction;refine Zo Z<|Zo Z<|Zo Z<|Vp Z<|Yi Z<|Vn Kq Kl Z<|Yk Km hB2 Z<|Xo Z<|Uh Z (fun h5=>?_) (fun h5=>?_)
    refine Vn Kq Kl Z<|Yk Km hB2 Z<|Xo Z<|Yq Z<|Vp Z<|Zn<|Vz Z (fun h6=>?_) (fun h6=>?_);refine Zp<|Xc Ks Ko hB4 Z<|Ui Ko hB3 Z E6 ?_;rintro w7 E11 hB3 K2 hz2;have hO1:=hO1.wrote K2 Ka;have hQ1:=hQ1.wrote K2 Ka;refine Zz Z<|Zn<|Zy ?_;rotate_left;contradiction;contradiction;refine Vn Kq Kl Z<|Yk Km hB2 Z<|Vm Z<|Vp Z<|Zz Z<|Zn<|Zq<|Zp<|Yi Z<|Ym Z<|Uh Z (fun h4=>?_) (fun h4=>?_);refine Vn Kq Ku Z<|Ul Kv hB2 Z<|Wo Z (Xb Z Z)<|Yq Z<|Uh Z (fun h5=>?_) (fun h5=>?_)
    refine Zo Z<|Zo Z<|Zo Z<|Zo Z<|Zo Z<|Zo Z<|Zo Z<|Zo Z<|Yq Z<|Zn<|Vv Z ?_;refine Zp<|Xc Ks Ko hB4 Z<|Ui Ko hB3 Z E6 ?_;rintro w7 E11 hB3 K2 hz2;have hO1:=hO1.wrote K2 Ka;have hQ1:=hQ1.wrote K2 Ka;refine Zz Z<|Zn<|Zy ?_;rotate_left;refine Vn Kq Kl Z<|Yk Km hB2 Z<|Xo Z<|Uh Z (fun h6=>?_) (fun h6=>?_);refine Vn Kq Kl Z<|Yk Km hB2 Z<|Xo Z<|Yq Z<|Vp Z<|Zn<|Vz Z (fun h7=>?_) (fun h7=>?_);refine Zp<|Xc Ks Ko hB4 Z<|Ui Ko hB3 Z E6 ?_;rintro w7 E11 hB3 K2 hz2;have hO1:=hO1.wrote K2 Ka
    have hQ1:=hQ1.wrote K2 Ka;refine Zz Z<|Zn<|Zy ?_;rotate_left;contradiction;contradiction;refine Zo Z<|Zo Z<|Zo Z<|Vp Z<|Yi Z<|Vn Kq Kl Z<|Yk Km hB2 Z<|Xo Z<|Uh Z (fun h5=>?_) (fun h5=>?_);refine Vn Kq Kl Z<|Yk Km hB2 Z<|Xo Z<|Yq Z<|Vp Z<|Zn<|Vz Z (fun h6=>?_) (fun h6=>?_);refine Zp<|Xc Ks Ko hB4 Z<|Ui Ko hB3 Z E6 ?_;rintro w7 E11 hB3 K2 hz2;have hO1:=hO1.wrote K2 Ka;have hQ1:=hQ1.wrote K2 Ka;refine Zz Z<|Zn<|Zy ?_;rotate_left;contradiction;contradiction
   all_goals exact ⟨b3,u3,q1,rfl,hB3,u3,q1,m1,rfl,Kd,hO1.wide Ka (Nat.le_refl _),hQ1.o,Ka,Ka⟩
 ·have hdo:doV ⟨p,pp⟩ ⟨k,t,n⟩=(⟨p,pp⟩,false):=doV_none (fun h=>hA (.inr (.inr (by have:=h.1;injection this)))) (by unfold nextV;rw [madeV_t hA])
  have hA1 : ¬k=1:=fun h=>hA (.inl h)
  have hA2 : ¬k=2:=fun h=>hA (.inr (.inl h))
  have hA3 : ¬t=[]:=fun h=>hA (.inr (.inr h))
  rw [hdo]
  focus
   refine Zp<|Yl Z Z Z ?_;rintro b1 w1 hb1 E1 hB1;have hlb1:=hB1.lt;refine Yl Z Z Z ?_;rintro b2 w2 hb3 E2 hB2;have hlb2:=hB2.lt;refine Yp Z Xf ?_;rintro b3 w3 hb4 E3 hB3;have hlb3:=hB3.lt;have hs3:=E3.size;refine Zz Z<|Zn<|Zp<|Xc Ks Ko (hB1.ext exq) Z<|Zr Z (Vx (a:=.agg _) Gf Z) (k1 _ ((Mono.mono exq h1)) ((Mono.mono exq h2))) ?_;rintro _ w4 ⟨u3,q1,m1,rfl,E4,hO1,hQ1,hm1,hn1⟩;have icu3:=OwnedB.isC hO1;have icq1:=OwnedB.isC (Owned.toB hQ1);have hs4:=E4.size;refine Yp Z Xf ?_;rintro b4 w5 hb5 E5 hB4;have hlb4:=hB4.lt;refine Xj Z Ko Z Z Ke Ke hB4 Ka ((((E1.trans E2).trans E3).trans E4).trans E5) ?_;rintro w6 E6 hB4 K1 hz1
   have hB2:=(hB2.ext exq).of_heap (K1 _ Ka);have hB3:=(hB3.ext exq).of_heap (K1 _ Ka);have hO1:=(hO1.ext E5).wrote K1 Ka;have hQ1:=(hQ1.toB.ext E5).wrote K1 Ka;refine Zn<|Zp<|Vn Kq Kl Z<|Yk Km hB2 Z<|Vm Z<|Yw Z fun h3=>?_;refine Vn Kq Kl Z<|Yk Km hB2 Z<|Vm Z<|Vp Z<|Zz Z<|Zn<|Zq<|Zp<|Yi Z<|Ym Z<|Uh Z (fun h4=>?_) (fun h4=>?_);refine Vn Kq Ku Z<|Ul Kv hB2 Z<|Wo Z (Xb Z Z)<|Yq Z<|Uh Z (fun h5=>?_) (fun h5=>?_);refine Zo Z<|Zo Z<|Zo Z<|Zo Z<|Zo Z<|Zo Z<|Zo Z<|Zo Z<|Yq Z<|Zn<|Vv Z ?_
   refine Zp<|Xc Ks Ko hB4 Z<|Ui Ko hB3 Z E6 ?_;rintro w7 E11 hB3 K2 hz2;have hO1:=hO1.wrote K2 Ka;have hQ1:=hQ1.wrote K2 Ka;refine Zz Z<|Zn<|Zy ?_;rotate_left;contradiction;contradiction
  exact ⟨b3,u3,q1,rfl,hB3,u3,q1,m1,rfl,by exact E11,hO1.wide Ka (Nat.le_refl _),hQ1.o,Ka,Ka⟩
theorem Ry (w:World) (s:List UInt8) (hs:s.length≤1048576):Does Tryz.prog 122 [str s] w (RetOB w XR ((rdP s).getD []) (rdP s).isSome):=by
 obtain ⟨ps,hps⟩ : ∃ ps,ps=cutB 47 s:=⟨_,rfl⟩
 have k1 : ∀ w,Does Tryz.prog 70 [str s,.int .u8 47] w (RetO w XS ps):=fun w=>hps ▸ l1Cut_ok w s 47 hs
 have hpl:ps.length≤1048577:=by rw [hps,cutB_len];have:=List.count_le_length (a:=(47:UInt8)) (l:=s);omega
 have hpe : ∀ (k:Nat) (hk:k < ps.length),ps[k].length≤1048576:=fun k hk=>by
  have:ps[k] ∈ cutB 47 s:=hps ▸ List.getElem_mem hk
  have:=Ts s.length s (Nat.le_refl _) _ this;omega
 refine Xp Tryz.func122 Z Tryz.results122 Tryz.ntmps122 Z ?_
 focus
  refine Zp<|Ys Z<|Zz Z<|Zn<|Zp<|Yz (XSl 3 XInt) Z Ra Kt ?_;rintro b1 w1 hb1 b1lt E1 hO1;refine Ys Z<|Zn<|Zp<|Vo Z<|Zr Z (Yg (a:=.string _) (b:=.int _ _) Tryz.call70 Z Z) (k1 _) ?_;rintro u1 w2 ⟨E2,hO2⟩;refine Yr u1 Z<|Zn<|Zq<|Zp<|Vg Z<|Zn<|Zw ?_
 have hBe:Besides (Value.ownBlock (.slice (some ⟨b1,0,none⟩) 0 0)) Strs w2 u1 ps:=Besides.start hO1 hO2.above
 refine Vy [2,3,4,6,7,8,9,13,14,15,16,17,18,19,20,21,22,23,24,25,26,27,28,29,30,31,32,33,34,35,36,37,38,39,40,41,42,43,44,45,46,47,48,49,50,51,52] (fun (k,u)=>[(6,.int .i64 (k:Nat)),(4,u)]) (fun (k,u) w'=>Ext w w'∧k≤ps.length∧Owned w.heap.size XR w' u ((ps.take k).map (rowB ps.length))∧Besides u.ownBlock Strs w' u1 ps∧∀ x ∈ ps.take k,inR ps.length x) (fun x=>ps.length - x.1) (0,.slice (some ⟨b1,0,none⟩) 0 0) Kg ?_ ?_
 ·exact ⟨E1.trans E2,Nat.zero_le _,hO1.ext E2,hBe,Ki⟩
 clear hO1 hO2 hBe
 rintro ⟨k,u⟩ ρj w3 ⟨E3,hk,hO3,hBe,hin⟩
 by_cases hkl:k < ps.length
 ·have hpk:=hpe k hkl
  focus
   have szE3:=E3.size;refine Zq<|Zp<|Zu Z<|Vb u1 Z<|Vk Jd Z (Besides.here hBe)<|Vi Z<|Zn<|Zs Z (fun h1=>?_) (fun h1=>?_);refine Zv<|Zq<|Zw<|Zp<|Vb u1 Z<|Vk Jd Z (Besides.here hBe)<|Tw Z Ux Z Ka ?_;rintro b2 w4 hb2 b2lt E4 hO1;refine Ys Z<|Zn<|Zq<|Zp<|Vg Z<|Zn<|Zw ?_;rotate_left;(exfalso;omega)
  refine Vy [2,3,8,9,22,23,24,25,26,27,28,29,30,31,32,33,34,35,36,37,38,39,40,41,42,43,44,45,46,47,48] (fun (j:Nat)=>[(8,.int .i64 (j:Nat))]) (fun j w'=>Ext w3 w'∧j≤ps[k].length∧Owned w3.heap.size XI w' (.slice (some ⟨b2,0,none⟩) ps.length ps.length) (rowB ps.length (ps[k].take j))∧inR ps.length (ps[k].take j)) (fun j=>ps[k].length - j) 0 Kg ?_ ?_
  ·refine ⟨Kd,Nat.zero_le _,?_,fun c hc=>by cases hc⟩
   rw [List.take_zero,rowB_nil]
   simpa using hO1
  clear hO1
  rintro j ρk w5 ⟨E5,hj,hO5,hir⟩
  have hrl:(rowB ps.length (ps[k].take j)).length=ps.length:=Tf
  by_cases hjl:j < ps[k].length
  ·have hc8:(ps[k].getD j 0).toNat < 256:=UInt8.toNat_lt _
   have hcd:ps[k].getD j 0=ps[k][j]:=Ya hjl
   have hts:ps[k].take (j+1)=ps[k].take j++[ps[k].getD j 0]:=by rw [hcd];exact List.take_succ_eq_append_getElem hjl
   have hmem:ps[k] ∈ cutB 47 s:=hps ▸ List.getElem_mem hkl
   have hnl:(ps.length:Int)=(cutB 47 s).length:=by rw [hps]
   by_cases hr:48≤(ps[k].getD j 0).toNat∧(ps[k].getD j 0).toNat < 48+ps.length
   ·focus
     have szE5:=E5.size;refine Zq<|Zp<|Zu Z<|Vb u1 Z<|Zu Z<|Yb Jd Ku Kv Z (fun _=>Z) Z (Besides.here hBe) E5 Z Kf ?_;rintro _ _ ⟨rfl,-⟩;refine Wo Z (Yc Kr Z)<|Vi Z<|Zn<|Zs Z (fun h2=>?_) (fun h2=>?_);refine Zv<|Zq<|Zw<|Zp<|Vb u1 Z<|Zu Z<|Yb Jd Ku Kv Z (fun _=>Z) Z (Besides.here hBe) E5 Z Kf ?_;rintro _ _ ⟨rfl,-⟩;refine Zu Z<|Wo Z (Vl Kr Z Z Ka) ?_;refine Wo Z (Rh Jw Gd Z Ka) ?_
     refine Qm Z<|Vg Z<|Zn<|Zq<|Zp<|Zu Z<|Vb u1 Z<|Vk Jd Z (Besides.here hBe)<|Qm Z<|Zr Z (Ud (a:=.int _ _) (b:=.int _ _) (c:=.int _ _) Jl Z Z Z) (Uz _ _ _ _) ?_;rintro _ w6 ⟨rfl,E6⟩;refine Ym Z<|Zn<|Xt Z fun h3=>?_;refine Zv<|Vf<|Up Z<|Zu Z<|Wo Z (Ur Kn Kl Z Z Ka) ?_;refine Nb Z Kl Z Z (hO5.toB.ext E6) Kf Owned.int (Nat.le_refl _) Ka ?_;rintro w7 hO5 On1 K1 hz1;have E7:=On1.ext1 ((E3.trans E5).trans E6) Ka;have E8:=On1.ext1 (E5.trans E6) Ka;have szE8:=E8.size;have hO3:=(hO3.toB.ext exq).wrote K1 Ka;have hs5:=On1.size
     refine Zn<|Vf<|Zu Z<|Vr Z<|Vg Z<|Zn ?_;rotate_left;(exfalso;omega)
    ·refine ⟨(j+1),Kg,Kh,?_,?_⟩
     ·refine ⟨Kd,Ka,?_,?_⟩
      ·rw [rowB_set (c:=ps[k].getD j 0) Ka Ka,← hts] at hO5
       exact hO5
      ·rw [hts]
       intro c hc
       rcases List.mem_append.1 hc with hc | hc
       ·exact hir c hc
       ·obtain rfl:=List.mem_singleton.1 hc;exact hr
     ·omega
    all_goals omega
   ·rw [rd_no1 hmem (List.getElem_mem hjl) (fun h=>hr (by rw [hcd];omega))]
    focus
     have szE5:=E5.size;refine Zq<|Zp<|Zu Z<|Vb u1 Z<|Zu Z<|Yb Jd Ku Kv Z (fun _=>Z) Z (Besides.here hBe) E5 Z Kf ?_;rintro _ _ ⟨rfl,-⟩;refine Wo Z (Yc Kr Z)<|Vi Z<|Zn<|Zs Z (fun h2=>?_) (fun h2=>?_);refine Zv<|Zq<|Zw<|Zp<|Vb u1 Z<|Zu Z<|Yb Jd Ku Kv Z (fun _=>Z) Z (Besides.here hBe) E5 Z Kf ?_;rintro _ _ ⟨rfl,-⟩;refine Zu Z<|Wo Z (Vl Kr Z Z Ka) ?_;refine Wo Z (Rh Jw Gd Z Ka) ?_
     refine Qm Z<|Vg Z<|Zn<|Zq<|Zp<|Zu Z<|Vb u1 Z<|Vk Jd Z (Besides.here hBe)<|Qm Z<|Zr Z (Ud (a:=.int _ _) (b:=.int _ _) (c:=.int _ _) Jl Z Z Z) (Uz _ _ _ _) ?_;rintro _ w6 ⟨rfl,E6⟩;have hs4:=E6.size;refine Ym Z<|Zn<|Vz Z (fun h3=>?_) (fun h3=>?_);refine Zp<|Yz (XSl 3 XInt) Z Ra Kt ?_;rintro b3 w7 hb3 b3lt E7 hO1;refine Ys Z<|Zz Z<|Zn<|Zy ?_;refine Ve (v:=.tuple #[.slice _ _ _,.bool _]) Z ?_;exact ⟨_,rfl,exq,hO1.toB.o.mono Ka⟩;(exfalso;omega);(exfalso;omega)
    all_goals omega
  ·obtain rfl:j=ps[k].length:=by omega
   rw [List.take_length] at hO5 hir
   focus
    have szE5:=E5.size;have szE3:=E3.size;refine Zq<|Zp<|Zu Z<|Vb u1 Z<|Zu Z<|Yb Jd Ku Kv Z (fun _=>Z) Z (Besides.here hBe) E5 Z Kf ?_;rintro _ _ ⟨rfl,-⟩;refine Wo Z (Yc Kr Z)<|Vi Z<|Zn<|Zt Z fun h2=>?_;refine Vw ?_;refine Vd ?_;refine Vf<|Vb u Z<|Up Z<|Xm (ps:=[(0,.slice _ _ _)]) (cs:=[_]) Z Kp Kt Jv Z Z Z Z ?_;rintro b3 w6 hb3 E6 hB1;have hs4:=E6.size;refine Xh Z Ra Z Z hB1 (hO3.toB.ext (E5.trans E6)) (hO5.toB.ext E6).o Ka Kf Ka Ka ((E3.trans E5).trans E6) Ka ?_;rintro v1 w7 hO3 E7 M1;have hBe:=(hBe.ext exq).moves M1
    refine Wo Z (Xi (v:=v1) Z)<|Zn<|Um Z<|Wo Z (Vq (v:=.int _ _) Z)<|Wo Z (Rw Z Z Ka) ?_;refine Wo Z (Xi (v:=.int _ _) Z)<|Zn ?_
   refine ⟨((k+1,v1)),Kg,Kh,?_,?_⟩
   ·have hts:ps.take (k+1)=ps.take k++[ps[k]]:=List.take_succ_eq_append_getElem hkl
    refine ⟨Kd,Ka,?_,Kd,?_⟩
    ·rw [hts,List.map_append];exact hO3
    ·rw [hts]
     intro x hx
     rcases List.mem_append.1 hx with hx | hx
     ·exact hin x hx
     ·obtain rfl:=List.mem_singleton.1 hx;exact hir
   ·simp only;omega
 ·obtain rfl:k=ps.length:=by omega
  have eM:ps.map (rowB ps.length)=rdM s:=by rw [hps];rfl
  rw [List.take_length,eM] at hO3
  clear k1
  by_cases hP:Pic (rdM s)
  ·by_cases hT:txt (rdM s)=s
   ·rw [rd_yes hP hT]
    have k2 : ∀ w v,ESl Ints w v (rdM s)→Does Tryz.prog 115 [v] w (Ret w (.bool true)):=fun w v h=>by
     have:=Ue w v _ h
     rwa [decide_eq_true hP] at this
    have k3 : ∀ w v,ESl Ints w v (rdM s)→Does Tryz.prog 62 [v] w (Ret w (str s)):=fun w v h=>by
     have:=Uk w v _ h
     rwa [if_pos hP,hT] at this
    focus
     refine Zq<|Zp<|Zu Z<|Vb u1 Z<|Vk Jd Z (Besides.here hBe)<|Vi Z<|Zn<|Zt Z fun h1=>?_;refine Vw ?_;refine Vd ?_;refine Zq<|Zp<|Vb u Z<|Zr Z (Vx (a:=u) Jr Z) (k2 _ _ ((Owned.read hO3))) ?_;rintro _ w4 ⟨rfl,E4⟩;refine Ym Z<|Yn Z (Vq (v:=.bool _) Z) (fun h2=>?_) (fun h2=>?_);contradiction;refine Vb u Z<|Zr Z (Vx (a:=u) Jy Z) (k3 _ _ ((Mono.mono E4 (Owned.read hO3)))) ?_;rintro _ w5 ⟨rfl,E5⟩;refine Vo Z<|Wo Z (Xb Z Z)<|Vp Z<|Zn<|Uv Z fun h3=>?_;refine Zv<|Zp<|Vb u Z<|Yr u Z<|Zz Z<|Zn<|Zy ?_;refine Ve (v:=.tuple #[u,.bool _]) Z ?_;exact ⟨_,rfl,exq,(hO3.toB.ext exq).o.mono Ka⟩
   ·rw [rd_no3 hT]
    have k2 : ∀ w v,ESl Ints w v (rdM s)→Does Tryz.prog 115 [v] w (Ret w (.bool true)):=fun w v h=>by
     have:=Ue w v _ h
     rwa [decide_eq_true hP] at this
    have k3 : ∀ w v,ESl Ints w v (rdM s)→Does Tryz.prog 62 [v] w (Ret w (str (txt (rdM s)))):=fun w v h=>by
     have:=Uk w v _ h
     rwa [if_pos hP] at this
    focus
     have szE3:=E3.size;refine Zq<|Zp<|Zu Z<|Vb u1 Z<|Vk Jd Z (Besides.here hBe)<|Vi Z<|Zn<|Zt Z fun h1=>?_;refine Vw ?_;refine Vd ?_;refine Zq<|Zp<|Vb u Z<|Zr Z (Vx (a:=u) Jr Z) (k2 _ _ ((Owned.read hO3))) ?_;rintro _ w4 ⟨rfl,E4⟩;have hs3:=E4.size;refine Ym Z<|Yn Z (Vq (v:=.bool _) Z) (fun h2=>?_) (fun h2=>?_);contradiction;refine Vb u Z<|Zr Z (Vx (a:=u) Jy Z) (k3 _ _ ((Mono.mono E4 (Owned.read hO3)))) ?_;rintro _ w5 ⟨rfl,E5⟩;have hs4:=E5.size;refine Vo Z<|Wo Z (Xb Z Z)<|Vp Z<|Zn<|Vz Z (fun h3=>?_) (fun h3=>?_);refine Zp<|Yz (XSl 3 XInt) Z Ra Kt ?_;rintro b2 w6 hb2 b2lt E6 hO1;refine Ys Z<|Zz Z<|Zn<|Zy ?_
     refine Ve (v:=.tuple #[.slice _ _ _,.bool _]) Z ?_;exact ⟨_,rfl,exq,hO1.toB.o.mono Ka⟩;contradiction
  ·rw [rd_no2 hP]
   have k2 : ∀ w v,ESl Ints w v (rdM s)→Does Tryz.prog 115 [v] w (Ret w (.bool false)):=fun w v h=>by
    have:=Ue w v _ h
    rwa [decide_eq_false hP] at this
   focus
    have szE3:=E3.size;refine Zq<|Zp<|Zu Z<|Vb u1 Z<|Vk Jd Z (Besides.here hBe)<|Vi Z<|Zn<|Zt Z fun h1=>?_;refine Vw ?_;refine Vd ?_;refine Zq<|Zp<|Vb u Z<|Zr Z (Vx (a:=u) Jr Z) (k2 _ _ ((Owned.read hO3))) ?_;rintro _ w4 ⟨rfl,E4⟩;have hs3:=E4.size;refine Ym Z<|Yn Z (Vq (v:=.bool _) Z) (fun h2=>?_) (fun h2=>?_);refine Zo Z<|Zo Z<|Zo Z<|Zo Z<|Yq Z<|Zn<|Vv Z ?_;refine Zp<|Yz (XSl 3 XInt) Z Ra Kt ?_;rintro b2 w5 hb2 b2lt E5 hO1;refine Ys Z<|Zz Z<|Zn<|Zy ?_;refine Ve (v:=.tuple #[.slice _ _ _,.bool _]) Z ?_;exact ⟨_,rfl,exq,hO1.toB.o.mono Ka⟩;contradiction
theorem Yx:Flat Tryz.prog 48 [.int .i64 0,str [],.int .i64 0]:=⟨_,Tryz.underlying48,fun _=>Kb,fun _=>Kb⟩
theorem Mc {ρ : Env} {w:World} {x y:Operand} {t' ty:TypeId} {k n k' n':Int} {a b:List UInt8} (hx:evalE ρ x=.agg #[.int .i64 k,str a,.int .i64 n]) (hy:evalE ρ y=.agg #[.int .i64 k',str b,.int .i64 n']) :
  OpV Tryz.prog (.binOp .eql 48 x y t') ty ρ w (.bool (decide ((⟨k,a,n⟩:Deed)=⟨k',b,n'⟩))):=by
 have u3:=Tryz.underlying3
 have a3:=Tryz.isAgg3
 have z3:=Tryz.sizeOf3
 have u9:=Tryz.underlying9
 have a9:=Tryz.isAgg9
 have z9:=Tryz.sizeOf9
 have hS:Tryz.prog.underlying 48=some (.struct (Tryz.prog.fieldsOf 48)):=Kb
 have hp:Tryz.prog.stoodInHeld 48=false:=Kb
 have hg:Tryz.prog.eqGuardType Tryz.prog.depth 48=false:=Kb
 have e:((binOp .eql 48 (.agg #[.int .i64 k,str a,.int .i64 n]) (.agg #[.int .i64 k',str b,.int .i64 n'])).run Tryz.prog w)=.ok (.bool (decide ((⟨k,a,n⟩:Deed)=⟨k',b,n'⟩))) w:=by
  rw [run_eql_struct,show (10000:Nat)=9999+1 from rfl,run_equalIn_agg w 9999 48 _ _ hS hp]
  simp only [Program.fieldsOf,Tryz.underlying48]
  go_simp
  by_cases h1:k=k' <;> by_cases h2:a=b <;> by_cases h3:n=n' <;> simp [h1,h2,h3]
 simp [OpV,execOp,hx,hy,run_eqGuard_agg,hg,e]
theorem spec_DeedText_ok (w:World) (k n:Int) (t:List UInt8) (ht:t.length≤1048576) :
  Does Tryz.prog 108 [.agg #[.int .i64 k,str t,.int .i64 n]] w (Ret w (str (dtV ⟨k,t,n⟩))):=by
 obtain ⟨B,hB⟩ : ∃ B,B=(rdP t).isSome:=⟨_,rfl⟩
 have k1 : ∀ w,Does Tryz.prog 122 [str t] w (RetOB w XR ((rdP t).getD []) B):=fun w=>hB ▸ Ry w t ht
 refine Vh Tryz.func108 Z Tryz.results108 Tryz.ntmps108 Z ?_
 have k2 : ∀ w,0≤n∧n≤9→Does Tryz.prog 64 [.int .i64 n] w (Ret w (str [dig n.toNat])):=fun w h=>by
  obtain ⟨d,rfl⟩:=Int.eq_ofNat_of_zero_le h.1
  exact Tj w d Ka
 focus
  refine Zp<|Yl Z Z Z ?_;rintro b1 w1 hb1 E1 hB1;have hlb1:=hB1.lt;have hs1:=E1.size;refine Yj Z<|Zn<|Zq<|Vf<|Vn Kq Ku Z<|Ul Kv hB1 Z<|Zr Z (Vx (a:=.string _) Jm Z) (k1 _) ?_;rintro _ w2 ⟨u1,rfl,E2,hO1⟩;have hs2:=E2.size;refine Xl Z<|Un u1 Z<|Xv Z<|Yr u1 Z<|Zz Z<|Zn<|Zq<|Zw<|Zq<|Vf<|Qt Je Kx (hB1.ext E2) Z<|Wo Z (Vs (ps:=[(0,.int _ _)]) (cs:=[_,_,_]) Yx Z Z)<|Wo Z (Mc Z Z)<|Zz Z<|Zn<|Zs Z (fun h1=>?_) (fun h1=>?_);refine Zp<|Yj Z<|Zn<|Zy ?_;refine Ve (v:=.string _) Z ?_;refine ⟨congrArg str ?_,exq⟩;rotate_left
  refine Zp<|Qt Je Kx (hB1.ext E2) Z<|Wo Z (Vs (ps:=[(0,.int _ _)]) (cs:=[_,_,_]) Yx Z Z)<|Wo Z (Mc Z Z)<|Zz Z<|Zn<|Zs Z (fun h2=>?_) (fun h2=>?_);refine Zp<|Yj Z<|Zn<|Zy ?_;refine Ve (v:=.string _) Z ?_;refine ⟨congrArg str ?_,exq⟩;rotate_left;refine Zp<|Vn Kq Kl Z<|Yk Km (hB1.ext E2) Z<|Vm Z<|Yf Z (fun h3=>?_) (fun h3=>?_);refine Vn Kq Kl Z<|Yk Km (hB1.ext E2) Z<|Vm Z<|Yq Z<|Yf Z (fun h4=>?_) (fun h4=>?_);refine Yi Z<|Yq Z<|Zz Z<|Zn<|Xg Z (fun h5=>?_) (fun h5=>?_)
  refine Zp<|Vn Kq Ku Z<|Ul Kv (hB1.ext E2) Z<|Wo Z (Xw Z Z (by simp <;> omega)) ?_;refine Yj Z<|Zn<|Zy ?_;refine Ve (v:=.string _) Z ?_;refine ⟨congrArg str ?_,exq⟩;rotate_left;refine Zp<|Vn Kq Kl Z<|Yk Km (hB1.ext E2) Z<|Vm Z<|Uj Z fun h6=>?_;refine Zo Z<|Zo Z<|Zo Z<|Vp Z<|Yi Z<|Zo Z<|Vp Z<|Zz Z<|Zn<|Zx Z ?_;refine Zp<|Vn Kq Kl Z<|Yk Km (hB1.ext E2) Z<|Vm Z<|Uj Z fun h7=>?_;refine Zo Z<|Zo Z<|Zo Z<|Vp Z<|Yi Z<|Zo Z<|Zo Z<|Zo Z<|Vp Z<|Zz Z<|Zn<|Zx Z ?_
  refine Zv<|Zp<|Yj Z<|Zn<|Zy ?_;refine Ve (v:=.string _) Z ?_;refine ⟨congrArg str ?_,exq⟩;rotate_left;refine Zo Z<|Vp Z<|Zz Z<|Zn<|Zx Z ?_;refine Zp<|Vn Kq Kl Z<|Yk Km (hB1.ext E2) Z<|Vm Z<|Uj Z fun h5=>?_;refine Zo Z<|Zo Z<|Zo Z<|Vp Z<|Yi Z<|Zo Z<|Vp Z<|Zz Z<|Zn<|Zx Z ?_;refine Zp<|Vn Kq Kl Z<|Yk Km (hB1.ext E2) Z<|Vm Z<|Uj Z fun h6=>?_;refine Zo Z<|Zo Z<|Zo Z<|Vp Z<|Yi Z<|Zo Z<|Zo Z<|Zo Z<|Vp Z<|Zz Z<|Zn<|Zx Z ?_;refine Zv<|Zp<|Yj Z<|Zn<|Zy ?_
  refine Ve (v:=.string _) Z ?_;refine ⟨congrArg str ?_,exq⟩;rotate_left;refine Zo Z<|Zo Z<|Zo Z<|Vp Z<|Yi Z<|Zo Z<|Vp Z<|Zz Z<|Zn<|Zx Z ?_;refine Zp<|Vn Kq Kl Z<|Yk Km (hB1.ext E2) Z<|Vm Z<|Yf Z (fun h4=>?_) (fun h4=>?_);refine Vn Kq Kl Z<|Yk Km (hB1.ext E2) Z<|Vm Z<|Yq Z<|Yf Z (fun h5=>?_) (fun h5=>?_);refine Yi Z<|Yq Z<|Zz Z<|Zn<|Xg Z (fun h6=>?_) (fun h6=>?_);refine Zp<|Vn Kq Ku Z<|Ul Kv (hB1.ext E2) Z<|Wo Z (Xw Z Z (by simp <;> omega)) ?_;refine Yj Z<|Zn<|Zy ?_;refine Ve (v:=.string _) Z ?_;refine ⟨congrArg str ?_,exq⟩;rotate_left
  refine Zp<|Vn Kq Kl Z<|Yk Km (hB1.ext E2) Z<|Vm Z<|Uj Z fun h7=>?_;refine Zo Z<|Zo Z<|Zo Z<|Vp Z<|Yi Z<|Zo Z<|Zo Z<|Zo Z<|Vp Z<|Zz Z<|Zn<|Zx Z ?_;refine Zv<|Zp<|Yj Z<|Zn<|Zy ?_;refine Ve (v:=.string _) Z ?_;refine ⟨congrArg str ?_,exq⟩;rotate_left;refine Zo Z<|Vp Z<|Zz Z<|Zn<|Zx Z ?_;refine Zp<|Vn Kq Kl Z<|Yk Km (hB1.ext E2) Z<|Vm Z<|Uj Z fun h6=>?_;refine Zo Z<|Zo Z<|Zo Z<|Vp Z<|Yi Z<|Zo Z<|Zo Z<|Zo Z<|Vp Z<|Zz Z<|Zn<|Zx Z ?_;refine Zv<|Zp<|Yj Z<|Zn<|Zy ?_
  refine Ve (v:=.string _) Z ?_;refine ⟨congrArg str ?_,exq⟩;rotate_left;refine Zo Z<|Zo Z<|Zo Z<|Vp Z<|Yi Z<|Zo Z<|Vp Z<|Zz Z<|Zn<|Zx Z ?_;refine Zp<|Vn Kq Kl Z<|Yk Km (hB1.ext E2) Z<|Vm Z<|Yf Z (fun h5=>?_) (fun h5=>?_);refine Vn Kq Ku Z<|Ul Kv (hB1.ext E2) Z<|Wo Z (Vc Z Z)<|Yq Z<|Yf Z (fun h6=>?_) (fun h6=>?_);refine Vn Kq Kl Z<|Yk Km (hB1.ext E2) Z<|Zr Z (Ud (a:=.int _ _) (b:=.int _ _) (c:=.int _ _) Jl Z Z Z) (Uz _ _ _ _) ?_;rintro _ w3 ⟨rfl,E3⟩;refine Yq Z<|Zz Z<|Zn<|Zs Z (fun h7=>?_) (fun h7=>?_)
  refine Zq<|Vf<|Vn Kq Kl Z<|Yk Km (hB1.ext exq) Z<|Zr Z (Vx (a:=.int _ _) Jo Z) (k2 _ Kd) ?_;rintro _ w4 ⟨rfl,E4⟩;refine Wo Z (Xw Z Z (by simp <;> omega)) ?_;refine Yj Z<|Zn<|Zy ?_;refine Ve (v:=.string _) Z ?_;refine ⟨congrArg str ?_,exq⟩;rotate_left;refine Zv<|Zp<|Yj Z<|Zn<|Zy ?_;refine Ve (v:=.string _) Z ?_;refine ⟨congrArg str ?_,exq⟩;rotate_left;refine Zo Z<|Zo Z<|Zo Z<|Vp Z<|Zz Z<|Zn<|Zx Z ?_;refine Zv<|Zp<|Yj Z<|Zn<|Zy ?_;refine Ve (v:=.string _) Z ?_;refine ⟨congrArg str ?_,exq⟩;rotate_left
  refine Zo Z<|Zo Z<|Zo Z<|Vp Z<|Yi Z<|Zo Z<|Zo Z<|Zo Z<|Vp Z<|Zz Z<|Zn<|Zx Z ?_;refine Zv<|Zp<|Yj Z<|Zn<|Zy ?_;refine Ve (v:=.string _) Z ?_;refine ⟨congrArg str ?_,exq⟩;rotate_left
 all_goals (unfold dtV;simp only [Deed.mk.injEq] at *)
 all_goals (try subst hB)
 all_goals try (simp_all [sSingle,sBack,sAdd,sDrop,sInto];done)
 all_goals (repeat' split)
 all_goals first
  | rfl
  | (simp_all [sSingle,sBack,sAdd,sDrop,sInto];done)
  | (exfalso;simp_all;omega)
theorem Nv (w:World) (k n:Int) (t:List UInt8) (hM:EMx gMx w (.bool true) ()) (ht:t.length≤1048576) :
  Does Tryz.prog 104 [.agg #[.int .i64 k,str t,.int .i64 n]] w (Ret w (str (dtV ⟨k,t,n⟩))):=by
 obtain ⟨B,hB⟩ : ∃ B,B=(rdP t).isSome:=⟨_,rfl⟩
 have k1 : ∀ w,EMx gMx w (.bool true) ()→Does Tryz.prog 150 [str t] w (RetOB w XR ((rdP t).getD []) B):=fun w hM=>hB ▸ Nf w t hM ht
 have k2 : ∀ w,0≤n→n≤9→Does Tryz.prog 131 [.int .i64 n] w (Ret w (str [dig n.toNat])):=fun w h h'=>by
  obtain ⟨d,rfl⟩:=Int.eq_ofNat_of_zero_le h
  exact Itoa_ok w d Ka
 refine Vh Tryz.func104 Z Tryz.results104 Tryz.ntmps104 Z ?_
 focus
  refine Zp<|Yl Z Z Z ?_;rintro b1 w1 hb1 E1 hB1;have hlb1:=hB1.lt;have hs1:=E1.size;refine Yj Z<|Zn<|Zq<|Zw<|Zp<|Vn Kq Kl Z<|Yk Km hB1 Z<|Vm Z<|Yf Z (fun h1=>?_) (fun h1=>?_);refine Vn Kq Ku Z<|Ul Kv hB1 Z<|Wo Z (Vc Z Z)<|Yq Z<|Yf Z (fun h2=>?_) (fun h2=>?_);refine Vn Kq Kl Z<|Yk Km hB1 Z<|Vm Z<|Yq Z<|Zz Z<|Zn<|Zs Z (fun h3=>?_) (fun h3=>?_);refine Zp<|Yj Z<|Zn<|Zy ?_;refine Ve (v:=.string _) Z ?_;refine ⟨congrArg str ?_,E1⟩;rotate_left;refine Zp<|Vn Kq Kl Z<|Yk Km hB1 Z<|Vm Z<|Uj Z fun h4=>?_
  refine Zo Z<|Zo Z<|Zo Z<|Vp Z<|Yi Z<|Zo Z<|Zo Z<|Zo Z<|Vp Z<|Zz Z<|Zn<|Zx Z ?_;refine Zp<|Vn Kq Kl Z<|Yk Km hB1 Z<|Vm Z<|Uj Z fun h5=>?_;refine Zo Z<|Zo Z<|Zo Z<|Vp Z<|Yi Z<|Zo Z<|Zo Z<|Zo Z<|Vp Z<|Yi Z<|Zo Z<|Zo Z<|Zo Z<|Vp Z<|Zz Z<|Zn<|Zx Z ?_;refine Zv<|Zq<|Zp<|Vn Kq Ku Z<|Ul Kv hB1 Z<|Zr Z (Vx (a:=.string _) Jt Z) (k1 _ ((Mono.mono E1 hM))) ?_;rintro _ w2 ⟨u1,rfl,E2,hO1⟩
  refine Xl Z<|Un u1 Z<|Xv Z<|Yr u1 Z<|Zz Z<|Zn<|Zp<|Yi Z<|Ym Z<|Yn Z (Vq (v:=.bool _) Z) (fun h6=>?_) (fun h6=>?_);refine Zo Z<|Zo Z<|Zo Z<|Yq Z<|Zn<|Vv Z ?_;refine Zp<|Yj Z<|Zn<|Zy ?_;refine Ve (v:=.string _) Z ?_;refine ⟨congrArg str ?_,exq⟩;rotate_left;refine Vn Kq Kl Z<|Yk Km (hB1.ext E2) Z<|Xo Z<|Vp Z<|Zn<|Vz Z (fun h7=>?_) (fun h7=>?_);refine Zp<|Yj Z<|Zn<|Zy ?_;refine Ve (v:=.string _) Z ?_;refine ⟨congrArg str ?_,exq⟩;rotate_left;contradiction;refine Zo Z<|Zo Z<|Zo Z<|Vp Z<|Zz Z<|Zn<|Zx Z ?_
  refine Zp<|Vn Kq Kl Z<|Yk Km hB1 Z<|Vm Z<|Uj Z fun h3=>?_;refine Zo Z<|Zo Z<|Zo Z<|Vp Z<|Yi Z<|Zo Z<|Zo Z<|Zo Z<|Vp Z<|Zz Z<|Zn<|Zx Z ?_;refine Zp<|Vn Kq Kl Z<|Yk Km hB1 Z<|Vm Z<|Uj Z fun h4=>?_;refine Zo Z<|Zo Z<|Zo Z<|Vp Z<|Yi Z<|Zo Z<|Zo Z<|Zo Z<|Vp Z<|Yi Z<|Zo Z<|Zo Z<|Zo Z<|Vp Z<|Zz Z<|Zn<|Zx Z ?_;refine Zv<|Zq<|Zp<|Vn Kq Ku Z<|Ul Kv hB1 Z<|Zr Z (Vx (a:=.string _) Jt Z) (k1 _ ((Mono.mono E1 hM))) ?_;rintro _ w2 ⟨u1,rfl,E2,hO1⟩
  refine Xl Z<|Un u1 Z<|Xv Z<|Yr u1 Z<|Zz Z<|Zn<|Zp<|Yi Z<|Ym Z<|Yn Z (Vq (v:=.bool _) Z) (fun h5=>?_) (fun h5=>?_);refine Zo Z<|Zo Z<|Zo Z<|Yq Z<|Zn<|Vv Z ?_;refine Zp<|Yj Z<|Zn<|Zy ?_;refine Ve (v:=.string _) Z ?_;refine ⟨congrArg str ?_,exq⟩;rotate_left;refine Vn Kq Kl Z<|Yk Km (hB1.ext E2) Z<|Xo Z<|Vp Z<|Zn<|Vz Z (fun h6=>?_) (fun h6=>?_);refine Zp<|Yj Z<|Zn<|Zy ?_;refine Ve (v:=.string _) Z ?_;refine ⟨congrArg str ?_,exq⟩;rotate_left
  refine Zv<|Zq<|Zp<|Vn Kq Kl Z<|Yk Km (hB1.ext E2) Z<|Zn<|Zw<|Zq<|Vf<|Vm Z<|Zz Z<|Zn<|Zt Z fun h7=>?_;refine Zq<|Vf<|Vm Z<|Zz Z<|Zn<|Zt Z fun h8=>?_;refine Zv<|Zq<|Vf<|Yj Z<|Zn<|Zy ?_;refine Ve (v:=.string _) Z ?_;refine ⟨congrArg str ?_,exq⟩;rotate_left;refine Zo Z<|Zo Z<|Zo Z<|Vp Z<|Yi Z<|Zo Z<|Zo Z<|Zo Z<|Vp Z<|Zz Z<|Zn<|Zx Z ?_;refine Zp<|Vn Kq Kl Z<|Yk Km hB1 Z<|Vm Z<|Yf Z (fun h2=>?_) (fun h2=>?_)
  refine Vn Kq Ku Z<|Ul Kv hB1 Z<|Wo Z (Vc Z Z)<|Yq Z<|Yf Z (fun h3=>?_) (fun h3=>?_);refine Vn Kq Kl Z<|Yk Km hB1 Z<|Vm Z<|Yq Z<|Zz Z<|Zn<|Zs Z (fun h4=>?_) (fun h4=>?_);refine Zp<|Yj Z<|Zn<|Zy ?_;refine Ve (v:=.string _) Z ?_;refine ⟨congrArg str ?_,E1⟩;rotate_left;refine Zp<|Vn Kq Kl Z<|Yk Km hB1 Z<|Vm Z<|Uj Z fun h5=>?_;refine Zo Z<|Zo Z<|Zo Z<|Vp Z<|Yi Z<|Zo Z<|Zo Z<|Zo Z<|Vp Z<|Yi Z<|Zo Z<|Zo Z<|Zo Z<|Vp Z<|Zz Z<|Zn<|Zx Z ?_
  refine Zv<|Zq<|Zp<|Vn Kq Ku Z<|Ul Kv hB1 Z<|Zr Z (Vx (a:=.string _) Jt Z) (k1 _ ((Mono.mono E1 hM))) ?_;rintro _ w2 ⟨u1,rfl,E2,hO1⟩;refine Xl Z<|Un u1 Z<|Xv Z<|Yr u1 Z<|Zz Z<|Zn<|Zp<|Yi Z<|Ym Z<|Yn Z (Vq (v:=.bool _) Z) (fun h6=>?_) (fun h6=>?_);refine Zo Z<|Zo Z<|Zo Z<|Yq Z<|Zn<|Vv Z ?_;refine Zp<|Yj Z<|Zn<|Zy ?_;refine Ve (v:=.string _) Z ?_;refine ⟨congrArg str ?_,exq⟩;rotate_left;refine Vn Kq Kl Z<|Yk Km (hB1.ext E2) Z<|Xo Z<|Vp Z<|Zn<|Vz Z (fun h7=>?_) (fun h7=>?_);refine Zp<|Yj Z<|Zn<|Zy ?_;refine Ve (v:=.string _) Z ?_
  refine ⟨congrArg str ?_,exq⟩;rotate_left;contradiction;refine Zo Z<|Zo Z<|Zo Z<|Vp Z<|Zz Z<|Zn<|Zx Z ?_;refine Zp<|Vn Kq Kl Z<|Yk Km hB1 Z<|Vm Z<|Uj Z fun h4=>?_;refine Zo Z<|Zo Z<|Zo Z<|Vp Z<|Yi Z<|Zo Z<|Zo Z<|Zo Z<|Vp Z<|Yi Z<|Zo Z<|Zo Z<|Zo Z<|Vp Z<|Zz Z<|Zn<|Zx Z ?_;refine Zv<|Zq<|Zp<|Vn Kq Ku Z<|Ul Kv hB1 Z<|Zr Z (Vx (a:=.string _) Jt Z) (k1 _ ((Mono.mono E1 hM))) ?_;rintro _ w2 ⟨u1,rfl,E2,hO1⟩
  refine Xl Z<|Un u1 Z<|Xv Z<|Yr u1 Z<|Zz Z<|Zn<|Zp<|Yi Z<|Ym Z<|Yn Z (Vq (v:=.bool _) Z) (fun h5=>?_) (fun h5=>?_);refine Zo Z<|Zo Z<|Zo Z<|Yq Z<|Zn<|Vv Z ?_;refine Zp<|Yj Z<|Zn<|Zy ?_;refine Ve (v:=.string _) Z ?_;refine ⟨congrArg str ?_,exq⟩;rotate_left;refine Vn Kq Kl Z<|Yk Km (hB1.ext E2) Z<|Xo Z<|Vp Z<|Zn<|Vz Z (fun h6=>?_) (fun h6=>?_);refine Zp<|Yj Z<|Zn<|Zy ?_;refine Ve (v:=.string _) Z ?_;refine ⟨congrArg str ?_,exq⟩;rotate_left
  refine Zv<|Zq<|Zp<|Vn Kq Kl Z<|Yk Km (hB1.ext E2) Z<|Zn<|Zw<|Zq<|Vf<|Vm Z<|Zz Z<|Zn<|Zt Z fun h7=>?_;refine Zq<|Vf<|Vm Z<|Zz Z<|Zn<|Zt Z fun h8=>?_;refine Zv<|Zq<|Vf<|Yj Z<|Zn<|Zy ?_;refine Ve (v:=.string _) Z ?_;refine ⟨congrArg str ?_,exq⟩;rotate_left;refine Zo Z<|Zo Z<|Zo Z<|Vp Z<|Yi Z<|Zo Z<|Zo Z<|Zo Z<|Vp Z<|Zz Z<|Zn<|Zx Z ?_;refine Zp<|Vn Kq Kl Z<|Yk Km hB1 Z<|Vm Z<|Yf Z (fun h3=>?_) (fun h3=>?_)
  refine Vn Kq Ku Z<|Ul Kv hB1 Z<|Wo Z (Vc Z Z)<|Yq Z<|Yf Z (fun h4=>?_) (fun h4=>?_);refine Vn Kq Kl Z<|Yk Km hB1 Z<|Qk Z<|Yq Z<|Yf Z (fun h5=>?_) (fun h5=>?_);refine Vn Kq Kl Z<|Yk Km hB1 Z<|Wsleq Z<|Yq Z<|Zz Z<|Zn<|Zs Z (fun h6=>?_) (fun h6=>?_);refine Zp<|Vn Kq Kl Z<|Yk Km hB1 Z<|Zr Z (Vx (a:=.int _ _) Gy Z) (k2 _ Kd Kd) ?_;rintro _ w2 ⟨rfl,E2⟩;refine Wo Z (Xw Z Z (by simp <;> omega)) ?_;refine Yj Z<|Zn<|Zy ?_;refine Ve (v:=.string _) Z ?_;refine ⟨congrArg str ?_,exq⟩;rotate_left
  refine Zv<|Zq<|Zp<|Vn Kq Ku Z<|Ul Kv hB1 Z<|Zr Z (Vx (a:=.string _) Jt Z) (k1 _ ((Mono.mono E1 hM))) ?_;rintro _ w2 ⟨u1,rfl,E2,hO1⟩;refine Xl Z<|Un u1 Z<|Xv Z<|Yr u1 Z<|Zz Z<|Zn<|Zp<|Yi Z<|Ym Z<|Yn Z (Vq (v:=.bool _) Z) (fun h7=>?_) (fun h7=>?_);refine Zo Z<|Zo Z<|Zo Z<|Yq Z<|Zn<|Vv Z ?_;refine Zp<|Yj Z<|Zn<|Zy ?_;refine Ve (v:=.string _) Z ?_;refine ⟨congrArg str ?_,exq⟩;rotate_left;refine Vn Kq Kl Z<|Yk Km (hB1.ext E2) Z<|Xo Z<|Vp Z<|Zn<|Vz Z (fun h8=>?_) (fun h8=>?_);refine Zp<|Yj Z<|Zn<|Zy ?_;refine Ve (v:=.string _) Z ?_
  refine ⟨congrArg str ?_,exq⟩;rotate_left;(exfalso;omega);refine Zo Z<|Zo Z<|Zo Z<|Vp Z<|Zz Z<|Zn<|Zx Z ?_;refine Zv<|Zq<|Zp<|Vn Kq Ku Z<|Ul Kv hB1 Z<|Zr Z (Vx (a:=.string _) Jt Z) (k1 _ ((Mono.mono E1 hM))) ?_;rintro _ w2 ⟨u1,rfl,E2,hO1⟩;have hs2:=E2.size;refine Xl Z<|Un u1 Z<|Xv Z<|Yr u1 Z<|Zz Z<|Zn<|Zp<|Yi Z<|Ym Z<|Yn Z (Vq (v:=.bool _) Z) (fun h6=>?_) (fun h6=>?_);refine Zo Z<|Zo Z<|Zo Z<|Yq Z<|Zn<|Vv Z ?_;refine Zp<|Yj Z<|Zn<|Zy ?_;refine Ve (v:=.string _) Z ?_;refine ⟨congrArg str ?_,exq⟩;rotate_left
  refine Vn Kq Kl Z<|Yk Km (hB1.ext E2) Z<|Xo Z<|Vp Z<|Zn<|Vz Z (fun h7=>?_) (fun h7=>?_);refine Zp<|Yj Z<|Zn<|Zy ?_;refine Ve (v:=.string _) Z ?_;refine ⟨congrArg str ?_,exq⟩;rotate_left;(exfalso;omega);refine Zo Z<|Zo Z<|Zo Z<|Vp Z<|Yi Z<|Zo Z<|Zo Z<|Zo Z<|Vp Z<|Zz Z<|Zn<|Zx Z ?_;refine Zv<|Zq<|Zp<|Vn Kq Ku Z<|Ul Kv hB1 Z<|Zr Z (Vx (a:=.string _) Jt Z) (k1 _ ((Mono.mono E1 hM))) ?_;rintro _ w2 ⟨u1,rfl,E2,hO1⟩
  refine Xl Z<|Un u1 Z<|Xv Z<|Yr u1 Z<|Zz Z<|Zn<|Zp<|Yi Z<|Ym Z<|Yn Z (Vq (v:=.bool _) Z) (fun h5=>?_) (fun h5=>?_);refine Zo Z<|Zo Z<|Zo Z<|Yq Z<|Zn<|Vv Z ?_;refine Zp<|Yj Z<|Zn<|Zy ?_;refine Ve (v:=.string _) Z ?_;refine ⟨congrArg str ?_,exq⟩;rotate_left;refine Vn Kq Kl Z<|Yk Km (hB1.ext E2) Z<|Xo Z<|Vp Z<|Zn<|Vz Z (fun h6=>?_) (fun h6=>?_);refine Zp<|Yj Z<|Zn<|Zy ?_;refine Ve (v:=.string _) Z ?_;refine ⟨congrArg str ?_,exq⟩;rotate_left
  refine Zv<|Zq<|Zp<|Vn Kq Kl Z<|Yk Km (hB1.ext E2) Z<|Zn<|Zw<|Zq<|Vf<|Vm Z<|Zz Z<|Zn<|Zt Z fun h7=>?_;refine Zq<|Vf<|Vm Z<|Zz Z<|Zn<|Zt Z fun h8=>?_;refine Zv<|Zq<|Vf<|Yj Z<|Zn<|Zy ?_;refine Ve (v:=.string _) Z ?_;refine ⟨congrArg str ?_,exq⟩;rotate_left;refine Zo Z<|Zo Z<|Zo Z<|Vp Z<|Yi Z<|Zo Z<|Zo Z<|Zo Z<|Vp Z<|Yi Z<|Zo Z<|Zo Z<|Zo Z<|Vp Z<|Zz Z<|Zn<|Zx Z ?_;refine Zv<|Zq<|Zp<|Vn Kq Ku Z<|Ul Kv hB1 Z<|Zr Z (Vx (a:=.string _) Jt Z) (k1 _ ((Mono.mono E1 hM))) ?_
  rintro _ w2 ⟨u1,rfl,E2,hO1⟩;refine Xl Z<|Un u1 Z<|Xv Z<|Yr u1 Z<|Zz Z<|Zn<|Zp<|Yi Z<|Ym Z<|Yn Z (Vq (v:=.bool _) Z) (fun h4=>?_) (fun h4=>?_);refine Zo Z<|Zo Z<|Zo Z<|Yq Z<|Zn<|Vv Z ?_;refine Zp<|Yj Z<|Zn<|Zy ?_;refine Ve (v:=.string _) Z ?_;refine ⟨congrArg str ?_,exq⟩;rotate_left;refine Vn Kq Kl Z<|Yk Km (hB1.ext E2) Z<|Xo Z<|Vp Z<|Zn<|Vz Z (fun h5=>?_) (fun h5=>?_);refine Zp<|Yj Z<|Zn<|Zy ?_;refine Ve (v:=.string _) Z ?_;refine ⟨congrArg str ?_,exq⟩;rotate_left
  refine Zv<|Zq<|Zp<|Vn Kq Kl Z<|Yk Km (hB1.ext E2) Z<|Zn<|Zw<|Zq<|Vf<|Vm Z<|Zz Z<|Zn<|Zs Z (fun h6=>?_) (fun h6=>?_);refine Zp<|Vn Kq Ku Z<|Ul Kv (hB1.ext E2) Z<|Wo Z (Xw Z Z (by simp <;> omega)) ?_;refine Yj Z<|Zn<|Zy ?_;refine Ve (v:=.string _) Z ?_;refine ⟨congrArg str ?_,exq⟩;rotate_left;refine Zp<|Vm Z<|Zz Z<|Zn<|Zs Z (fun h7=>?_) (fun h7=>?_);refine Zp<|Vn Kq Ku Z<|Ul Kv (hB1.ext E2) Z<|Wo Z (Xw Z Z (by simp <;> omega)) ?_;refine Yj Z<|Zn<|Zy ?_;refine Ve (v:=.string _) Z ?_;refine ⟨congrArg str ?_,exq⟩;rotate_left
  refine Zv<|Zq<|Vf<|Yj Z<|Zn<|Zy ?_;refine Ve (v:=.string _) Z ?_;refine ⟨congrArg str ?_,exq⟩;rotate_left
 all_goals (unfold dtV;simp only [Deed.mk.injEq] at *)
 all_goals (try subst hB)
 all_goals try (simp_all [sSingle,sBack,sAdd,sDrop,sInto];done)
 all_goals (repeat' split)
 all_goals first
  | rfl
  | (simp_all [sSingle,sBack,sAdd,sDrop,sInto];done)
  | (exfalso;simp_all;omega)
end Go.Proofs.YtbgpppaljpngmaaGreatDoor
set_option linter.unusedVariables false
set_option linter.unusedSimpArgs false
namespace Go.Hs
def wInto:List UInt8:=[105,110,116,111]
def wAdd:List UInt8:=[97,100,100]
def wDrop:List UInt8:=[100,114,111,112]
def cand (s:List UInt8):Option Deed :=
 if s=sSingle then some ⟨0,[],0⟩
 else if s=sBack then some ⟨4,[],0⟩
 else if (cutF 32 s).1=wInto∧(cutF 32 s).2.1.length=1∧48≤((cutF 32 s).2.1.getD 0 0).toNat∧((cutF 32 s).2.1.getD 0 0).toNat≤57 then some ⟨3,[],((cutF 32 s).2.1.getD 0 0).toNat - 48⟩
 else if (cutF 32 s).1=wAdd∧(cutF 32 s).2.2=true then some ⟨1,(cutF 32 s).2.1,0⟩
 else if (cutF 32 s).1=wDrop∧(cutF 32 s).2.2=true then some ⟨2,(cutF 32 s).2.1,0⟩
 else none
theorem cand_told {a:Deed} (h:Told a):cand (dtV a)=some a:=by
 cases h with
 | single=>rw [Sv];rfl
 | back=>rw [Nn];rfl
 | into d h =>
   rw [Tn h]
   have e : cutF 32 (sInto ++ [dig d]) = (wInto, [dig d], true) := cutF_at (a := wInto) (r := [dig d]) Kc
   have h1 : sInto ++ [dig d] ≠ sSingle := by intro h; injection h with h1 h2; revert h1; decide
   have h2 : sInto ++ [dig d] ≠ sBack := by intro h; injection h with h1 h2; revert h1; decide
   have ed : (dig d).toNat = 48 + d := Rq Ka
   rw [cand, if_neg h1, if_neg h2, e]
   simp only [List.length_cons, List.length_nil, List.getD_cons_zero, ed]
   rw [if_pos ⟨by trivial, by trivial, Ka, Ka⟩]
   congr 2; omega
 | add p h =>
   rw [Tq h]
   have e : cutF 32 (sAdd ++ txt p) = (wAdd, txt p, true) := cutF_at (a := wAdd) (r := txt p) Kc
   have h1 : sAdd ++ txt p ≠ sSingle := by intro h; injection h with h1 h2; revert h1; decide
   have h2 : sAdd ++ txt p ≠ sBack := by intro h; injection h with h1 h2; revert h1; decide
   rw [cand, if_neg h1, if_neg h2, e]
   simp only
   rw [if_neg (fun h => by have := h.1; revert this; decide), if_pos ⟨by trivial, by trivial⟩]
 | drop p h =>
   rw [Sl h]
   have e : cutF 32 (sDrop ++ txt p) = (wDrop, txt p, true) := cutF_at (a := wDrop) (r := txt p) Kc
   have h1 : sDrop ++ txt p ≠ sSingle := by intro h; injection h with h1 h2; revert h1; decide
   have h2 : sDrop ++ txt p ≠ sBack := by intro h; injection h with h1 h2; revert h1; decide
   rw [cand, if_neg h1, if_neg h2, e]
   simp only
   rw [if_neg (fun h => by have := h.1; revert this; decide), if_neg (fun h => by have := h.1; revert this; decide), if_pos ⟨by trivial, by trivial⟩]
theorem rdD_cand (s:List UInt8):rdD s=match cand s with | some a=>if dtV a=s then some a else none | none=>none:=by
 cases hr:rdD s with
 | some a =>
   have ht := rdD_told hr
   have h1 := (Nk hr).1
   have := cand_told ht
   rw [h1] at this
   rw [this]
   simp only
   rw [if_pos h1]
 | none =>
   cases hc : cand s with
   | none => rfl
   | some a =>
     simp only
     by_cases h : dtV a = s
     · by_cases hs : s = []
       · subst hs; revert hc; unfold cand; intro hc; simp [cutF, sSingle, sBack, wInto, wAdd, wDrop] at hc
       · rw [rdD_eq h hs] at hr; cases hr
     · rw [if_neg h]
set_option linter.unusedVariables false
set_option linter.unusedSimpArgs false
open Go.RowKit (Below)
def dcs (l:List Deed):List Value:=l.flatMap fun a=>[.int .i64 a.kind,str a.text,.int .i64 a.node]
theorem dcs_len (l:List Deed):(dcs l).length=l.length*3:=by
 induction l with
 | nil=>rfl
 | cons a l ih=>simp only [dcs,List.flatMap_cons,List.length_append,List.length_cons,List.length_nil] at ih ⊢;omega
theorem dcs_app (l m:List Deed):dcs (l++m)=dcs l++dcs m:=by simp [dcs]
theorem dcs_at : ∀ (l:List Deed) (i:Nat) (h:i < l.length),(dcs l)[i*3]? = some (.int .i64 l[i].kind)∧(dcs l)[i*3+1]? = some (str l[i].text)∧(dcs l)[i*3+2]? = some (.int .i64 l[i].node)
 | a::l,0,_=>⟨rfl,rfl,rfl⟩
 | a :: l, i + 1, h => by
   have := dcs_at l i (by simpa using h)
   simp only [List.getElem_cons_succ]
   have e : dcs (a :: l) = [.int .i64 a.kind, str a.text, .int .i64 a.node] ++ dcs l := rfl
   have e1 : (i + 1) * 3 = i * 3 + 3 := Ka
   rw [e, e1]
   refine ⟨?_, ?_, ?_⟩
   · rw [List.getElem?_append_right Ki]; simpa using this.1
   · rw [List.getElem?_append_right Ki]; simpa using this.2.1
   · rw [List.getElem?_append_right Ki]; simpa using this.2.2
theorem dcs_one {l:List Deed} {u:Value} (h:u ∈ dcs l):isCell u=true:=by
 obtain ⟨a,_,h⟩:=List.mem_flatMap.1 h
 simp only [List.mem_cons,List.not_mem_nil,or_false] at h
 rcases h with rfl | rfl | rfl <;> rfl
def OD (e:TypeId) (lo:Nat) (w:World) (v:Value) (l:List Deed):Prop:=w.ownsRow lo e 3 v l.length (dcs l)∧∀ a ∈ l,a.text.length≤9223372036854775807
section
variable {e:TypeId} {lo:Nat} {w w' w0:World} {v:Value} {l m:List Deed}
theorem OD.ext (h:OD e lo w v l) (k:Ext w w'):OD e lo w' v l :=
 ⟨h.1.kept (row:=none) ⟨k.os,k.tape,k.output,k.size,fun i hi _=>k.block i hi⟩ (by cases hv:v.ownBlock <;> simp),h.2⟩
instance:Mono (OD e lo):=⟨fun k h=>h.ext k⟩
theorem OD.lt (h:OD e lo w v l) {k:Nat} (hk:v.ownBlock=some k):lo≤k∧k < w.heap.size:=h.1.lt k hk
theorem OD.read (h:OD e lo w v l):ESD w v l:=by
 have hA:=h.1.2
 rcases hA with ⟨rfl,h0⟩ | ⟨g,cap,cur,rfl,hb,hg,hnc,hcm,hcs,ht⟩
 ·have:l=[]:=List.eq_nil_of_length_eq_zero h0
  subst this
  exact ⟨none,0,rfl,Ki,.inl rfl⟩
 ·refine ⟨_,_,Z,by unfold maxLen at hcm;omega,.inr ⟨g,0,rfl,fun i hi=>?_⟩⟩
  obtain ⟨h1,h2,h3⟩:=dcs_at l i hi
  have c0:=h.1.cellAt (i*3) Ka
  have c1:=h.1.cellAt (i*3+1) Ka
  have c2:=h.1.cellAt (i*3+2) Ka
  rw [Nat.zero_add]
  exact ⟨c0.trans h1,c1.trans h2,c2.trans h3,h.2 _ (List.getElem_mem hi)⟩
theorem OD.blk {b n:Nat} (hb:w.heap[b]? = some (.cells (dcs l).toArray e (0,0))) (hl:lo≤b) (hn:l.length=n) (hm:n≤maxLen) (hx : ∀ a ∈ l,a.text.length≤9223372036854775807):OD e lo w (.slice (some ⟨b,0,none⟩) n n) l:=by
 subst hn
 exact ⟨⟨dcs_len l,.inr ⟨b,l.length,(dcs l).toArray,rfl,hl,hb,Nat.le_refl _,hm,by simp [dcs_len],by rw [List.take_of_length_le (by simp [dcs_len])]⟩⟩,hx⟩
end
structure ElD (P:Program) (t e:TypeId):Prop where
 und:P.underlying t=some (.slice e)
 info : ∃ i,P.info? e=some i∧i.zero=some (.agg #[.int .i64 0,str [],.int .i64 0])∧i.size=3∧i.bytes≤64
 size : ∀ w,(sizeOf e).run P w=.ok 3 w
 zero : ∀ w,(zeroValue e).run P w=.ok (.agg #[.int .i64 0,str [],.int .i64 0]) w
theorem ElD.of {P:Program} {t e:TypeId} (hu:P.underlying t=some (.slice e)) (h:(P.info? e).map (fun i=>(i.zero,i.size,Nat.ble i.bytes 64))=some (some (.agg #[.int .i64 0,str [],.int .i64 0]),3,true))
  (hs : ∀ w,(sizeOf e).run P w=.ok 3 w) (hz : ∀ w,(zeroValue e).run P w=.ok (.agg #[.int .i64 0,str [],.int .i64 0]) w):ElD P t e:=by
 refine ⟨hu,?_,hs,hz⟩
 cases hi:P.info? e with
 | none=>rw [hi] at h;cases h
 | some i =>
   rw [hi] at h
   simp only [Option.map_some, Option.some.injEq, Prod.mk.injEq] at h
   exact ⟨i, rfl, h.1, h.2.1, by simpa using h.2.2⟩
section
variable {P:Program} {n:Nat} {N:Env→World→Prop} {ρ : Env} {w w0:World} {all:Array Oper} {rest:List Oper} {d:Nat} {ty t el:TypeId} {pos:String} {after:Array Edge} {g:Option (Nat × Bool)} {x y z s:Operand} {v:Value} {l m:List Deed} {lo:Nat} {a1 a2 a3:Deed}
theorem run_buildD2 (hT:ElD P t el):(Instr.buildSlice t 2 #[(0,dv a1),(1,dv a2)]).run P w=.ok (.slice (some ⟨w.heap.size,0,none⟩) 2 2) (w.alloc (.cells (dcs [a1,a2]).toArray el)):=by
 simp [Instr.buildSlice,Ug hT.und,hT.size,hT.zero,newRow,Instr.fill,dv,Value.cells,dcs,Array.range]
 refine congrArg (fun c=>w.alloc (Obj.cells c el)) ?_
 apply Array.ext'
 simp [List.ofFn,Fin.foldr,Fin.foldr.loop]
theorem run_buildD3 (hT:ElD P t el):(Instr.buildSlice t 3 #[(0,dv a1),(1,dv a2),(2,dv a3)]).run P w=.ok (.slice (some ⟨w.heap.size,0,none⟩) 3 3) (w.alloc (.cells (dcs [a1,a2,a3]).toArray el)):=by
 simp [Instr.buildSlice,Ug hT.und,hT.size,hT.zero,newRow,Instr.fill,dv,Value.cells,dcs,Array.range]
 refine congrArg (fun c=>w.alloc (Obj.cells c el)) ?_
 apply Array.ext'
 simp [List.ofFn,Fin.foldr,Fin.foldr.loop]
theorem Wo_buildD2 (hw:wantedE all ⟨some d,.buildSlice t 2 #[(0,x),(1,y)],ty,pos,after,g⟩ ρ = true) (hT:ElD P t el) (hx:evalE ρ x=dv a1) (hy:evalE ρ y=dv a2) (h1:a1.text.length≤9223372036854775807) (h2:a2.text.length≤9223372036854775807)
  (hk : ∀ b w1,w.heap.size≤b→Ext w w1→OD el w.heap.size w1 (.slice (some ⟨b,0,none⟩) 2 2) [a1,a2]→Wops P n all rest N (upd ρ d (.slice (some ⟨b,0,none⟩) 2 2)) w1) :
  Wops P n all (⟨some d,.buildSlice t 2 #[(0,x),(1,y)],ty,pos,after,g⟩::rest) N ρ w:=by
 refine Wo_w hw (show OpW P (.buildSlice t 2 #[(0,x),(1,y)]) ty ρ w (.slice (some ⟨w.heap.size,0,none⟩) 2 2) (w.alloc (.cells (dcs [a1,a2]).toArray el)) from ?_) (hk _ _ (Nat.le_refl _) ((Ext.refl w).alloc _) (OD.blk (heap_alloc_new w _) (Nat.le_refl _) Z (by unfold maxLen;omega) (by simpa using ⟨h1,h2⟩)))
 simp [OpW,execOp,hx,hy,run_buildD2 hT]
theorem Qo (hw:wantedE all ⟨some d,.buildSlice t 3 #[(0,x),(1,y),(2,z)],ty,pos,after,g⟩ ρ = true) (hT:ElD P t el) (hx:evalE ρ x=dv a1) (hy:evalE ρ y=dv a2) (hz:evalE ρ z=dv a3) (h1:a1.text.length≤9223372036854775807) (h2:a2.text.length≤9223372036854775807) (h3:a3.text.length≤9223372036854775807)
  (hk : ∀ b w1,w.heap.size≤b→Ext w w1→OD el w.heap.size w1 (.slice (some ⟨b,0,none⟩) 3 3) [a1,a2,a3]→Wops P n all rest N (upd ρ d (.slice (some ⟨b,0,none⟩) 3 3)) w1) :
  Wops P n all (⟨some d,.buildSlice t 3 #[(0,x),(1,y),(2,z)],ty,pos,after,g⟩::rest) N ρ w:=by
 refine Wo_w hw (show OpW P (.buildSlice t 3 #[(0,x),(1,y),(2,z)]) ty ρ w (.slice (some ⟨w.heap.size,0,none⟩) 3 3) (w.alloc (.cells (dcs [a1,a2,a3]).toArray el)) from ?_) (hk _ _ (Nat.le_refl _) ((Ext.refl w).alloc _) (OD.blk (heap_alloc_new w _) (Nat.le_refl _) Z (by unfold maxLen;omega) (by simpa using ⟨h1,h2,h3⟩)))
 simp [OpW,execOp,hx,hy,hz,run_buildD3 hT]
theorem Sd {b c k lo2:Nat} (hw:wantedE all ⟨some d,.call { callee:=.builtin .append,args:=#[s,x],argTypes:=#[t,t] },ty,pos,after,g⟩ ρ = true) (hT:ElD P t el)
  (hv:evalE ρ s=v) (hx:evalE ρ x=.slice (some ⟨b,0,none⟩) k c) (h:OD el lo w v l) (hy:OD el lo2 w (.slice (some ⟨b,0,none⟩) k c) m) (hbig:l.length+m.length≤1099511627776) (hlw:lo≤w.heap.size) (h0:Ext w0 w) (hl0:w0.heap.size≤lo)
  (hk : ∀ v' w',OD el lo w' v' (l++m)→Ext w0 w'→w.grownBy w' v.ownBlock→Wops P n all rest N (upd ρ d v') w') :
  Wops P n all (⟨some d,.call { callee:=.builtin .append,args:=#[s,x],argTypes:=#[t,t] },ty,pos,after,g⟩::rest) N ρ w:=by
 obtain ⟨i,hi,hz,hs,hby⟩:=hT.info
 have hkl:k=m.length:=by
  rcases hy.1.2 with ⟨e,_⟩ | ⟨g',cap,cur,e,_⟩
  ·cases e
  ·injection e
 subst hkl
 have hmul:(l.length+m.length)*i.bytes≤140737488355328:=by have:=Nat.mul_le_mul hbig hby;omega
 have hcell : ∀ j u,(dcs m)[j]? = some u→w.cell? ((⟨b,0,none⟩:Addr).add j)=some u:=hy.1.cells (g:=b) rfl
 obtain ⟨v',w',hr,h2,h3,h4⟩:=run_append_own (P:=P) w lo t ty el i _ 3 i.bytes hT.und hi hz hs rfl rfl Ka v l.length (dcs l) h.1 ⟨b,0,none⟩ m.length c (dcs m) (dcs_len m) hcell (fun u hu=>oneCell_of (dcs_one hu)) (by unfold maxLen;omega) hmul hlw
 have hOD:OD el lo w' v' (l++m):=⟨by rw [List.length_append,dcs_app];exact h2,fun a ha=>(List.mem_append.1 ha).elim (h.2 a) (hy.2 a)⟩
 refine Nd (v:=v') (w':=w') hw ?_ (hk v' w' hOD ((Only.grownBy (fp:=v.ownBlock.toList) h3 (fun k hk=>by simp [hk])).ext h0 (fun k hk=>?_)) h3)
 ·simp only [execOp,resolve,invoke,builtin,Sem.run_bind,Sem.run_pure,Result.andThen_ok,List.map_toArray,List.map_cons,List.map_nil,hv,hx,hr]
 ·have:v.ownBlock=some k:=by simpa using hk
  have:=(h.lt this).1
  omega
end
end Go.Hs
namespace Go.Proofs.YtbgpppaljpngmaaGreatDoor
open Go.Hs
set_option maxRecDepth 10000
set_option maxHeartbeats 4000000
set_option linter.unusedVariables false
set_option linter.unusedSimpArgs false
theorem leaf_some {O:Option Deed} {u:Value} {k n:Int} {l:List UInt8} (h:O=some ⟨k,l,n⟩) (hu:u=.bool true):Value.tuple #[.agg #[.int .i64 k,str l,.int .i64 n],u]=.tuple #[dv (O.getD ⟨0,[],0⟩),.bool O.isSome]:=by
 subst h;subst hu;rfl
theorem leaf_none {O:Option Deed} {u:Value} (h:O=none) (hu:u=.bool false):Value.tuple #[.agg #[.int .i64 0,str [],.int .i64 0],u]=.tuple #[dv (O.getD ⟨0,[],0⟩),.bool O.isSome]:=by
 subst h;subst hu;rfl
theorem Ny (w:World) (s:List UInt8) (hM:EMx gMx w (.bool true) ()) (hs:s.length≤1048576) :
  Does Tryz.prog 103 [str s] w (Ret w (.tuple #[dv ((rdD s).getD ⟨0,[],0⟩),.bool (rdD s).isSome])):=by
 obtain ⟨wd,hW⟩ : ∃ wd,wd=(cutF 32 s).1:=⟨_,rfl⟩
 obtain ⟨R,hR⟩ : ∃ R,R=(cutF 32 s).2.1:=⟨_,rfl⟩
 obtain ⟨H,hH⟩ : ∃ H,H=(cutF 32 s).2.2:=⟨_,rfl⟩
 have hRl:R.length≤1048576:=by rw [hR];have:=(cutF_len 32 s).2;omega
 have k1 : ∀ w,EMx gMx w (.bool true) ()→Does Tryz.prog 102 [str s,str [32]] w (Ret w (.tuple #[str wd,str R,.bool H])):=fun w hM=>by
  subst hW hR hH;exact Cut_ok w s 32 hM hs
 have hr8:(R.getD 0 0).toNat < 256:=UInt8.toNat_lt _
 have hc:cand s=(if s=[115,105,110,103,108,101] then some ⟨0,[],0⟩
  else if s=[98,97,99,107] then some ⟨4,[],0⟩
  else if wd=[105,110,116,111]∧(R.length:Int)=1∧(48:Int)≤((R.getD 0 0).toNat:Int)∧((R.getD 0 0).toNat:Int)≤57 then some ⟨3,[],((R.getD 0 0).toNat:Int) - 48⟩
  else if wd=[97,100,100]∧H=true then some ⟨1,R,0⟩
  else if wd=[100,114,111,112]∧H=true then some ⟨2,R,0⟩ else none):=by
  subst hW hR hH
  have e:((cutF 32 s).2.1.length=1∧48≤((cutF 32 s).2.1.getD 0 0).toNat∧((cutF 32 s).2.1.getD 0 0).toNat≤57)↔(((cutF 32 s).2.1.length:Int)=1∧(48:Int)≤(((cutF 32 s).2.1.getD 0 0).toNat:Int)∧(((cutF 32 s).2.1.getD 0 0).toNat:Int)≤57):=Ka
  refine ite_congr Z (fun _=>Z) fun _=>ite_congr Z (fun _=>Z) fun _=>ite_congr (propext (and_congr Iff.rfl e)) (fun _=>Z) fun _=>Z
 have hr:=rdD_cand s
 rw [hc] at hr
 obtain ⟨O,hO⟩ : ∃ O,O=rdD s:=⟨_,rfl⟩
 rw [← hO] at hr ⊢
 refine fn_of_Wc3t Tryz.func103 Z Tryz.results103 Tryz.ntmps103 Z Je Kx ?_
 have k2 : ∀ w k n,EMx gMx w (.bool true) ()→Does Tryz.prog 104 [.agg #[.int .i64 k,str [],.int .i64 n]] w (Ret w (str (dtV ⟨k,[],n⟩))):=fun w k n hM=>Nv w k n [] hM Ki
 have k3 : ∀ w k n,EMx gMx w (.bool true) ()→Does Tryz.prog 104 [.agg #[.int .i64 k,str R,.int .i64 n]] w (Ret w (str (dtV ⟨k,R,n⟩))):=fun w k n hM=>Nv w k n R hM hRl
 focus
  refine Zp<|Ru Z Yx ?_;rintro b1 w1 hb1 E1 hB1;have hlb1:=hB1.lt;have hs1:=E1.size;refine Zz Z<|Zn<|Zq<|Vf<|Vo Z<|Zr Z (Yg (a:=.string _) (b:=.string _) Zb Z Z) (k1 _ ((Mono.mono E1 hM))) ?_;rintro _ w2 ⟨rfl,E2⟩;have hs2:=E2.size;refine Xl Z<|Rs Z<|Rs Z<|Xv Z<|Yj Z<|Yj Z<|Zz Z<|Zn<|Zp<|Wo Z (Vs (ps:=[]) (cs:=[_,_,_]) Yx Z Z)<|Ru Z Yx ?_;rintro b2 w3 hb2 E3 hB2;have hlb2:=hB2.lt;have hs3:=E3.size;refine Qq Kx hB2 Z ((E1.trans E2).trans E3) ?_;rintro w4 E4 hB2 K1 hz1;have E5:=(E2.trans E3).wroteAt exq E4 K1 hz1 Ka;have szE5:=E5.size;have E6:=E3.wroteAt exq E4 K1 hz1 Ka;have hB1:=(hB1.ext exq).of_heap (K1 _ Ka)
  refine Zn<|Zq<|Zw<|Zp<|Vo Z<|Wo Z (Vc Z Z)<|Zz Z<|Zn<|Zs Z (fun h1=>?_) (fun h1=>?_);refine Vf<|Vn Kq Kl Z<|Xk (v:=.int _ _) Z Kl Z Z Z hB2 Kc Ka E4 ?_;rintro w5 E7 hB2 K2 hz2;simp only [List.set] at hB2;have hB1:=hB1.of_heap (K2 _ Ka);refine Zn<|Zq<|Zp<|Qt Je Kx hB2 Z<|Zr Z (Vx (a:=.agg _) Jz Z) (k2 _ _ _ ((Mono.mono E7 hM))) ?_;rintro _ w6 ⟨rfl,E10⟩;refine Vo Z<|Wo Z (Xb Z Z)<|Zn<|Vz Z (fun h2=>?_) (fun h2=>?_);refine Zq<|Vf<|Wo Z (Vs (ps:=[]) (cs:=[_,_,_]) Yx Z Z)<|Qq Kx (hB1.ext E10) Z (E7.trans E10) ?_;rintro w7 E11 hB1 K3 hz3;refine Zz Z<|Zn<|Zy ?_
  rotate_left;refine Zv<|Zp<|Qt Je Kx (hB2.ext E10) Z<|Qq Kx (hB1.ext E10) Z (E7.trans E10) ?_;rintro w7 E11 hB1 K3 hz3;refine Zz Z<|Zn<|Zy ?_;rotate_left;refine Zp<|Vo Z<|Wo Z (Vc Z Z)<|Zz Z<|Zn<|Zs Z (fun h2=>?_) (fun h2=>?_);refine Vf<|Vn Kq Kl Z<|Xk (v:=.int _ _) Z Kl Z Z Z hB2 Kc Ka E4 ?_;rintro w5 E7 hB2 K2 hz2;simp only [List.set] at hB2;have hB1:=hB1.of_heap (K2 _ Ka);refine Zn<|Zq<|Zp<|Qt Je Kx hB2 Z<|Zr Z (Vx (a:=.agg _) Jz Z) (k2 _ _ _ ((Mono.mono E7 hM))) ?_;rintro _ w6 ⟨rfl,E10⟩;refine Vo Z<|Wo Z (Xb Z Z)<|Zn<|Vz Z (fun h3=>?_) (fun h3=>?_)
  refine Zq<|Vf<|Wo Z (Vs (ps:=[]) (cs:=[_,_,_]) Yx Z Z)<|Qq Kx (hB1.ext E10) Z (E7.trans E10) ?_;rintro w7 E11 hB1 K3 hz3;refine Zz Z<|Zn<|Zy ?_;rotate_left;refine Zv<|Zp<|Qt Je Kx (hB2.ext E10) Z<|Qq Kx (hB1.ext E10) Z (E7.trans E10) ?_;rintro w7 E11 hB1 K3 hz3;refine Zz Z<|Zn<|Zy ?_;rotate_left;refine Zp<|Vo Z<|Wo Z (Vc Z Z)<|Yf Z (fun h3=>?_) (fun h3=>?_);refine Vo Z<|Wo Z (Yc Kr Z)<|Vm Z<|Yq Z<|Yf Z (fun h4=>?_) (fun h4=>?_);refine Vo Z<|Wo Z (Vl (k:=0) Kr Z Z Ka) ?_;refine Qk Z<|Yq Z<|Yf Z (fun h5=>?_) (fun h5=>?_)
  refine Vo Z<|Wo Z (Vl (k:=0) Kr Z Z Ka) ?_;refine Wsleq Z<|Yq Z<|Zz Z<|Zn<|Zs Z (fun h6=>?_) (fun h6=>?_);refine Zq<|Vf<|Vn Kq Kl Z<|Xk (v:=.int _ _) Z Kl Z Z Z hB2 Kc Ka E4 ?_;rintro w5 E7 hB2 K2 hz2;simp only [List.set] at hB2;have hB1:=hB1.of_heap (K2 _ Ka);refine Zn<|Vf<|Vo Z<|Wo Z (Vl (k:=0) Kr Z Z Ka) ?_;refine Wo Z (opv_sub_u8 Z Z Ka) ?_;refine Wo Z (Rh Jw Gd Z Ka) ?_;refine Vn Kq Kl Z<|Xk (v:=.int _ _) Z Kl Z Z Z hB2 Kc Ka E7 ?_;rintro w6 E10 hB2 K3 hz3;simp only [List.set] at hB2
  have hB1:=hB1.of_heap (K3 _ Ka);refine Zn<|Zq<|Zp<|Qt Je Kx hB2 Z<|Zr Z (Vx (a:=.agg _) Jz Z) (k2 _ _ _ ((Mono.mono E10 hM))) ?_;rintro _ w7 ⟨rfl,E13⟩;refine Vo Z<|Wo Z (Xb Z Z)<|Zn<|Vz Z (fun h7=>?_) (fun h7=>?_);refine Zp<|Wo Z (Vs (ps:=[]) (cs:=[_,_,_]) Yx Z Z)<|Qq Kx (hB1.ext E13) Z (E10.trans E13) ?_;rintro w8 E14 hB1 K4 hz4;refine Zz Z<|Zn<|Zy ?_;rotate_left;refine Zv<|Zp<|Qt Je Kx (hB2.ext E13) Z<|Qq Kx (hB1.ext E13) Z (E10.trans E13) ?_;rintro w8 E14 hB1 K4 hz4;refine Zz Z<|Zn<|Zy ?_;rotate_left;refine Zp<|Vo Z<|Wo Z (Vc Z Z)<|Yf Z (fun h7=>?_) (fun h7=>?_)
  refine Yi Z<|Yq Z<|Zz Z<|Zn<|Xg Z (fun h8=>?_) (fun h8=>?_);refine Zp<|Vn Kq Kl Z<|Xk (v:=.int _ _) Z Kl Z Z Z hB2 Kc Ka E4 ?_;rintro w5 E7 hB2 K2 hz2;simp only [List.set] at hB2;have hB1:=hB1.of_heap (K2 _ Ka);refine Zn<|Vf<|Vo Z<|Vn Kq Ku Z<|Xk (v:=.string _) Z Ku Z Z Z hB2 Kc Ka E7 ?_;rintro w6 E10 hB2 K3 hz3;simp only [List.set] at hB2;have hB1:=hB1.of_heap (K3 _ Ka);refine Zn<|Zq<|Zp<|Qt Je Kx hB2 Z<|Zr Z (Vx (a:=.agg _) Jz Z) (k3 _ _ _ ((Mono.mono E10 hM))) ?_;rintro _ w7 ⟨rfl,E13⟩;refine Vo Z<|Wo Z (Xb Z Z)<|Zn<|Vz Z (fun h9=>?_) (fun h9=>?_)
  refine Zp<|Wo Z (Vs (ps:=[]) (cs:=[_,_,_]) Yx Z Z)<|Qq Kx (hB1.ext E13) Z (E10.trans E13) ?_;rintro w8 E14 hB1 K4 hz4;refine Zz Z<|Zn<|Zy ?_;rotate_left;refine Zv<|Zp<|Qt Je Kx (hB2.ext E13) Z<|Qq Kx (hB1.ext E13) Z (E10.trans E13) ?_;rintro w8 E14 hB1 K4 hz4;refine Zz Z<|Zn<|Zy ?_;rotate_left;refine Zp<|Vo Z<|Wo Z (Vc Z Z)<|Yf Z (fun h9=>?_) (fun h9=>?_);refine Yi Z<|Yq Z<|Zz Z<|Zn<|Xg Z (fun h10=>?_) (fun h10=>?_);refine Zp<|Vn Kq Kl Z<|Xk (v:=.int _ _) Z Kl Z Z Z hB2 Kc Ka E4 ?_;rintro w5 E7 hB2 K2 hz2;simp only [List.set] at hB2;have hB1:=hB1.of_heap (K2 _ Ka)
  refine Zn<|Vf<|Vo Z<|Vn Kq Ku Z<|Xk (v:=.string _) Z Ku Z Z Z hB2 Kc Ka E7 ?_;rintro w6 E10 hB2 K3 hz3;simp only [List.set] at hB2;have hB1:=hB1.of_heap (K3 _ Ka);refine Zn<|Zq<|Zp<|Qt Je Kx hB2 Z<|Zr Z (Vx (a:=.agg _) Jz Z) (k3 _ _ _ ((Mono.mono E10 hM))) ?_;rintro _ w7 ⟨rfl,E13⟩;refine Vo Z<|Wo Z (Xb Z Z)<|Zn<|Vz Z (fun h11=>?_) (fun h11=>?_);refine Zp<|Wo Z (Vs (ps:=[]) (cs:=[_,_,_]) Yx Z Z)<|Qq Kx (hB1.ext E13) Z (E10.trans E13) ?_;rintro w8 E14 hB1 K4 hz4;refine Zz Z<|Zn<|Zy ?_;rotate_left
  refine Zv<|Zp<|Qt Je Kx (hB2.ext E13) Z<|Qq Kx (hB1.ext E13) Z (E10.trans E13) ?_;rintro w8 E14 hB1 K4 hz4;refine Zz Z<|Zn<|Zy ?_;rotate_left;refine Zp<|Wo Z (Vs (ps:=[]) (cs:=[_,_,_]) Yx Z Z)<|Qq Kx hB1 Z E4 ?_;rintro w5 E7 hB1 K2 hz2;refine Zz Z<|Zn<|Zy ?_;rotate_left;refine Zo Z<|Vp Z<|Zz Z<|Zn<|Zx Z ?_;refine Zp<|Wo Z (Vs (ps:=[]) (cs:=[_,_,_]) Yx Z Z)<|Qq Kx hB1 Z E4 ?_;rintro w5 E7 hB1 K2 hz2;refine Zz Z<|Zn<|Zy ?_;rotate_left;refine Zo Z<|Vp Z<|Zz Z<|Zn<|Zx Z ?_;refine Zp<|Vo Z<|Wo Z (Vc Z Z)<|Yf Z (fun h8=>?_) (fun h8=>?_)
  refine Yi Z<|Yq Z<|Zz Z<|Zn<|Xg Z (fun h9=>?_) (fun h9=>?_);refine Zp<|Vn Kq Kl Z<|Xk (v:=.int _ _) Z Kl Z Z Z hB2 Kc Ka E4 ?_;rintro w5 E7 hB2 K2 hz2;simp only [List.set] at hB2;have hB1:=hB1.of_heap (K2 _ Ka);refine Zn<|Vf<|Vo Z<|Vn Kq Ku Z<|Xk (v:=.string _) Z Ku Z Z Z hB2 Kc Ka E7 ?_;rintro w6 E10 hB2 K3 hz3;simp only [List.set] at hB2;have hB1:=hB1.of_heap (K3 _ Ka);refine Zn<|Zq<|Zp<|Qt Je Kx hB2 Z<|Zr Z (Vx (a:=.agg _) Jz Z) (k3 _ _ _ ((Mono.mono E10 hM))) ?_;rintro _ w7 ⟨rfl,E13⟩;refine Vo Z<|Wo Z (Xb Z Z)<|Zn<|Vz Z (fun h10=>?_) (fun h10=>?_)
  refine Zp<|Wo Z (Vs (ps:=[]) (cs:=[_,_,_]) Yx Z Z)<|Qq Kx (hB1.ext E13) Z (E10.trans E13) ?_;rintro w8 E14 hB1 K4 hz4;refine Zz Z<|Zn<|Zy ?_;rotate_left;refine Zv<|Zp<|Qt Je Kx (hB2.ext E13) Z<|Qq Kx (hB1.ext E13) Z (E10.trans E13) ?_;rintro w8 E14 hB1 K4 hz4;refine Zz Z<|Zn<|Zy ?_;rotate_left;refine Zp<|Wo Z (Vs (ps:=[]) (cs:=[_,_,_]) Yx Z Z)<|Qq Kx hB1 Z E4 ?_;rintro w5 E7 hB1 K2 hz2;refine Zz Z<|Zn<|Zy ?_;rotate_left;refine Zo Z<|Vp Z<|Zz Z<|Zn<|Zx Z ?_;refine Zp<|Wo Z (Vs (ps:=[]) (cs:=[_,_,_]) Yx Z Z)<|Qq Kx hB1 Z E4 ?_;rintro w5 E7 hB1 K2 hz2;have hB2:=hB2.of_heap (K2 _ Ka)
  refine Zz Z<|Zn<|Zy ?_;rotate_left;refine Zo Z<|Zo Z<|Zo Z<|Vp Z<|Zz Z<|Zn<|Zx Z ?_;refine Zp<|Vo Z<|Wo Z (Vc Z Z)<|Yf Z (fun h6=>?_) (fun h6=>?_);refine Yi Z<|Yq Z<|Zz Z<|Zn<|Xg Z (fun h7=>?_) (fun h7=>?_);refine Zp<|Vn Kq Kl Z<|Xk (v:=.int _ _) Z Kl Z Z Z hB2 Kc Ka E4 ?_;rintro w5 E7 hB2 K2 hz2;simp only [List.set] at hB2;have hB1:=hB1.of_heap (K2 _ Ka);refine Zn<|Vf<|Vo Z<|Vn Kq Ku Z<|Xk (v:=.string _) Z Ku Z Z Z hB2 Kc Ka E7 ?_;rintro w6 E10 hB2 K3 hz3;simp only [List.set] at hB2;have hB1:=hB1.of_heap (K3 _ Ka)
  refine Zn<|Zq<|Zp<|Qt Je Kx hB2 Z<|Zr Z (Vx (a:=.agg _) Jz Z) (k3 _ _ _ ((Mono.mono E10 hM))) ?_;rintro _ w7 ⟨rfl,E13⟩;refine Vo Z<|Wo Z (Xb Z Z)<|Zn<|Vz Z (fun h8=>?_) (fun h8=>?_);refine Zp<|Wo Z (Vs (ps:=[]) (cs:=[_,_,_]) Yx Z Z)<|Qq Kx (hB1.ext E13) Z (E10.trans E13) ?_;rintro w8 E14 hB1 K4 hz4;refine Zz Z<|Zn<|Zy ?_;rotate_left;refine Zv<|Zp<|Qt Je Kx (hB2.ext E13) Z<|Qq Kx (hB1.ext E13) Z (E10.trans E13) ?_;rintro w8 E14 hB1 K4 hz4;refine Zz Z<|Zn<|Zy ?_;rotate_left;refine Zp<|Vo Z<|Wo Z (Vc Z Z)<|Yf Z (fun h8=>?_) (fun h8=>?_)
  refine Yi Z<|Yq Z<|Zz Z<|Zn<|Xg Z (fun h9=>?_) (fun h9=>?_);refine Zp<|Vn Kq Kl Z<|Xk (v:=.int _ _) Z Kl Z Z Z hB2 Kc Ka E4 ?_;rintro w5 E7 hB2 K2 hz2;simp only [List.set] at hB2;have hB1:=hB1.of_heap (K2 _ Ka);refine Zn<|Vf<|Vo Z<|Vn Kq Ku Z<|Xk (v:=.string _) Z Ku Z Z Z hB2 Kc Ka E7 ?_;rintro w6 E10 hB2 K3 hz3;simp only [List.set] at hB2;have hB1:=hB1.of_heap (K3 _ Ka);refine Zn<|Zq<|Zp<|Qt Je Kx hB2 Z<|Zr Z (Vx (a:=.agg _) Jz Z) (k3 _ _ _ ((Mono.mono E10 hM))) ?_;rintro _ w7 ⟨rfl,E13⟩;refine Vo Z<|Wo Z (Xb Z Z)<|Zn<|Vz Z (fun h10=>?_) (fun h10=>?_)
  refine Zp<|Wo Z (Vs (ps:=[]) (cs:=[_,_,_]) Yx Z Z)<|Qq Kx (hB1.ext E13) Z (E10.trans E13) ?_;rintro w8 E14 hB1 K4 hz4;refine Zz Z<|Zn<|Zy ?_;rotate_left;refine Zv<|Zp<|Qt Je Kx (hB2.ext E13) Z<|Qq Kx (hB1.ext E13) Z (E10.trans E13) ?_;rintro w8 E14 hB1 K4 hz4;refine Zz Z<|Zn<|Zy ?_;rotate_left;refine Zp<|Wo Z (Vs (ps:=[]) (cs:=[_,_,_]) Yx Z Z)<|Qq Kx hB1 Z E4 ?_;rintro w5 E7 hB1 K2 hz2;refine Zz Z<|Zn<|Zy ?_;rotate_left;refine Zo Z<|Vp Z<|Zz Z<|Zn<|Zx Z ?_;refine Zp<|Wo Z (Vs (ps:=[]) (cs:=[_,_,_]) Yx Z Z)<|Qq Kx hB1 Z E4 ?_;rintro w5 E7 hB1 K2 hz2;refine Zz Z<|Zn<|Zy ?_;rotate_left
  refine Zo Z<|Vp Z<|Zz Z<|Zn<|Zx Z ?_;refine Zp<|Vo Z<|Wo Z (Vc Z Z)<|Yf Z (fun h7=>?_) (fun h7=>?_);refine Yi Z<|Yq Z<|Zz Z<|Zn<|Xg Z (fun h8=>?_) (fun h8=>?_);refine Zp<|Vn Kq Kl Z<|Xk (v:=.int _ _) Z Kl Z Z Z hB2 Kc Ka E4 ?_;rintro w5 E7 hB2 K2 hz2;simp only [List.set] at hB2;have hB1:=hB1.of_heap (K2 _ Ka);refine Zn<|Vf<|Vo Z<|Vn Kq Ku Z<|Xk (v:=.string _) Z Ku Z Z Z hB2 Kc Ka E7 ?_;rintro w6 E10 hB2 K3 hz3;simp only [List.set] at hB2;have hB1:=hB1.of_heap (K3 _ Ka)
  refine Zn<|Zq<|Zp<|Qt Je Kx hB2 Z<|Zr Z (Vx (a:=.agg _) Jz Z) (k3 _ _ _ ((Mono.mono E10 hM))) ?_;rintro _ w7 ⟨rfl,E13⟩;refine Vo Z<|Wo Z (Xb Z Z)<|Zn<|Vz Z (fun h9=>?_) (fun h9=>?_);refine Zp<|Wo Z (Vs (ps:=[]) (cs:=[_,_,_]) Yx Z Z)<|Qq Kx (hB1.ext E13) Z (E10.trans E13) ?_;rintro w8 E14 hB1 K4 hz4;refine Zz Z<|Zn<|Zy ?_;rotate_left;refine Zv<|Zp<|Qt Je Kx (hB2.ext E13) Z<|Qq Kx (hB1.ext E13) Z (E10.trans E13) ?_;rintro w8 E14 hB1 K4 hz4;refine Zz Z<|Zn<|Zy ?_;rotate_left;refine Zp<|Wo Z (Vs (ps:=[]) (cs:=[_,_,_]) Yx Z Z)<|Qq Kx hB1 Z E4 ?_;rintro w5 E7 hB1 K2 hz2;refine Zz Z<|Zn<|Zy ?_
  rotate_left;refine Zo Z<|Vp Z<|Zz Z<|Zn<|Zx Z ?_;refine Zp<|Wo Z (Vs (ps:=[]) (cs:=[_,_,_]) Yx Z Z)<|Qq Kx hB1 Z E4 ?_;rintro w5 E7 hB1 K2 hz2;have hB2:=hB2.of_heap (K2 _ Ka);refine Zz Z<|Zn<|Zy ?_;rotate_left;refine Zo Z<|Zo Z<|Zo Z<|Vp Z<|Yi Z<|Zo Z<|Zo Z<|Zo Z<|Vp Z<|Zz Z<|Zn<|Zx Z ?_;refine Zp<|Vo Z<|Wo Z (Vc Z Z)<|Yf Z (fun h5=>?_) (fun h5=>?_);refine Yi Z<|Yq Z<|Zz Z<|Zn<|Xg Z (fun h6=>?_) (fun h6=>?_);refine Zp<|Vn Kq Kl Z<|Xk (v:=.int _ _) Z Kl Z Z Z hB2 Kc Ka E4 ?_;rintro w5 E7 hB2 K2 hz2;simp only [List.set] at hB2
  have hB1:=hB1.of_heap (K2 _ Ka);refine Zn<|Vf<|Vo Z<|Vn Kq Ku Z<|Xk (v:=.string _) Z Ku Z Z Z hB2 Kc Ka E7 ?_;rintro w6 E10 hB2 K3 hz3;simp only [List.set] at hB2;have hB1:=hB1.of_heap (K3 _ Ka);refine Zn<|Zq<|Zp<|Qt Je Kx hB2 Z<|Zr Z (Vx (a:=.agg _) Jz Z) (k3 _ _ _ ((Mono.mono E10 hM))) ?_;rintro _ w7 ⟨rfl,E13⟩;refine Vo Z<|Wo Z (Xb Z Z)<|Zn<|Vz Z (fun h7=>?_) (fun h7=>?_);refine Zp<|Wo Z (Vs (ps:=[]) (cs:=[_,_,_]) Yx Z Z)<|Qq Kx (hB1.ext E13) Z (E10.trans E13) ?_;rintro w8 E14 hB1 K4 hz4;refine Zz Z<|Zn<|Zy ?_;rotate_left
  refine Zv<|Zp<|Qt Je Kx (hB2.ext E13) Z<|Qq Kx (hB1.ext E13) Z (E10.trans E13) ?_;rintro w8 E14 hB1 K4 hz4;refine Zz Z<|Zn<|Zy ?_;rotate_left;refine Zp<|Vo Z<|Wo Z (Vc Z Z)<|Yf Z (fun h7=>?_) (fun h7=>?_);refine Yi Z<|Yq Z<|Zz Z<|Zn<|Xg Z (fun h8=>?_) (fun h8=>?_);refine Zp<|Vn Kq Kl Z<|Xk (v:=.int _ _) Z Kl Z Z Z hB2 Kc Ka E4 ?_;rintro w5 E7 hB2 K2 hz2;simp only [List.set] at hB2;have hB1:=hB1.of_heap (K2 _ Ka);refine Zn<|Vf<|Vo Z<|Vn Kq Ku Z<|Xk (v:=.string _) Z Ku Z Z Z hB2 Kc Ka E7 ?_;rintro w6 E10 hB2 K3 hz3;simp only [List.set] at hB2
  have hB1:=hB1.of_heap (K3 _ Ka);refine Zn<|Zq<|Zp<|Qt Je Kx hB2 Z<|Zr Z (Vx (a:=.agg _) Jz Z) (k3 _ _ _ ((Mono.mono E10 hM))) ?_;rintro _ w7 ⟨rfl,E13⟩;refine Vo Z<|Wo Z (Xb Z Z)<|Zn<|Vz Z (fun h9=>?_) (fun h9=>?_);refine Zp<|Wo Z (Vs (ps:=[]) (cs:=[_,_,_]) Yx Z Z)<|Qq Kx (hB1.ext E13) Z (E10.trans E13) ?_;rintro w8 E14 hB1 K4 hz4;refine Zz Z<|Zn<|Zy ?_;rotate_left;refine Zv<|Zp<|Qt Je Kx (hB2.ext E13) Z<|Qq Kx (hB1.ext E13) Z (E10.trans E13) ?_;rintro w8 E14 hB1 K4 hz4;refine Zz Z<|Zn<|Zy ?_;rotate_left;refine Zp<|Wo Z (Vs (ps:=[]) (cs:=[_,_,_]) Yx Z Z)<|Qq Kx hB1 Z E4 ?_
  rintro w5 E7 hB1 K2 hz2;refine Zz Z<|Zn<|Zy ?_;rotate_left;refine Zo Z<|Vp Z<|Zz Z<|Zn<|Zx Z ?_;refine Zp<|Wo Z (Vs (ps:=[]) (cs:=[_,_,_]) Yx Z Z)<|Qq Kx hB1 Z E4 ?_;rintro w5 E7 hB1 K2 hz2;refine Zz Z<|Zn<|Zy ?_;rotate_left;refine Zo Z<|Vp Z<|Zz Z<|Zn<|Zx Z ?_;refine Zp<|Vo Z<|Wo Z (Vc Z Z)<|Yf Z (fun h6=>?_) (fun h6=>?_);refine Yi Z<|Yq Z<|Zz Z<|Zn<|Xg Z (fun h7=>?_) (fun h7=>?_);refine Zp<|Vn Kq Kl Z<|Xk (v:=.int _ _) Z Kl Z Z Z hB2 Kc Ka E4 ?_;rintro w5 E7 hB2 K2 hz2;simp only [List.set] at hB2;have hB1:=hB1.of_heap (K2 _ Ka)
  refine Zn<|Vf<|Vo Z<|Vn Kq Ku Z<|Xk (v:=.string _) Z Ku Z Z Z hB2 Kc Ka E7 ?_;rintro w6 E10 hB2 K3 hz3;simp only [List.set] at hB2;have hB1:=hB1.of_heap (K3 _ Ka);refine Zn<|Zq<|Zp<|Qt Je Kx hB2 Z<|Zr Z (Vx (a:=.agg _) Jz Z) (k3 _ _ _ ((Mono.mono E10 hM))) ?_;rintro _ w7 ⟨rfl,E13⟩;refine Vo Z<|Wo Z (Xb Z Z)<|Zn<|Vz Z (fun h8=>?_) (fun h8=>?_);refine Zp<|Wo Z (Vs (ps:=[]) (cs:=[_,_,_]) Yx Z Z)<|Qq Kx (hB1.ext E13) Z (E10.trans E13) ?_;rintro w8 E14 hB1 K4 hz4;refine Zz Z<|Zn<|Zy ?_;rotate_left
  refine Zv<|Zp<|Qt Je Kx (hB2.ext E13) Z<|Qq Kx (hB1.ext E13) Z (E10.trans E13) ?_;rintro w8 E14 hB1 K4 hz4;refine Zz Z<|Zn<|Zy ?_;rotate_left;refine Zp<|Wo Z (Vs (ps:=[]) (cs:=[_,_,_]) Yx Z Z)<|Qq Kx hB1 Z E4 ?_;rintro w5 E7 hB1 K2 hz2;refine Zz Z<|Zn<|Zy ?_;rotate_left;refine Zo Z<|Vp Z<|Zz Z<|Zn<|Zx Z ?_;refine Zp<|Wo Z (Vs (ps:=[]) (cs:=[_,_,_]) Yx Z Z)<|Qq Kx hB1 Z E4 ?_;rintro w5 E7 hB1 K2 hz2;refine Zz Z<|Zn<|Zy ?_;rotate_left
  refine Zo Z<|Zo Z<|Zo Z<|Vp Z<|Yi Z<|Zo Z<|Zo Z<|Zo Z<|Vp Z<|Yi Z<|Zo Z<|Zo Z<|Zo Z<|Vp Z<|Zz Z<|Zn<|Zx Z ?_;refine Zp<|Vo Z<|Wo Z (Vc Z Z)<|Yf Z (fun h4=>?_) (fun h4=>?_);refine Yi Z<|Yq Z<|Zz Z<|Zn<|Xg Z (fun h5=>?_) (fun h5=>?_);refine Zp<|Vn Kq Kl Z<|Xk (v:=.int _ _) Z Kl Z Z Z hB2 Kc Ka E4 ?_;rintro w5 E7 hB2 K2 hz2;simp only [List.set] at hB2;have hB1:=hB1.of_heap (K2 _ Ka);refine Zn<|Vf<|Vo Z<|Vn Kq Ku Z<|Xk (v:=.string _) Z Ku Z Z Z hB2 Kc Ka E7 ?_;rintro w6 E10 hB2 K3 hz3;simp only [List.set] at hB2
  have hB1:=hB1.of_heap (K3 _ Ka);refine Zn<|Zq<|Zp<|Qt Je Kx hB2 Z<|Zr Z (Vx (a:=.agg _) Jz Z) (k3 _ _ _ ((Mono.mono E10 hM))) ?_;rintro _ w7 ⟨rfl,E13⟩;refine Vo Z<|Wo Z (Xb Z Z)<|Zn<|Vz Z (fun h6=>?_) (fun h6=>?_);refine Zp<|Wo Z (Vs (ps:=[]) (cs:=[_,_,_]) Yx Z Z)<|Qq Kx (hB1.ext E13) Z (E10.trans E13) ?_;rintro w8 E14 hB1 K4 hz4;refine Zz Z<|Zn<|Zy ?_;rotate_left;refine Zv<|Zp<|Qt Je Kx (hB2.ext E13) Z<|Qq Kx (hB1.ext E13) Z (E10.trans E13) ?_;rintro w8 E14 hB1 K4 hz4;refine Zz Z<|Zn<|Zy ?_;rotate_left;refine Zp<|Vo Z<|Wo Z (Vc Z Z)<|Yf Z (fun h6=>?_) (fun h6=>?_)
  refine Yi Z<|Yq Z<|Zz Z<|Zn<|Xg Z (fun h7=>?_) (fun h7=>?_);refine Zp<|Vn Kq Kl Z<|Xk (v:=.int _ _) Z Kl Z Z Z hB2 Kc Ka E4 ?_;rintro w5 E7 hB2 K2 hz2;simp only [List.set] at hB2;have hB1:=hB1.of_heap (K2 _ Ka);refine Zn<|Vf<|Vo Z<|Vn Kq Ku Z<|Xk (v:=.string _) Z Ku Z Z Z hB2 Kc Ka E7 ?_;rintro w6 E10 hB2 K3 hz3;simp only [List.set] at hB2;have hB1:=hB1.of_heap (K3 _ Ka);refine Zn<|Zq<|Zp<|Qt Je Kx hB2 Z<|Zr Z (Vx (a:=.agg _) Jz Z) (k3 _ _ _ ((Mono.mono E10 hM))) ?_;rintro _ w7 ⟨rfl,E13⟩;refine Vo Z<|Wo Z (Xb Z Z)<|Zn<|Vz Z (fun h8=>?_) (fun h8=>?_)
  refine Zp<|Wo Z (Vs (ps:=[]) (cs:=[_,_,_]) Yx Z Z)<|Qq Kx (hB1.ext E13) Z (E10.trans E13) ?_;rintro w8 E14 hB1 K4 hz4;refine Zz Z<|Zn<|Zy ?_;rotate_left;refine Zv<|Zp<|Qt Je Kx (hB2.ext E13) Z<|Qq Kx (hB1.ext E13) Z (E10.trans E13) ?_;rintro w8 E14 hB1 K4 hz4;refine Zz Z<|Zn<|Zy ?_;rotate_left;refine Zp<|Wo Z (Vs (ps:=[]) (cs:=[_,_,_]) Yx Z Z)<|Qq Kx hB1 Z E4 ?_;rintro w5 E7 hB1 K2 hz2;refine Zz Z<|Zn<|Zy ?_;rotate_left;refine Zo Z<|Vp Z<|Zz Z<|Zn<|Zx Z ?_;refine Zp<|Wo Z (Vs (ps:=[]) (cs:=[_,_,_]) Yx Z Z)<|Qq Kx hB1 Z E4 ?_;rintro w5 E7 hB1 K2 hz2;refine Zz Z<|Zn<|Zy ?_;rotate_left
  refine Zo Z<|Vp Z<|Zz Z<|Zn<|Zx Z ?_;refine Zp<|Vo Z<|Wo Z (Vc Z Z)<|Yf Z (fun h5=>?_) (fun h5=>?_);refine Yi Z<|Yq Z<|Zz Z<|Zn<|Xg Z (fun h6=>?_) (fun h6=>?_);refine Zp<|Vn Kq Kl Z<|Xk (v:=.int _ _) Z Kl Z Z Z hB2 Kc Ka E4 ?_;rintro w5 E7 hB2 K2 hz2;simp only [List.set] at hB2;have hB1:=hB1.of_heap (K2 _ Ka);refine Zn<|Vf<|Vo Z<|Vn Kq Ku Z<|Xk (v:=.string _) Z Ku Z Z Z hB2 Kc Ka E7 ?_;rintro w6 E10 hB2 K3 hz3;simp only [List.set] at hB2;have hB1:=hB1.of_heap (K3 _ Ka)
  refine Zn<|Zq<|Zp<|Qt Je Kx hB2 Z<|Zr Z (Vx (a:=.agg _) Jz Z) (k3 _ _ _ ((Mono.mono E10 hM))) ?_;rintro _ w7 ⟨rfl,E13⟩;refine Vo Z<|Wo Z (Xb Z Z)<|Zn<|Vz Z (fun h7=>?_) (fun h7=>?_);refine Zp<|Wo Z (Vs (ps:=[]) (cs:=[_,_,_]) Yx Z Z)<|Qq Kx (hB1.ext E13) Z (E10.trans E13) ?_;rintro w8 E14 hB1 K4 hz4;refine Zz Z<|Zn<|Zy ?_;rotate_left;refine Zv<|Zp<|Qt Je Kx (hB2.ext E13) Z<|Qq Kx (hB1.ext E13) Z (E10.trans E13) ?_;rintro w8 E14 hB1 K4 hz4;refine Zz Z<|Zn<|Zy ?_;rotate_left;refine Zp<|Wo Z (Vs (ps:=[]) (cs:=[_,_,_]) Yx Z Z)<|Qq Kx hB1 Z E4 ?_;rintro w5 E7 hB1 K2 hz2;refine Zz Z<|Zn<|Zy ?_
  rotate_left;refine Zo Z<|Vp Z<|Zz Z<|Zn<|Zx Z ?_;refine Zp<|Wo Z (Vs (ps:=[]) (cs:=[_,_,_]) Yx Z Z)<|Qq Kx hB1 Z E4 ?_;rintro w5 E7 hB1 K2 hz2;refine Zz Z<|Zn<|Zy ?_;rotate_left
 all_goals refine ⟨_,_,_,_,rfl,Kd,?_,Kd⟩
 all_goals first
  | refine leaf_none ?_ rfl
  | refine leaf_some ?_ rfl
 all_goals clear hc hO k1 k2 k3 hW hR hH hRl hr8
 all_goals rw [hr]
 all_goals try (simp_all;done)
 all_goals (clear hr;simp_all)
 all_goals (rw [if_neg Ka])
def digN (l:List UInt8):Int:=l.foldl (fun n c=>10*n+((c.toNat:Int) - 48)) 0
def digV (t:List UInt8):Int:=if (1≤(t.length:Int)∧(t.length:Int)≤5)∧¬(1 < (t.length:Int)∧((t.getD 0 0).toNat:Int)=48)∧∀ c ∈ t,48≤c.toNat∧c.toNat≤57 then digN t else -1
theorem digV_one {d:Nat} (hd:d≤9):digV [dig d]=d:=by
 have h:=Rq (n:=d) Ka
 rw [digV,if_pos]
 ·simp only [digN,List.foldl_cons,List.foldl_nil,h];omega
 ·refine ⟨Ki,Ki,fun c hc=>?_⟩
  obtain rfl:=List.mem_singleton.1 hc;omega
theorem Qh (w:World) (t:List UInt8) (ht:t.length≤1048576):Does Tryz.prog 114 [str t] w (Ret w (.int .i64 (digV t))):=by
 refine Vh Tryz.func114 Z Tryz.results114 Tryz.ntmps114 Z ?_
 focus
  refine Zp<|Vg Z<|Zn<|Zq<|Zp<|Vo Z<|Wo Z (Yc Kr Z)<|Zr Z (Ud (a:=.int _ _) (b:=.int _ _) (c:=.int _ _) Jl Z Z Z) (Uz _ _ _ _) ?_;rintro _ w1 ⟨rfl,E1⟩;refine Ym Z<|Uh Z (fun h1=>?_) (fun h1=>?_);refine Zo Z<|Zo Z<|Zo Z<|Zo Z<|Zo Z<|Zo Z<|Zo Z<|Zo Z<|Yq Z<|Zn<|Vv Z ?_;refine Zp<|Vg Z<|Zn<|Zy ?_;refine Ve (v:=.int _ _) Z ?_;refine ⟨congrArg (Value.int .i64) ?_,E1⟩;rotate_left;refine Vo Z<|Wo Z (Yc Kr Z)<|Qe Z<|Yf Z (fun h2=>?_) (fun h2=>?_);refine Vo Z<|Wo Z (Vl (k:=0) Kr Z Z Ka) ?_
  refine Vm Z<|Yq Z<|Vp Z<|Zn<|Zs Z (fun h3=>?_) (fun h3=>?_);refine Zp<|Vg Z<|Zn<|Zy ?_;refine Ve (v:=.int _ _) Z ?_;refine ⟨congrArg (Value.int .i64) ?_,E1⟩;rotate_left;refine Zv<|Zp<|Vg Z<|Zn<|Zq<|Zp<|Vg Z<|Zn<|Zw ?_;rotate_left;refine Zo Z<|Zo Z<|Zo Z<|Vp Z<|Vp Z<|Zn<|Zx Z ?_;refine Zv<|Zp<|Vg Z<|Zn<|Zq<|Zp<|Vg Z<|Zn<|Zw ?_;rotate_left
 ·rw [digV,if_neg (fun h=>Ka)]
 ·rw [digV,if_neg (fun h=>Ka)]
 ·focus
  refine Vy [2,3,4,19,20,21,22,23,24,25,26,27,28,29,30,31,32,33,34,35,36,37,38,39,40,41,42] (fun ((k,n):Nat × Int)=>[(4,.int .i64 (k:Nat)),(3,.int .i64 n)]) (fun (k,n) w'=>Ext w w'∧k≤t.length∧0≤n∧(k≤0→n≤0)∧(k≤1→n≤9)∧(k≤2→n≤99)∧(k≤3→n≤999)∧(k≤4→n≤9999)∧n≤99999∧n=digN (t.take k)∧∀ c ∈ t.take k,48≤c.toNat∧c.toNat≤57) (fun x=>t.length - x.1) (0,0) Kg ?_ ?_
  ·exact ⟨Kd,Nat.zero_le _,Ka,Ka,Ka,Ka,Ka,Ka,Ka,by simp [digN],Ki⟩
  rintro ⟨k,n⟩ ρj w2 ⟨E2,hk,h0,i0,i1,i2,i3,i4,i5,hone,hall⟩
  have hc8:(t.getD k 0).toNat < 256:=UInt8.toNat_lt _
  focus
   refine Zq<|Zp<|Zu Z<|Vo Z<|Wo Z (Yc Kr Z)<|Vi Z<|Zn<|Zs Z (fun h4=>?_) (fun h4=>?_);refine Zv<|Zq<|Zw<|Zq<|Zp<|Vo Z<|Zu Z<|Wo Z (Vl Kr Z Z Ka) ?_;refine Vi Z<|Yf Z (fun h5=>?_) (fun h5=>?_);refine Zo Z<|Zo Z<|Zo Z<|Zo Z<|Yq Z<|Zn<|Vv Z ?_;refine Zp<|Vg Z<|Zn<|Zy ?_;refine Ve (v:=.int _ _) Z ?_;refine ⟨congrArg (Value.int .i64) ?_,E2⟩;rotate_left;refine Vo Z<|Zu Z<|Wo Z (Vl Kr Z Z Ka) ?_;refine Qe Z<|Vp Z<|Zn<|Zs Z (fun h6=>?_) (fun h6=>?_);refine Zp<|Vg Z<|Zn<|Zy ?_;refine Ve (v:=.int _ _) Z ?_
   refine ⟨congrArg (Value.int .i64) ?_,E2⟩;rotate_left;refine Zv<|Vf<|Zu Z<|Wo Z (opv_mul Z Z Ka) ?_;refine Vo Z<|Zu Z<|Wo Z (Vl Kr Z Z Ka) ?_;refine Wo Z (opv_sub_u8 Z Z Ka) ?_;refine Wo Z (Rh Jw Gd Z Ka) ?_;refine Vr Z<|Vg Z<|Zn<|Vf<|Zu Z<|Vr Z<|Vg Z<|Zn ?_;rotate_left;refine Vw ?_;refine Vd ?_;refine Zp<|Zu Z<|Vg Z<|Zn<|Zy ?_;refine Ve (v:=.int _ _) Z ?_;refine ⟨congrArg (Value.int .i64) ?_,E2⟩;rotate_left
  ·rw [digV,if_neg]
   rintro ⟨_,_,h⟩
   have:=h (t.getD k 0) (by rw [Ya Ka];exact List.getElem_mem _)
   omega
  ·rw [digV,if_neg]
   rintro ⟨_,_,h⟩
   have:=h (t.getD k 0) (by rw [Ya Ka];exact List.getElem_mem _)
   omega
  ·refine ⟨((k+1,10*n+(((t.getD k 0).toNat:Int) - 48))),Kg,Kh,?_,?_⟩
   ·have hts:t.take (k+1)=t.take k++[t.getD k 0]:=by rw [Ya Ka];exact List.take_succ_eq_append_getElem Ka
    refine ⟨Kd,Ka,Ka,Ka,Ka,Ka,Ka,Ka,Ka,?_,?_⟩
    ·rw [hts,digN,List.foldl_append,← digN,← hone];rfl
    ·rw [hts]
     intro c hc
     rcases List.mem_append.1 hc with hc | hc
     ·exact hall c hc
     ·obtain rfl:=List.mem_singleton.1 hc;omega
   ·simp only;omega
  ·obtain rfl:k=t.length:=by omega
   rw [List.take_length] at hone hall
   rw [hone,digV,if_pos ⟨Ka,Ka,hall⟩]
 ·focus
  refine Vy [2,3,4,19,20,21,22,23,24,25,26,27,28,29,30,31,32,33,34,35,36,37,38,39,40,41,42] (fun ((k,n):Nat × Int)=>[(4,.int .i64 (k:Nat)),(3,.int .i64 n)]) (fun (k,n) w'=>Ext w w'∧k≤t.length∧0≤n∧(k≤0→n≤0)∧(k≤1→n≤9)∧(k≤2→n≤99)∧(k≤3→n≤999)∧(k≤4→n≤9999)∧n≤99999∧n=digN (t.take k)∧∀ c ∈ t.take k,48≤c.toNat∧c.toNat≤57) (fun x=>t.length - x.1) (0,0) Kg ?_ ?_
  ·exact ⟨Kd,Nat.zero_le _,Ka,Ka,Ka,Ka,Ka,Ka,Ka,by simp [digN],Ki⟩
  rintro ⟨k,n⟩ ρj w2 ⟨E2,hk,h0,i0,i1,i2,i3,i4,i5,hone,hall⟩
  have hc8:(t.getD k 0).toNat < 256:=UInt8.toNat_lt _
  focus
   refine Zq<|Zp<|Zu Z<|Vo Z<|Wo Z (Yc Kr Z)<|Vi Z<|Zn<|Zs Z (fun h3=>?_) (fun h3=>?_);refine Zv<|Zq<|Zw<|Zq<|Zp<|Vo Z<|Zu Z<|Wo Z (Vl Kr Z Z Ka) ?_;refine Vi Z<|Yf Z (fun h4=>?_) (fun h4=>?_);refine Zo Z<|Zo Z<|Zo Z<|Zo Z<|Yq Z<|Zn<|Vv Z ?_;refine Zp<|Vg Z<|Zn<|Zy ?_;refine Ve (v:=.int _ _) Z ?_;refine ⟨congrArg (Value.int .i64) ?_,E2⟩;rotate_left;refine Vo Z<|Zu Z<|Wo Z (Vl Kr Z Z Ka) ?_;refine Qe Z<|Vp Z<|Zn<|Zs Z (fun h5=>?_) (fun h5=>?_);refine Zp<|Vg Z<|Zn<|Zy ?_;refine Ve (v:=.int _ _) Z ?_
   refine ⟨congrArg (Value.int .i64) ?_,E2⟩;rotate_left;refine Zv<|Vf<|Zu Z<|Wo Z (opv_mul Z Z Ka) ?_;refine Vo Z<|Zu Z<|Wo Z (Vl Kr Z Z Ka) ?_;refine Wo Z (opv_sub_u8 Z Z Ka) ?_;refine Wo Z (Rh Jw Gd Z Ka) ?_;refine Vr Z<|Vg Z<|Zn<|Vf<|Zu Z<|Vr Z<|Vg Z<|Zn ?_;rotate_left;refine Vw ?_;refine Vd ?_;refine Zp<|Zu Z<|Vg Z<|Zn<|Zy ?_;refine Ve (v:=.int _ _) Z ?_;refine ⟨congrArg (Value.int .i64) ?_,E2⟩;rotate_left
  ·rw [digV,if_neg]
   rintro ⟨_,_,h⟩
   have:=h (t.getD k 0) (by rw [Ya Ka];exact List.getElem_mem _)
   omega
  ·rw [digV,if_neg]
   rintro ⟨_,_,h⟩
   have:=h (t.getD k 0) (by rw [Ya Ka];exact List.getElem_mem _)
   omega
  ·refine ⟨((k+1,10*n+(((t.getD k 0).toNat:Int) - 48))),Kg,Kh,?_,?_⟩
   ·have hts:t.take (k+1)=t.take k++[t.getD k 0]:=by rw [Ya Ka];exact List.take_succ_eq_append_getElem Ka
    refine ⟨Kd,Ka,Ka,Ka,Ka,Ka,Ka,Ka,Ka,?_,?_⟩
    ·rw [hts,digN,List.foldl_append,← digN,← hone];rfl
    ·rw [hts]
     intro c hc
     rcases List.mem_append.1 hc with hc | hc
     ·exact hall c hc
     ·obtain rfl:=List.mem_singleton.1 hc;omega
   ·simp only;omega
  ·obtain rfl:k=t.length:=by omega
   rw [List.take_length] at hone hall
   rw [hone,digV,if_pos ⟨Ka,Ka,hall⟩]
theorem Rn:ElD Tryz.prog 59 48:=ElD.of Zk Kb Kx Tryz.zeroValue48
def rdL (ps:List (List UInt8)) (z:Int):List Deed:=[⟨0,[],0⟩,⟨4,[],0⟩]++if ps.length=2 then [⟨1,ps.getD 1 [],0⟩,⟨2,ps.getD 1 [],0⟩,⟨3,[],z⟩] else []
theorem rdL_all {s:List UInt8} {z:Int} (hz : ∀ d:Nat,d≤9→(cutB 32 s).getD 1 []=[dig d]→z=d) {a:Deed} (h:rdD s=some a):a ∈ rdL (cutB 32 s) z:=by
 have ht:=rdD_told h
 have h1:=(Nk h).1
 cases ht with
 | single=>simp [rdL]
 | back=>simp [rdL]
 | into d hd =>
   rw [Tn hd] at h1
   subst h1
   have e : cutB 32 (sInto ++ [dig d]) = [wInto, [dig d]] := by
     have hn : (32 : UInt8) ∉ [dig d] := by
       intro hm
       have := List.mem_singleton.1 hm
       have h2 := congrArg UInt8.toNat this
       rw [Rq Ka] at h2
       have : (32 : UInt8).toNat = 32 := rfl
       omega
     rw [show sInto ++ [dig d] = wInto ++ 32 :: [dig d] from rfl, Tx Kc, Tk hn]
   rw [e] at hz ⊢
   rw [hz d hd rfl]
   simp [rdL]
 | add p hp =>
   rw [Tq hp] at h1
   subst h1
   have e : cutB 32 (sAdd ++ txt p) = [wAdd, txt p] := by
     rw [show sAdd ++ txt p = wAdd ++ 32 :: txt p from rfl, Tx Kc, Tk (txt_no hp.gr Kc)]
   rw [e]
   simp [rdL]
 | drop p hp =>
   rw [Sl hp] at h1
   subst h1
   have e : cutB 32 (sDrop ++ txt p) = [wDrop, txt p] := by
     rw [show sDrop ++ txt p = wDrop ++ 32 :: txt p from rfl, Tx Kc, Tk (txt_no hp.gr Kc)]
   rw [e]
   simp [rdL]
theorem Np (w:World) (s:List UInt8) (hs:s.length≤1048576) :
  Does Tryz.prog 61 [str s] w (Ret w (.tuple #[dv ((rdD s).getD ⟨0,[],0⟩),.bool (rdD s).isSome])):=by
 obtain ⟨ps,hps⟩ : ∃ ps,ps=cutB 32 s:=⟨_,rfl⟩
 have k1 : ∀ w,Does Tryz.prog 70 [str s,.int .u8 32] w (RetO w XS ps):=fun w=>hps ▸ l1Cut_ok w s 32 hs
 have hpe : ∀ (k:Nat) (hk:k < ps.length),ps[k].length≤1048576:=fun k hk=>by
  have:ps[k] ∈ cutB 32 s:=hps ▸ List.getElem_mem hk
  have:=Ts s.length s (Nat.le_refl _) _ this;omega
 obtain ⟨z,hz⟩ : ∃ z:Int,z=digV (ps.getD 1 []):=⟨_,rfl⟩
 obtain ⟨L,hL⟩ : ∃ L,L=rdL ps z:=⟨_,rfl⟩
 have hall : ∀ a,rdD s=some a→a ∈ L:=fun a h=>by
  rw [hL,hps]
  refine rdL_all (fun d hd e=>?_) h
  rw [hz,hps,e,digV_one hd]
 have hlen:L.length≤5:=by rw [hL];unfold rdL;split <;> simp
 have htx : ∀ (k:Nat) (h:k < L.length),L[k].text.length≤1048576:=fun k h=>by
  have hm:L[k] ∈ rdL ps z:=hL ▸ List.getElem_mem h
  unfold rdL at hm
  split at hm
  ·rename_i h2
   have hp1:=hpe 1 Ka
   have hg1:ps.getD 1 []=ps[1]:=Ya Ka
   rw [hg1] at hm
   simp only [List.cons_append,List.nil_append,List.mem_cons,List.not_mem_nil,or_false] at hm
   rcases hm with h | h | h | h | h <;> rw [h] <;> simp <;> omega
  ·simp only [List.append_nil,List.mem_cons,List.not_mem_nil,or_false] at hm
   rcases hm with h | h <;> rw [h] <;> simp
 refine fn_of_Wc3t Tryz.func61 Z Tryz.results61 Tryz.ntmps61 Z Je Kx ?_
 have stopC:True:=trivial
 focus
  refine Zp<|Ru Z Yx ?_;rintro b1 w1 hb1 E1 hB1;refine Zz Z<|Zn<|Zq<|Vf<|Vo Z<|Zr Z (Yg (a:=.string _) (b:=.int _ _) Tryz.call70 Z Z) (k1 _) ?_;rintro u1 w2 ⟨E2,hO1⟩;refine Yr u1 Z<|Zn<|Zp<|Wo Z (Vs (ps:=[(0,.int _ _)]) (cs:=[_,_,_]) Yx Z Z)<|Wo Z (Vs (ps:=[(0,.int _ _)]) (cs:=[_,_,_]) Yx Z Z)<|Wo_buildD2 (a1:=⟨_,_,_⟩) (a2:=⟨_,_,_⟩) Z Rn Z Z (by first | assumption | omega | (simp <;> omega)) (by first | assumption | omega | (simp <;> omega)) ?_;rintro b2 w3 hb2 E3 hO2;have hs3:=E3.size;refine Ys Z<|Zn<|Zq<|Zp<|Vb u1 Z<|Vk Jd Z (Owned.read hO1)<|Vm Z<|Zn ?_
 clear stopC
 refine W_mid [5,15,16,17,18,19,20,21,22,23,24,25,26,27,28,29,30] (fun (v:Value)=>[(5,v)]) (fun v w'=>Ext w2 w'∧OD 48 w2.heap.size w' v L) ?_ ?_
 ·by_cases h2:ps.length=2
  ·have hp1:=hpe 1 Ka
   have hg1:ps.getD 1 []=ps[1]:=Ya Ka
   have stop4:True:=trivial
   focus
    have szE3:=E3.size;have szE2:=E2.size;have szE1:=E1.size;refine Zs Z (fun h1=>?_) (fun h1=>?_);rotate_left;(exfalso;omega)
   clear stop4
   obtain ⟨ub,uc,rfl,_⟩:=hO1.lit Ka
   have hcell:w3.cell? ⟨ub,0+1,none⟩=some (str ps[1]):=by
    obtain ⟨a',c',e,_,hR⟩:=hO1.read
    rcases hR with hR | ⟨b',o',e2,hR⟩
    ·rw [hR] at h2;cases h2
    ·subst e2;injection e with e3 e4 e5;injection e3 with e3;injection e3 with e6 e7;subst e6;subst e7
     obtain ⟨u,hu,rfl,_⟩:=hR 1 Ka
     exact E3.cell hu
   have eL:L=[⟨0,[],0⟩,⟨4,[],0⟩]++[⟨1,ps[1],0⟩,⟨2,ps[1],0⟩,⟨3,[],digV ps[1]⟩]:=by rw [hL,hz,rdL,if_pos h2,hg1]
   rw [eL]
   clear hall hlen htx hL hz eL
   focus
    refine Rb (fun _=>True) Xr Z Kb ?_;intro w4 E4 K1 hz1;refine WtmS 0 Z Z trivial<|WtmS 1 Z Z trivial<|Yo 2 Z Kb Kb Z (fun _ _=>Yv (k:=1) Jd Ku Z Z Ka) trivial ?_;refine WtmS 5 Z Z trivial<|Yo 6 Z Kb Kb Z (fun _ _=>Yv (k:=1) Jd Ku Z Z Ka) trivial ?_;refine WtmS 9 Z Z trivial<|Yo 10 Z Kb Kb Z (fun _ _=>Yv (k:=1) Jd Ku Z Z Ka) trivial ?_;refine Wha [3,7,11]<|Vu Z ?_ ?_
    refine Wo Z (Vt Kv Z (E4.cell hcell))<|Wnx trivial<|Yo 4 Z Kb Kb Z (fun _ _=>Vs (ps:=[(0,.int _ _),(1,.string _)]) (cs:=[_,_,_]) Yx Z Z) trivial ?_;refine Wha [7,11]<|Vu Z ?_ ?_;refine Wo Z (Vt Kv Z (E4.cell hcell))<|Wnx trivial<|Yo 8 Z Kb Kb Z (fun _ _=>Vs (ps:=[(0,.int _ _),(1,.string _)]) (cs:=[_,_,_]) Yx Z Z) trivial ?_;refine Wha [11]<|Wh1 Z<|Wo Z (Vt Kv Z (E4.cell hcell))<|Wnx trivial<|Wha [12]<|Wh1 Z<|Zr Z (Vx (a:=.string _) Gi Z) (Qh _ _ Kd) ?_;rintro _ w5 ⟨rfl,E5⟩;have hs5:=E5.size
    refine Wnx trivial<|Yo 13 Z Kb Kb Z (fun _ _=>Vs (ps:=[(0,.int _ _),(2,.int _ _)]) (cs:=[_,_,_]) Yx Z Z) trivial ?_;refine Wha [14]<|Wh1 Z<|Qo (a1:=⟨_,_,_⟩) (a2:=⟨_,_,_⟩) (a3:=⟨_,_,_⟩) Z Rn Z Z Z (by first | assumption | omega | (simp <;> omega)) (by first | assumption | omega | (simp <;> omega)) (by first | assumption | omega | (simp <;> omega)) ?_;rintro b3 w6 hb3 E6 hO3;have hs6:=E6.size;refine Wnx trivial<|Wha [15]<|Wh1 Z<|Sd Z Rn Z Z (hO2.ext ((E4.trans E5).trans E6)) hO3 Kf Ka (((E3.trans E4).trans E5).trans E6) Ka ?_;rintro v1 w7 hO4 E7 G1;refine Wnx trivial<|WtaV 16 v1 Z Z trivial<|Yh Kb ?_;rotate_left
    refine Wh1 Z<|Wo Z (Vt Kv Z (E4.cell hcell))<|Wnx trivial<|Wha [7,12]<|Vu Z ?_ ?_;refine Wo Z (Vt Kv Z (E4.cell hcell))<|Wnx trivial<|Yo 8 Z Kb Kb Z (fun _ _=>Vs (ps:=[(0,.int _ _),(1,.string _)]) (cs:=[_,_,_]) Yx Z Z) trivial ?_;refine Wha [12]<|Wh1 Z<|Zr Z (Vx (a:=.string _) Gi Z) (Qh _ _ Kd) ?_;rintro _ w5 ⟨rfl,E5⟩;have hs5:=E5.size;refine Wnx trivial<|Yo 13 Z Kb Kb Z (fun _ _=>Vs (ps:=[(0,.int _ _),(2,.int _ _)]) (cs:=[_,_,_]) Yx Z Z) trivial ?_
    refine Wha [14]<|Wh1 Z<|Qo (a1:=⟨_,_,_⟩) (a2:=⟨_,_,_⟩) (a3:=⟨_,_,_⟩) Z Rn Z Z Z (by first | assumption | omega | (simp <;> omega)) (by first | assumption | omega | (simp <;> omega)) (by first | assumption | omega | (simp <;> omega)) ?_;rintro b3 w6 hb3 E6 hO3;have hs6:=E6.size;refine Wnx trivial<|Wha [15]<|Wh1 Z<|Sd Z Rn Z Z (hO2.ext ((E4.trans E5).trans E6)) hO3 Kf Ka (((E3.trans E4).trans E5).trans E6) Ka ?_;rintro v1 w7 hO4 E7 G1;refine Wnx trivial<|WtaV 16 v1 Z Z trivial<|Yh Kb ?_;rotate_left;refine Wh1 Z<|Zr Z (Vx (a:=.string _) Gi Z) (Qh _ _ Kd) ?_;rintro _ w5 ⟨rfl,E5⟩;have hs5:=E5.size
    refine Wnx trivial<|Yo 13 Z Kb Kb Z (fun _ _=>Vs (ps:=[(0,.int _ _),(2,.int _ _)]) (cs:=[_,_,_]) Yx Z Z) trivial ?_;refine Wha [7]<|Wh1 Z<|Wo Z (Vt Kv Z ((E4.trans E5).cell hcell))<|Wnx trivial<|Yo 8 Z Kb Kb Z (fun _ _=>Vs (ps:=[(0,.int _ _),(1,.string _)]) (cs:=[_,_,_]) Yx Z Z) trivial ?_;refine Wha [14]<|Wh1 Z<|Qo (a1:=⟨_,_,_⟩) (a2:=⟨_,_,_⟩) (a3:=⟨_,_,_⟩) Z Rn Z Z Z (by first | assumption | omega | (simp <;> omega)) (by first | assumption | omega | (simp <;> omega)) (by first | assumption | omega | (simp <;> omega)) ?_;rintro b3 w6 hb3 E6 hO3;have hs6:=E6.size
    refine Wnx trivial<|Wha [15]<|Wh1 Z<|Sd Z Rn Z Z (hO2.ext ((E4.trans E5).trans E6)) hO3 Kf Ka (((E3.trans E4).trans E5).trans E6) Ka ?_;rintro v1 w7 hO4 E7 G1;refine Wnx trivial<|WtaV 16 v1 Z Z trivial<|Yh Kb ?_;rotate_left;refine Vu Z ?_ ?_;refine Wo Z (Vt Kv Z (E4.cell hcell))<|Wnx trivial<|Yo 8 Z Kb Kb Z (fun _ _=>Vs (ps:=[(0,.int _ _),(1,.string _)]) (cs:=[_,_,_]) Yx Z Z) trivial ?_;refine Wha [3,11]<|Vu Z ?_ ?_;refine Wo Z (Vt Kv Z (E4.cell hcell))<|Wnx trivial<|Yo 4 Z Kb Kb Z (fun _ _=>Vs (ps:=[(0,.int _ _),(1,.string _)]) (cs:=[_,_,_]) Yx Z Z) trivial ?_
    refine Wha [11]<|Wh1 Z<|Wo Z (Vt Kv Z (E4.cell hcell))<|Wnx trivial<|Wha [12]<|Wh1 Z<|Zr Z (Vx (a:=.string _) Gi Z) (Qh _ _ Kd) ?_;rintro _ w5 ⟨rfl,E5⟩;have hs5:=E5.size;refine Wnx trivial<|Yo 13 Z Kb Kb Z (fun _ _=>Vs (ps:=[(0,.int _ _),(2,.int _ _)]) (cs:=[_,_,_]) Yx Z Z) trivial ?_;refine Wha [14]<|Wh1 Z<|Qo (a1:=⟨_,_,_⟩) (a2:=⟨_,_,_⟩) (a3:=⟨_,_,_⟩) Z Rn Z Z Z (by first | assumption | omega | (simp <;> omega)) (by first | assumption | omega | (simp <;> omega)) (by first | assumption | omega | (simp <;> omega)) ?_;rintro b3 w6 hb3 E6 hO3;have hs6:=E6.size
    refine Wnx trivial<|Wha [15]<|Wh1 Z<|Sd Z Rn Z Z (hO2.ext ((E4.trans E5).trans E6)) hO3 Kf Ka (((E3.trans E4).trans E5).trans E6) Ka ?_;rintro v1 w7 hO4 E7 G1;refine Wnx trivial<|WtaV 16 v1 Z Z trivial<|Yh Kb ?_;rotate_left;refine Wh1 Z<|Wo Z (Vt Kv Z (E4.cell hcell))<|Wnx trivial<|Wha [3,12]<|Vu Z ?_ ?_;refine Wo Z (Vt Kv Z (E4.cell hcell))<|Wnx trivial<|Yo 4 Z Kb Kb Z (fun _ _=>Vs (ps:=[(0,.int _ _),(1,.string _)]) (cs:=[_,_,_]) Yx Z Z) trivial ?_;refine Wha [12]<|Wh1 Z<|Zr Z (Vx (a:=.string _) Gi Z) (Qh _ _ Kd) ?_;rintro _ w5 ⟨rfl,E5⟩;have hs5:=E5.size
    refine Wnx trivial<|Yo 13 Z Kb Kb Z (fun _ _=>Vs (ps:=[(0,.int _ _),(2,.int _ _)]) (cs:=[_,_,_]) Yx Z Z) trivial ?_;refine Wha [14]<|Wh1 Z<|Qo (a1:=⟨_,_,_⟩) (a2:=⟨_,_,_⟩) (a3:=⟨_,_,_⟩) Z Rn Z Z Z (by first | assumption | omega | (simp <;> omega)) (by first | assumption | omega | (simp <;> omega)) (by first | assumption | omega | (simp <;> omega)) ?_;rintro b3 w6 hb3 E6 hO3;have hs6:=E6.size;refine Wnx trivial<|Wha [15]<|Wh1 Z<|Sd Z Rn Z Z (hO2.ext ((E4.trans E5).trans E6)) hO3 Kf Ka (((E3.trans E4).trans E5).trans E6) Ka ?_;rintro v1 w7 hO4 E7 G1;refine Wnx trivial<|WtaV 16 v1 Z Z trivial<|Yh Kb ?_;rotate_left
    refine Wh1 Z<|Zr Z (Vx (a:=.string _) Gi Z) (Qh _ _ Kd) ?_;rintro _ w5 ⟨rfl,E5⟩;have hs5:=E5.size;refine Wnx trivial<|Yo 13 Z Kb Kb Z (fun _ _=>Vs (ps:=[(0,.int _ _),(2,.int _ _)]) (cs:=[_,_,_]) Yx Z Z) trivial ?_;refine Wha [3]<|Wh1 Z<|Wo Z (Vt Kv Z ((E4.trans E5).cell hcell))<|Wnx trivial<|Yo 4 Z Kb Kb Z (fun _ _=>Vs (ps:=[(0,.int _ _),(1,.string _)]) (cs:=[_,_,_]) Yx Z Z) trivial ?_;refine Wha [14]<|Wh1 Z<|Qo (a1:=⟨_,_,_⟩) (a2:=⟨_,_,_⟩) (a3:=⟨_,_,_⟩) Z Rn Z Z Z (by first | assumption | omega | (simp <;> omega)) (by first | assumption | omega | (simp <;> omega)) (by first | assumption | omega | (simp <;> omega)) ?_;rintro b3 w6 hb3 E6 hO3
    have hs6:=E6.size;refine Wnx trivial<|Wha [15]<|Wh1 Z<|Sd Z Rn Z Z (hO2.ext ((E4.trans E5).trans E6)) hO3 Kf Ka (((E3.trans E4).trans E5).trans E6) Ka ?_;rintro v1 w7 hO4 E7 G1;refine Wnx trivial<|WtaV 16 v1 Z Z trivial<|Yh Kb ?_;rotate_left;refine Wh1 Z<|Wo Z (Vt Kv Z (E4.cell hcell))<|Wnx trivial<|Wha [3,7,12]<|Vu Z ?_ ?_;refine Wo Z (Vt Kv Z (E4.cell hcell))<|Wnx trivial<|Yo 4 Z Kb Kb Z (fun _ _=>Vs (ps:=[(0,.int _ _),(1,.string _)]) (cs:=[_,_,_]) Yx Z Z) trivial ?_;refine Wha [7,12]<|Vu Z ?_ ?_
    refine Wo Z (Vt Kv Z (E4.cell hcell))<|Wnx trivial<|Yo 8 Z Kb Kb Z (fun _ _=>Vs (ps:=[(0,.int _ _),(1,.string _)]) (cs:=[_,_,_]) Yx Z Z) trivial ?_;refine Wha [12]<|Wh1 Z<|Zr Z (Vx (a:=.string _) Gi Z) (Qh _ _ Kd) ?_;rintro _ w5 ⟨rfl,E5⟩;have hs5:=E5.size;refine Wnx trivial<|Yo 13 Z Kb Kb Z (fun _ _=>Vs (ps:=[(0,.int _ _),(2,.int _ _)]) (cs:=[_,_,_]) Yx Z Z) trivial ?_;refine Wha [14]<|Wh1 Z<|Qo (a1:=⟨_,_,_⟩) (a2:=⟨_,_,_⟩) (a3:=⟨_,_,_⟩) Z Rn Z Z Z (by first | assumption | omega | (simp <;> omega)) (by first | assumption | omega | (simp <;> omega)) (by first | assumption | omega | (simp <;> omega)) ?_;rintro b3 w6 hb3 E6 hO3;have hs6:=E6.size
    refine Wnx trivial<|Wha [15]<|Wh1 Z<|Sd Z Rn Z Z (hO2.ext ((E4.trans E5).trans E6)) hO3 Kf Ka (((E3.trans E4).trans E5).trans E6) Ka ?_;rintro v1 w7 hO4 E7 G1;refine Wnx trivial<|WtaV 16 v1 Z Z trivial<|Yh Kb ?_;rotate_left;refine Wh1 Z<|Zr Z (Vx (a:=.string _) Gi Z) (Qh _ _ Kd) ?_;rintro _ w5 ⟨rfl,E5⟩;have hs5:=E5.size;refine Wnx trivial<|Yo 13 Z Kb Kb Z (fun _ _=>Vs (ps:=[(0,.int _ _),(2,.int _ _)]) (cs:=[_,_,_]) Yx Z Z) trivial ?_
    refine Wha [7]<|Wh1 Z<|Wo Z (Vt Kv Z ((E4.trans E5).cell hcell))<|Wnx trivial<|Yo 8 Z Kb Kb Z (fun _ _=>Vs (ps:=[(0,.int _ _),(1,.string _)]) (cs:=[_,_,_]) Yx Z Z) trivial ?_;refine Wha [14]<|Wh1 Z<|Qo (a1:=⟨_,_,_⟩) (a2:=⟨_,_,_⟩) (a3:=⟨_,_,_⟩) Z Rn Z Z Z (by first | assumption | omega | (simp <;> omega)) (by first | assumption | omega | (simp <;> omega)) (by first | assumption | omega | (simp <;> omega)) ?_;rintro b3 w6 hb3 E6 hO3;have hs6:=E6.size;refine Wnx trivial<|Wha [15]<|Wh1 Z<|Sd Z Rn Z Z (hO2.ext ((E4.trans E5).trans E6)) hO3 Kf Ka (((E3.trans E4).trans E5).trans E6) Ka ?_;rintro v1 w7 hO4 E7 G1;refine Wnx trivial<|WtaV 16 v1 Z Z trivial<|Yh Kb ?_
    rotate_left;refine Vu Z ?_ ?_;refine Wo Z (Vt Kv Z (E4.cell hcell))<|Wnx trivial<|Yo 8 Z Kb Kb Z (fun _ _=>Vs (ps:=[(0,.int _ _),(1,.string _)]) (cs:=[_,_,_]) Yx Z Z) trivial ?_;refine Wha [3,12]<|Vu Z ?_ ?_;refine Wo Z (Vt Kv Z (E4.cell hcell))<|Wnx trivial<|Yo 4 Z Kb Kb Z (fun _ _=>Vs (ps:=[(0,.int _ _),(1,.string _)]) (cs:=[_,_,_]) Yx Z Z) trivial ?_;refine Wha [12]<|Wh1 Z<|Zr Z (Vx (a:=.string _) Gi Z) (Qh _ _ Kd) ?_;rintro _ w5 ⟨rfl,E5⟩;have hs5:=E5.size;refine Wnx trivial<|Yo 13 Z Kb Kb Z (fun _ _=>Vs (ps:=[(0,.int _ _),(2,.int _ _)]) (cs:=[_,_,_]) Yx Z Z) trivial ?_
    refine Wha [14]<|Wh1 Z<|Qo (a1:=⟨_,_,_⟩) (a2:=⟨_,_,_⟩) (a3:=⟨_,_,_⟩) Z Rn Z Z Z (by first | assumption | omega | (simp <;> omega)) (by first | assumption | omega | (simp <;> omega)) (by first | assumption | omega | (simp <;> omega)) ?_;rintro b3 w6 hb3 E6 hO3;have hs6:=E6.size;refine Wnx trivial<|Wha [15]<|Wh1 Z<|Sd Z Rn Z Z (hO2.ext ((E4.trans E5).trans E6)) hO3 Kf Ka (((E3.trans E4).trans E5).trans E6) Ka ?_;rintro v1 w7 hO4 E7 G1;refine Wnx trivial<|WtaV 16 v1 Z Z trivial<|Yh Kb ?_;rotate_left;refine Wh1 Z<|Zr Z (Vx (a:=.string _) Gi Z) (Qh _ _ Kd) ?_;rintro _ w5 ⟨rfl,E5⟩;have hs5:=E5.size
    refine Wnx trivial<|Yo 13 Z Kb Kb Z (fun _ _=>Vs (ps:=[(0,.int _ _),(2,.int _ _)]) (cs:=[_,_,_]) Yx Z Z) trivial ?_;refine Wha [3]<|Wh1 Z<|Wo Z (Vt Kv Z ((E4.trans E5).cell hcell))<|Wnx trivial<|Yo 4 Z Kb Kb Z (fun _ _=>Vs (ps:=[(0,.int _ _),(1,.string _)]) (cs:=[_,_,_]) Yx Z Z) trivial ?_;refine Wha [14]<|Wh1 Z<|Qo (a1:=⟨_,_,_⟩) (a2:=⟨_,_,_⟩) (a3:=⟨_,_,_⟩) Z Rn Z Z Z (by first | assumption | omega | (simp <;> omega)) (by first | assumption | omega | (simp <;> omega)) (by first | assumption | omega | (simp <;> omega)) ?_;rintro b3 w6 hb3 E6 hO3;have hs6:=E6.size
    refine Wnx trivial<|Wha [15]<|Wh1 Z<|Sd Z Rn Z Z (hO2.ext ((E4.trans E5).trans E6)) hO3 Kf Ka (((E3.trans E4).trans E5).trans E6) Ka ?_;rintro v1 w7 hO4 E7 G1;refine Wnx trivial<|WtaV 16 v1 Z Z trivial<|Yh Kb ?_;rotate_left;refine Wh1 Z<|Zr Z (Vx (a:=.string _) Gi Z) (Qh _ _ Kd) ?_;rintro _ w5 ⟨rfl,E5⟩;have hs5:=E5.size;refine Wnx trivial<|Yo 13 Z Kb Kb Z (fun _ _=>Vs (ps:=[(0,.int _ _),(2,.int _ _)]) (cs:=[_,_,_]) Yx Z Z) trivial ?_;refine Wha [3,7]<|Vu Z ?_ ?_
    refine Wo Z (Vt Kv Z ((E4.trans E5).cell hcell))<|Wnx trivial<|Yo 4 Z Kb Kb Z (fun _ _=>Vs (ps:=[(0,.int _ _),(1,.string _)]) (cs:=[_,_,_]) Yx Z Z) trivial ?_;refine Wha [7]<|Wh1 Z<|Wo Z (Vt Kv Z ((E4.trans E5).cell hcell))<|Wnx trivial<|Yo 8 Z Kb Kb Z (fun _ _=>Vs (ps:=[(0,.int _ _),(1,.string _)]) (cs:=[_,_,_]) Yx Z Z) trivial ?_;refine Wha [14]<|Wh1 Z<|Qo (a1:=⟨_,_,_⟩) (a2:=⟨_,_,_⟩) (a3:=⟨_,_,_⟩) Z Rn Z Z Z (by first | assumption | omega | (simp <;> omega)) (by first | assumption | omega | (simp <;> omega)) (by first | assumption | omega | (simp <;> omega)) ?_;rintro b3 w6 hb3 E6 hO3;have hs6:=E6.size
    refine Wnx trivial<|Wha [15]<|Wh1 Z<|Sd Z Rn Z Z (hO2.ext ((E4.trans E5).trans E6)) hO3 Kf Ka (((E3.trans E4).trans E5).trans E6) Ka ?_;rintro v1 w7 hO4 E7 G1;refine Wnx trivial<|WtaV 16 v1 Z Z trivial<|Yh Kb ?_;rotate_left;refine Wh1 Z<|Wo Z (Vt Kv Z ((E4.trans E5).cell hcell))<|Wnx trivial<|Yo 8 Z Kb Kb Z (fun _ _=>Vs (ps:=[(0,.int _ _),(1,.string _)]) (cs:=[_,_,_]) Yx Z Z) trivial ?_;refine Wha [3]<|Wh1 Z<|Wo Z (Vt Kv Z ((E4.trans E5).cell hcell))<|Wnx trivial<|Yo 4 Z Kb Kb Z (fun _ _=>Vs (ps:=[(0,.int _ _),(1,.string _)]) (cs:=[_,_,_]) Yx Z Z) trivial ?_
    refine Wha [14]<|Wh1 Z<|Qo (a1:=⟨_,_,_⟩) (a2:=⟨_,_,_⟩) (a3:=⟨_,_,_⟩) Z Rn Z Z Z (by first | assumption | omega | (simp <;> omega)) (by first | assumption | omega | (simp <;> omega)) (by first | assumption | omega | (simp <;> omega)) ?_;rintro b3 w6 hb3 E6 hO3;have hs6:=E6.size;refine Wnx trivial<|Wha [15]<|Wh1 Z<|Sd Z Rn Z Z (hO2.ext ((E4.trans E5).trans E6)) hO3 Kf Ka (((E3.trans E4).trans E5).trans E6) Ka ?_;rintro v1 w7 hO4 E7 G1;refine Wnx trivial<|WtaV 16 v1 Z Z trivial<|Yh Kb ?_;rotate_left
   all_goals exact ⟨_,⟨rfl,trivial⟩,Kh,Kd,Kd⟩
  ·have eL:L=[⟨0,[],0⟩,⟨4,[],0⟩]:=by rw [hL,rdL,if_neg h2];rfl
   focus
    refine Zt Z fun h1=>?_;refine Zv ?_
   subst eL
   exact ⟨_,⟨rfl,trivial⟩,Kh,Kd,Kd⟩
 rintro v ρm w4 ⟨E4,hOL⟩
 have hRL:=hOL.read
 clear hOL hO1 hL hz
 focus
  refine Zq<|Zp<|Vg Z<|Zn<|Zw ?_
 refine Vy [3,6,31,32,33,34,35,36,37,38,39,40,41,42,43,44,45,46,47,48,49,50,51] (fun (k:Nat)=>[(6,.int .i64 (k:Nat))]) (fun k w'=>Ext w4 w'∧k≤L.length∧∀ (j:Nat) (h:j < L.length),j < k→s≠[]→dtV L[j]≠s) (fun k=>L.length - k) 0 Kg ?_ ?_
 ·exact ⟨Ext.refl _,Nat.zero_le _,fun j h h2=>Ka⟩
 rintro k ρj w5 ⟨E5,hk,hno⟩
 by_cases hkl:k < L.length
 ·have htk:=htx k hkl
  have kd : ∀ (w:World),Does Tryz.prog 108 [dv L[k]] w (Ret w (str (dtV L[k]))):=fun w=>spec_DeedText_ok w _ _ _ htk
  focus
   refine Zq<|Zp<|Zu Z<|Vb v Z<|Wo Z (opv_lenD Zk Z hRL)<|Vi Z<|Zn<|Zs Z (fun h1=>?_) (fun h1=>?_);refine Zv<|Zq<|Zw<|Zp<|Vo Z<|Wo Z (Xb Z Z)<|Uh Z (fun h2=>?_) (fun h2=>?_);refine Vb v Z<|Zu Z<|Wo_getD Zk Kx Je Kx Z (fun _=>Z) Z hRL E5 Z Kf ?_;rintro _;refine Zr Z (Vx (a:=.agg _) Tryz.call108 Z) (kd _) ?_;rintro _ w6 ⟨rfl,E6⟩;refine Vo Z<|Wo Z (Vc Z Z)<|Yq Z<|Zn<|Zs Z (fun h3=>?_) (fun h3=>?_);refine Zp<|Vb v Z<|Zu Z<|Wo_getD Zk Kx Je Kx Z (fun _=>Z) Z hRL exq Z Kf ?_;rintro _
   refine Wo_st3 Z Kx Z Z Ke Ke Ke (hB1.ext (((E2.trans E4).trans E5).trans E6)) Ka ((((E1.trans E2).trans E4).trans E5).trans E6) ?_;rintro w7 E7 hB1 K1 hz1;refine Zz Z<|Zn<|Zy ?_;rotate_left;refine Zv<|Vf<|Zu Z<|Vr Z<|Vg Z<|Zn ?_;rotate_left;refine Zo Z<|Zo Z<|Zo Z<|Zo Z<|Zo Z<|Zo Z<|Zo Z<|Vp Z<|Zn<|Zx Z ?_;refine Zv<|Vf<|Zu Z<|Vr Z<|Vg Z<|Zn ?_;rotate_left;(exfalso;omega)
  ·refine ⟨_,_,_,_,Z,Kd,?_,Kd⟩
   exact leaf_some (rdD_eq Kd Kd) rfl
  ·refine ⟨(k+1),Kg,Kh,?_,?_⟩
   ·refine ⟨by first | assumption | exact E5.trans Kd,Ka,fun j h h2 hs0=>?_⟩
    rcases Nat.lt_or_ge j k with h3 | h3
    ·exact hno j h h3 hs0
    ·obtain rfl:j=k:=by omega
     assumption
   ·omega
  ·refine ⟨(k+1),Kg,Kh,?_,?_⟩
   ·exact ⟨by first | assumption | exact E5.trans Kd,Ka,fun j h h2 hs0=>absurd Kd hs0⟩
   ·omega
 ·focus
   refine Zq<|Zp<|Zu Z<|Vb v Z<|Wo Z (opv_lenD Zk Z hRL)<|Vi Z<|Zn<|Zt Z fun h1=>?_;refine Vw ?_;refine Vd ?_;refine Zp<|Wo Z (Vs (ps:=[]) (cs:=[_,_,_]) Yx Z Z)<|Wo_st3 Z Kx Z Z Ke Ke Ke (hB1.ext ((E2.trans E4).trans E5)) Ka (((E1.trans E2).trans E4).trans E5) ?_;rintro w6 E6 hB1 K1 hz1;refine Zz Z<|Zn<|Zy ?_
  refine ⟨_,_,_,_,Z,Kd,?_,Kd⟩
  refine leaf_none ?_ Z
  cases hr:rdD s with
  | none=>rfl
  | some a =>
    obtain ⟨j, hj, e⟩ := List.mem_iff_getElem.1 (hall a hr)
    have h9 := Nk hr
    exact absurd (e ▸ h9.1) (hno j hj Ka h9.2)
end Go.Proofs.YtbgpppaljpngmaaGreatDoor
set_option linter.unusedVariables false
set_option linter.unusedSimpArgs false
namespace Go.Hs
section
variable {e:TypeId} {lo:Nat} {w w' w0:World} {v:Value} {l m:List Deed} {b n c k:Nat} {u:Value}
end
section
variable {P:Program} {N:Env→World→Prop} {ρ : Env} {w w0:World} {all:Array Oper} {rest:List Oper} {d:Nat} {ty t el e:TypeId} {pos:String} {after:Array Edge} {g:Option (Nat × Bool)} {x y:Operand} {l:List Deed} {lo b n c k:Nat} {nn:Nat}
end
theorem Ext.toSpan {lo hi:Nat} {w w':World} (h:Ext w w'):Span lo hi w w':=Span.of_only (Ext.only (fp:=[]) h) (fun k hk=>by cases hk)
end Go.Hs
namespace Go.Proofs.YtbgpppaljpngmaaGreatDoor
open Go.Hs
set_option maxRecDepth 10000
set_option maxHeartbeats 4000000
set_option linter.unusedVariables false
set_option linter.unusedSimpArgs false
theorem rdD_text {s:List UInt8} {a:Deed} (h:rdD s=some a) {n:Nat} (hs:s.length≤n):a.text.length≤n:=by
 have h1:=(Nk h).1
 have ht:=rdD_told h
 cases ht with
 | single=>simp
 | back=>simp
 | into d hd=>simp
 | add p hp=>rw [Tq hp] at h1;rw [← h1] at hs;simp at hs ⊢;omega
 | drop p hp=>rw [Sl hp] at h1;rw [← h1] at hs;simp at hs ⊢;omega
end Go.Proofs.YtbgpppaljpngmaaGreatDoor
set_option linter.unusedVariables false
namespace Go.Hs
set_option linter.unusedVariables false
def RetDkT (w:World) (e0 e1 e2:TypeId) (now:List (List Int)) (past:List (List (List Int))) (t:List UInt8):Value→World→Prop:=fun v w'=>∃ u1 u2 m,v=.tuple #[.agg #[u1,u2],str t]∧Ext w w'∧OwnedB w.heap.size m (XSl e1 (XSl e2 XInt)) w' u1 now∧Owned m (XSl e0 (XSl e1 (XSl e2 XInt))) w' u2 past∧w.heap.size≤m∧m≤w'.heap.size
def RetDkRT (w:World) (now:List (List Int)) (past:List (List (List Int))) (t:List UInt8):Value→World→Prop:=fun v w'=>∃ u1 u2,v=.tuple #[.agg #[u1,u2],str t]∧Ext w w'∧OwnedB w.heap.size w'.heap.size (XRd (ESl Ints)) w' u1 now∧OwnedB w.heap.size w'.heap.size (XRd (ESl (ESl Ints))) w' u2 past∧isCell u1=true∧isCell u2=true
end Go.Hs
namespace Go.Proofs.YtbgpppaljpngmaaGreatDoor
open Go.Hs
set_option maxRecDepth 10000
set_option maxHeartbeats 4000000
set_option linter.unusedVariables false
set_option linter.unusedSimpArgs false
def okV (b:Bool):List UInt8:=if b then [111,107] else [110,111,116]
open Classical in
theorem deskLineD_ok (w:World) (hM:EMx gMx w (.bool true) ()) (u1 u2:Value) (d:Dsk) (h1:ESl Ints w u1 d.now) (h2:ESl (ESl Ints) w u2 d.past) (hd:DkOk d) (s:List UInt8) (hs:s.length≤1048576) (a:Deed) (ha:rdD s=some a) :
  Does Tryz.prog 59 [.agg #[u1,u2],str s] w (RetDkT w 23 88 3 (doV d a).1.now (doV d a).1.past (okV (doV d a).2)):=by
 have icu1:isCell u1=true:=Uu h1
 have icu2:isCell u2=true:=Uu h2
 have hat:a.text.length≤1048576:=rdD_text ha hs
 have k0 : ∀ (w:World),EMx gMx w (.bool true) ()→Does Tryz.prog 103 [str s] w (Ret w (.tuple #[.agg #[.int .i64 a.kind,str a.text,.int .i64 a.node],.bool true])):=fun w hM=>by
  have:=Ny w s hM hs
  rw [ha] at this;exact this
 have k1 : ∀ w,EMx gMx w (.bool true) ()→ESl Ints w u1 d.now→ESl (ESl Ints) w u2 d.past→Does Tryz.prog 92 [.agg #[u1,u2],.agg #[.int .i64 a.kind,str a.text,.int .i64 a.node]] w (RetDkB w 23 88 3 (doV d a).1.now (doV d a).1.past (doV d a).2):=fun w hM h1 h2=>deskDo_ok w hM u1 u2 d h1 h2 hd a.kind a.node a.text hat
 refine Su Tryz.func59 Z Tryz.results59 Tryz.ntmps59 Z Ks Ko ?_
 have litown:True:=trivial
 cases hb:(doV d a).2 with
 | true =>
   rw [hb] at k1
   focus
     refine Zp<|Yl Z Z Z ?_; rintro b1 w1 hb1 E1 hB1; have hlb1 := hB1.lt; refine Yp Z Xf ?_; rintro b2 w2 hb2 E2 hB2; have hlb2 := hB2.lt; refine Yj Z<|Zn<|Zq<|Zp<|Vo Z<|Zr Z (Vx (a := .string _) Tryz.call103 Z) (k0 _ ((Mono.mono exq hM))) ?_; rintro _ w3 ⟨rfl, E3⟩; have hs3 := E3.size; refine Xl Z<|WsxA Z<|Xv Z<|Ru Z Yx ?_; rintro b3 w4 hb3 E4 hB3; have hlb3 := hB3.lt; refine Wo_st3 Z Kx Z Z Ke Ke Ke hB3 Ka (((E1.trans E2).trans E3).trans E4) ?_; rintro w5 E5 hB3 K1 hz1; have E6 := ((E2.trans E3).trans E4).wroteAt exq E5 K1 hz1 Ka; have szE6 := E6.size; have hB1 := (hB1.ext exq).of_heap (K1 _ Ka); have hB2 := (hB2.ext exq).of_heap (K1 _ Ka)
     refine Zz Z<|Zn<|Zp<|Yi Z<|Zn<|Vv Z ?_; refine Zp<|Xc Ks Ko hB1 Z<|Qt Je Kx hB3 Z<|Zr Z (Yg (a := .agg _) (b := .agg _) Tryz.call92 Z Z) (k1 _ ((Mono.mono E5 hM)) ((Mono.mono E5 h1)) ((Mono.mono E5 h2))) ?_; rintro _ w6 ⟨u3, q1, m1, rfl, E9, hO1, hQ1, hm1, hn1⟩; have icu3 := OwnedB.isC hO1; have icq1 := OwnedB.isC (Owned.toB hQ1); have hs5 := E9.size; refine Xl Z<|WsxA Z<|Xv Z<|Yp Z Xf ?_; rintro b4 w7 hb4 E10 hB4; have hlb4 := hB4.lt; refine Ui Ko hB4 Z ((E5.trans E9).trans E10) ?_; rintro w8 E11 hB4 K2 hz2; have hB2 := (hB2.ext exq).of_heap (K2 _ Ka); have hO1 := (hO1.ext E10).wrote K2 Ka; have hQ1 := (hQ1.toB.ext E10).wrote K2 Ka
     refine Zz Z<|Zn<|Zq<|Zp<|Yi Z<|Ym Z<|Zn<|Xa Z fun h3 => ?_; refine Zv<|Zp<|Xc Ks Ko hB4 Z<|Ui Ko hB2 Z E11 ?_; rintro w9 E17 hB2 K3 hz3; have hO1 := hO1.wrote K3 Ka; have hQ1 := hQ1.wrote K3 Ka; refine Yj Z<|Zn<|Zy ?_
   exact ⟨b2, u3, q1, rfl, hB2, u3, q1, m1, rfl, by exact E17, hO1.wide Ka (Nat.le_refl _), hQ1.o, Ka, Ka⟩
 | false =>
   rw [hb] at k1
   focus
     refine Zp<|Yl Z Z Z ?_; rintro b1 w1 hb1 E1 hB1; have hlb1 := hB1.lt; refine Yp Z Xf ?_; rintro b2 w2 hb2 E2 hB2; have hlb2 := hB2.lt; refine Yj Z<|Zn<|Zq<|Zp<|Vo Z<|Zr Z (Vx (a := .string _) Tryz.call103 Z) (k0 _ ((Mono.mono exq hM))) ?_; rintro _ w3 ⟨rfl, E3⟩; have hs3 := E3.size; refine Xl Z<|WsxA Z<|Xv Z<|Ru Z Yx ?_; rintro b3 w4 hb3 E4 hB3; have hlb3 := hB3.lt; refine Wo_st3 Z Kx Z Z Ke Ke Ke hB3 Ka (((E1.trans E2).trans E3).trans E4) ?_; rintro w5 E5 hB3 K1 hz1; have E6 := ((E2.trans E3).trans E4).wroteAt exq E5 K1 hz1 Ka; have szE6 := E6.size; have hB1 := (hB1.ext exq).of_heap (K1 _ Ka); have hB2 := (hB2.ext exq).of_heap (K1 _ Ka)
     refine Zz Z<|Zn<|Zp<|Yi Z<|Zn<|Vv Z ?_; refine Zp<|Xc Ks Ko hB1 Z<|Qt Je Kx hB3 Z<|Zr Z (Yg (a := .agg _) (b := .agg _) Tryz.call92 Z Z) (k1 _ ((Mono.mono E5 hM)) ((Mono.mono E5 h1)) ((Mono.mono E5 h2))) ?_; rintro _ w6 ⟨u3, q1, m1, rfl, E9, hO1, hQ1, hm1, hn1⟩; have icu3 := OwnedB.isC hO1; have icq1 := OwnedB.isC (Owned.toB hQ1); have hs5 := E9.size; refine Xl Z<|WsxA Z<|Xv Z<|Yp Z Xf ?_; rintro b4 w7 hb4 E10 hB4; have hlb4 := hB4.lt; refine Ui Ko hB4 Z ((E5.trans E9).trans E10) ?_; rintro w8 E11 hB4 K2 hz2; have hB2 := (hB2.ext exq).of_heap (K2 _ Ka); have hO1 := (hO1.ext E10).wrote K2 Ka; have hQ1 := (hQ1.toB.ext E10).wrote K2 Ka
     refine Zz Z<|Zn<|Zq<|Zp<|Yi Z<|Ym Z<|Zn<|Xg Z (fun h3 => ?_) (fun h3 => ?_); refine Zp<|Xc Ks Ko hB4 Z<|Ui Ko hB2 Z E11 ?_; rintro w9 E17 hB2 K3 hz3; have hO1 := hO1.wrote K3 Ka; have hQ1 := hQ1.wrote K3 Ka; refine Yj Z<|Zn<|Zy ?_; rotate_left; contradiction
   exact ⟨b2, u3, q1, rfl, hB2, u3, q1, m1, rfl, by exact E17, hO1.wide Ka (Nat.le_refl _), hQ1.o, Ka, Ka⟩
theorem manyIn_ok (w:World) (v:Value) (p:List (List Int)) (h:ESl Ints w v p) (hp:Pic p) (a:Nat) (ha:a < p.length):Does Tryz.prog 95 [v,.int .i64 (a:Int)] w (Ret w (.int .i64 (manyV p a:Int))):=by
 have hp5:=hp.2.1
 have c0 : ∀ (w:World) (v:Value),ESl Ints w v p→Does Tryz.prog 144 [v] w (RetO w XI (ints (kndL p))):=fun w v h=>kindsOf_ok w v p h hp.gr
 have c1 : ∀ (w:World) (v:Value),ESl Ints w v p→Does Tryz.prog 130 [v,.int .i64 (a:Int)] w (RetO w XI (ints (arr p a))):=fun w v h=>Us w v p h (a:Int) ⟨Ka,Ka⟩ (by rw [Ya Ka,hp.gr.row Ka];omega)
 have hal:=Mh hp.gr ha
 have hail:=Yy (arr p a)
 have hkl:=Yy (kndL p)
 have hkl2:(kndL p).length=p.length:=by simp [kndL]
 refine Vh Tryz.func95 Z Tryz.results95 Tryz.ntmps95 Z ?_
 focus
  refine Zp<|Vg Z<|Zn<|Zp<|Vb v Z<|Zr Z (Vx (a:=v) Tryz.call144 Z) (c0 _ _ (h)) ?_;rintro u1 w1 ⟨E1,hO1⟩;refine Yr u1 Z<|Zn<|Zp<|Yz XInt Z Ux Kl ?_;rintro b1 w2 hb1 b1lt E2 hO2;refine Ys Z<|Zn<|Zq<|Zp<|Vb v Z<|Zu Z<|Zr Z (Yg (a:=v) (b:=.int _ _) Js Z Z) (c1 _ _ ((Mono.mono exq h))) ?_;rintro u2 w3 ⟨E3,hO3⟩;have hs3:=E3.size;refine Vk Kn Z (Owned.read hO3)<|Zu Z<|Zn<|Zw ?_
 have hS:Owned w1.heap.size XI w3 (.slice (some ⟨b1,0,none⟩) 0 0) (ints []):=(hO2.ext (by exact E3))
 have hBe:Besides (Value.ownBlock (.slice (some ⟨b1,0,none⟩) 0 0)) Ints w3 u2 (ints (arr p a)):=Besides.start hO2 hO3.above
 have hK:OwnedB w.heap.size w1.heap.size XI w3 u1 (ints (kndL p)):=hO1.toB.ext (by exact (E2.trans E3))
 clear hO1 hO2 hO3
 refine Vy [6,8,16,17,18,19,20,21,22,23,24,25,26,27,28,29,30,31,32,33,34] (fun ((k,u,L):Nat × Value × List Nat)=>[(16,.int .i64 (k:Nat)),(6,u)]) (fun (k,u,L) w'=>Ext w w'∧w3.heap.size≤w'.heap.size∧k≤(arr p a).length∧Owned w1.heap.size XI w' u (ints L)∧Besides u.ownBlock Ints w' u2 (ints (arr p a))∧OwnedB w.heap.size w1.heap.size XI w' u1 (ints (kndL p))∧L.length≤k∧Mny p ((arr p a).take k) L) (fun x=>(arr p a).length - x.1) (0,.slice (some ⟨b1,0,none⟩) 0 0,[]) Kg ?_ ?_
 ·exact ⟨by exact ((E1.trans E2).trans E3),Ka,Nat.zero_le _,hS,hBe,hK,Ki,by simpa using Mny.zero⟩
 clear hS hBe hK
 rintro ⟨k,uk,L⟩ ρj w4 ⟨E4,hsz,hk,hS,hBe,hK,hL,hM⟩
 have hLil:=Yy L
 by_cases hlt:k < (arr p a).length
 ·have hm:=Xy hp.gr ha (List.getElem_mem hlt)
  have hgk:(ints (arr p a))[k]'Ka=((arr p a)[k]:Int):=Xz hlt
  have hgn:((ints (arr p a))[k]'Ka).toNat=(arr p a)[k]:=by rw [hgk];omega
  have hkk:(ints (kndL p))[((ints (arr p a))[k]'Ka).toNat]'(by rw [hgn];omega)=(knd p (arr p a)[k]:Int):=by
   simp only [hgn];exact Re Ka
  have hts:=Yd _ _ hlt
  by_cases hin:knd p (arr p a)[k] ∈ L
  ·have k1 : ∀ (w:World) (t:Value),Ints w t (ints L)→Does Tryz.prog 145 [t,.int .i64 ((ints (kndL p))[((ints (arr p a))[k]'Ka).toNat]'(by rw [hgn];omega))] w (Ret w (.bool true)):=fun w t h=>by
    have:=Qy w t _ h (knd p (arr p a)[k]:Int)
    rw [decide_eq_true (mem_ints.2 hin)] at this
    rw [hkk];exact this
   focus
    refine Zp<|Vi Z<|Zn<|Zq<|Zs Z (fun h1=>?_) (fun h1=>?_);refine Zv<|Zq<|Zw<|Zp<|Yb Kn Kl Km Z (fun _=>Z) Z (Besides.here hBe) (Ext.refl _) Z Kf ?_;rintro _ _ rfl;refine Vg Z<|Zn<|Zp<|Vb uk Z<|Vb u1 Z<|Zu Z<|Qr Kn Kl Km Z (fun _=>Z) Z (OwnedB.read hK) (Ext.refl _) Z Kf ?_;rintro _ _ rfl;refine Zr Z (Yg (a:=uk) (b:=.int _ _) Gk Z Z) (k1 _ _ ((Owned.read hS))) ?_;rintro _ w5 ⟨rfl,E5⟩;have hs4:=E5.size;refine Ym Z<|Zn<|Xa Z fun h2=>?_;refine Zv<|Vf<|Vr Z<|Zu Z<|Zn ?_;rotate_left;(exfalso;omega)
   refine ⟨((k+1,uk,L)),Kg,Kh,?_,?_⟩
   ·refine ⟨by exact (E4.trans E5),Ka,Ka,by exact (Mono.mono E5 hS),by exact (hBe.ext E5),by exact (hK.ext E5),Ka,?_⟩
    rw [hts];exact hM.skip hin
   ·simp only;omega
  ·have k1 : ∀ (w:World) (t:Value),Ints w t (ints L)→Does Tryz.prog 145 [t,.int .i64 ((ints (kndL p))[((ints (arr p a))[k]'Ka).toNat]'(by rw [hgn];omega))] w (Ret w (.bool false)):=fun w t h=>by
    have:=Qy w t _ h (knd p (arr p a)[k]:Int)
    rw [decide_eq_false (fun h=>hin (mem_ints.1 h))] at this
    rw [hkk];exact this
   focus
    have szE1:=E1.size;refine Zp<|Vi Z<|Zn<|Zq<|Zs Z (fun h1=>?_) (fun h1=>?_);refine Zv<|Zq<|Zw<|Zp<|Yb Kn Kl Km Z (fun _=>Z) Z (Besides.here hBe) (Ext.refl _) Z Kf ?_;rintro _ _ rfl;refine Vg Z<|Zn<|Zp<|Vb uk Z<|Vb u1 Z<|Zu Z<|Qr Kn Kl Km Z (fun _=>Z) Z (OwnedB.read hK) (Ext.refl _) Z Kf ?_;rintro _ _ rfl;refine Zr Z (Yg (a:=uk) (b:=.int _ _) Gk Z Z) (k1 _ _ ((Owned.read hS))) ?_;rintro _ w5 ⟨rfl,E5⟩;have hs4:=E5.size;refine Ym Z<|Zn<|Xg Z (fun h2=>?_) (fun h2=>?_)
    refine Vf<|Vb uk Z<|Vb u1 Z<|Zu Z<|Qr Kn Kl Km Z (fun _=>Z) Z (OwnedB.read hK) E5 Z Kf ?_;rintro _ _ rfl;refine Ye (ps:=[(0,.int _ _)]) (cs:=[_]) Z Kn Kl Jg Z Z Z Z ?_;rintro b2 w6 hb2 E6 hB1 hHb2;have hlb2:=hB1.lt;refine Xh Z Ux Z Z hB1 (hS.toB.ext (E5.trans E6)) Owned.int (Nat.le_refl _) Kf Ka Ka ((E4.trans E5).trans E6) Ka ?_;have hT1:=(hS.toB.ext (E5.trans E6));rintro v1 w7 hS E7 M1;have hBe:=(hBe.ext exq).moves M1;have hK:=(hK.ext exq).moves M1 hT1 Ka;refine Yr v1 Z<|Zn<|Vf<|Vr Z<|Zu Z<|Zn ?_;rotate_left;contradiction;(exfalso;omega)
   refine ⟨((k+1,v1,L++[knd p (arr p a)[k]])),Kg,Kh,?_,?_⟩
   ·have e:ints L++[(ints (kndL p))[((ints (arr p a))[k]'Ka).toNat]'(by rw [hgn];omega)]=ints (L++[knd p (arr p a)[k]]):=by rw [hkk];simp [ints]
    refine ⟨by exact E7,(by have:=M1.1.size;omega),Ka,by rw [← e];exact hS,hBe,hK,by simp;omega,?_⟩
    rw [hts];exact hM.step hin
   ·simp only;omega
 ·obtain rfl:k=(arr p a).length:=by omega
  rw [List.take_length] at hM
  have:=hM.many hp.gr ha
  focus
   refine Zp<|Vi Z<|Zn<|Zq<|Zt Z fun h1=>?_;refine Vw ?_;refine Vd ?_;refine Zp<|Vb uk Z<|Vk Kn Z (Owned.read hS)<|Vg Z<|Zn<|Zy ?_;refine Ve (v:=.int _ _) Z ?_;refine ⟨congrArg (Value.int .i64) ?_,E4⟩
  rw [hLil,this]
open Classical in
theorem spec_HasSet_ok (w:World) (v u:Value) (p q:List (List Int)) (h:ESl Ints w v p) (h':ESl Ints w u q) (hp:Pic p) (hq:Pic q):Does Tryz.prog 67 [v,.int .i64 0,u,.int .i64 0] w (Ret w (.bool (hasV p 0 q 0))):=by
 have hN:Nod p 0:=⟨hp,Kc,by have:=hp.1;omega⟩
 have hN':Nod q 0:=⟨hq,Kc,by have:=hq.1;omega⟩
 have k1 : ∀ (w:World) (v:Value),ESl Ints w v p→Does Tryz.prog 118 [v,.int .i64 0] w (Ret w (.bool true)):=fun w v h=>by
  have:=Qs w v p h 0;rwa [decide_eq_true hN] at this
 have k2 : ∀ (w:World) (v:Value),ESl Ints w v q→Does Tryz.prog 118 [v,.int .i64 0] w (Ret w (.bool true)):=fun w v h=>by
  have:=Qs w v q h 0;rwa [decide_eq_true hN'] at this
 have k3 : ∀ (w:World) (v:Value),ESl Ints w v p→Does Tryz.prog 119 [v,.int .i64 0] w (RetO w XI (ints (arr p 0))):=fun w v h=>Te w v p h hp.gr 0 hp.1
 have hal:=Mh hp.gr hp.1
 have hail:=Yy (arr p 0)
 have hp5:=hp.2.1
 refine Vh Tryz.func67 Z Tryz.results67 Tryz.ntmps67 Z ?_
 focus
  refine Zp<|Zz Z<|Zn<|Zq<|Zp<|Vb v Z<|Zu Z<|Zr Z (Yg (a:=v) (b:=.int _ _) Gb Z Z) (k1 _ _ (h)) ?_;rintro _ w1 ⟨rfl,E1⟩;refine Ym Z<|Yn Z (Vq (v:=.bool _) Z) (fun h1=>?_) (fun h1=>?_);contradiction;refine Vb u Z<|Zu Z<|Zr Z (Yg (a:=u) (b:=.int _ _) Gb Z Z) (k2 _ _ ((Mono.mono E1 h'))) ?_;rintro _ w2 ⟨rfl,E2⟩;refine Ym Z<|Vp Z<|Zn<|Xa Z fun h2=>?_;refine Zv<|Zp<|Vb v Z<|Zu Z<|Zr Z (Yg (a:=v) (b:=.int _ _) Zc Z Z) (k3 _ _ ((Mono.mono exq h))) ?_;rintro u1 w3 ⟨E3,hO1⟩;refine Yr u1 Z<|Zn<|Zq<|Zp<|Vg Z<|Zn<|Zw ?_
 refine Vy [8,10,24,25,26,27,28,29,30,31,32,33,34,35,36,37] (fun (k:Nat)=>[(10,.int .i64 (k:Nat))]) (fun k w'=>Ext w3 w'∧k≤(arr p 0).length∧((arr p 0).take k).any (fun v=>decide (Bis p v q 0))=false) (fun x=>(arr p 0).length - x) 0 Kg ?_ ?_
 ·exact ⟨by exact (Ext.refl _),Nat.zero_le _,Ki⟩
 rintro k ρj w4 ⟨E4,hk,hn⟩
 by_cases hlt:k < (arr p 0).length
 ·have hm:=Xy hp.gr hp.1 (List.getElem_mem hlt)
  have hgk:(ints (arr p 0))[k]'Ka=((arr p 0)[k]:Int):=Xz hlt
  have hnk:Nod p ((arr p 0)[k]:Nat):=⟨hp,Ka,Ka⟩
  have k4 : ∀ (w:World) (v u:Value),ESl Ints w v p→ESl Ints w u q→Does Tryz.prog 121 [v,.int .i64 ((ints (arr p 0))[k]'Ka),u,.int .i64 0] w (Ret w (.bool (decide (Bis p (arr p 0)[k] q 0)))):=fun w v u h h'=>by
   have:=Sc w v u p q h h' ((arr p 0)[k]:Nat) 0 hnk hN'
   rw [hgk];exact this
  by_cases hB:Bis p (arr p 0)[k] q 0
  ·rw [decide_eq_true hB] at k4
   focus
    refine Zq<|Zp<|Zu Z<|Vb u1 Z<|Vk Kn Z (Owned.read hO1)<|Vi Z<|Zn<|Zs Z (fun h3=>?_) (fun h3=>?_);refine Zv<|Zq<|Zw<|Zp<|Vb v Z<|Vb u1 Z<|Zu Z<|Yb Kn Kl Km Z (fun _=>Z) Z (Owned.read hO1) E4 Z Kf ?_;rintro _ _ rfl;refine Vb u Z<|Zu Z<|Zr Z (Qz (a:=v) (b:=.int _ _) (c:=u) (d:=.int _ _) Gu Z Z Z Z) (k4 _ _ _ ((Mono.mono exq h)) ((Mono.mono exq h'))) ?_;rintro _ w5 ⟨rfl,E5⟩;refine Zn<|Vv Z ?_;refine Zp<|Zz Z<|Zn<|Zy ?_;refine Ve (v:=.bool _) Z ?_;refine ⟨congrArg Value.bool ?_,exq⟩;rotate_left;(exfalso;omega)
   exact (List.any_eq_true.2 ⟨_,List.getElem_mem hlt,decide_eq_true hB⟩).symm
  ·rw [decide_eq_false hB] at k4
   focus
    refine Zq<|Zp<|Zu Z<|Vb u1 Z<|Vk Kn Z (Owned.read hO1)<|Vi Z<|Zn<|Zs Z (fun h3=>?_) (fun h3=>?_);refine Zv<|Zq<|Zw<|Zp<|Vb v Z<|Vb u1 Z<|Zu Z<|Yb Kn Kl Km Z (fun _=>Z) Z (Owned.read hO1) E4 Z Kf ?_;rintro _ _ rfl;refine Vb u Z<|Zu Z<|Zr Z (Qz (a:=v) (b:=.int _ _) (c:=u) (d:=.int _ _) Gu Z Z Z Z) (k4 _ _ _ ((Mono.mono exq h)) ((Mono.mono exq h'))) ?_;rintro _ w5 ⟨rfl,E5⟩;refine Zn<|Zx Z ?_;refine Zv<|Vf<|Zu Z<|Vr Z<|Vg Z<|Zn ?_;rotate_left;(exfalso;omega)
   refine ⟨(k+1),Kg,Kh,?_,?_⟩
   ·refine ⟨by exact (E4.trans E5),Ka,?_⟩
    rw [Yd _ _ hlt,List.any_append,hn]
    simp [hB]
   ·omega
 ·obtain rfl:k=(arr p 0).length:=by omega
  rw [List.take_length] at hn
  focus
   refine Zq<|Zp<|Zu Z<|Vb u1 Z<|Vk Kn Z (Owned.read hO1)<|Vi Z<|Zn<|Zt Z fun h3=>?_;refine Vw ?_;refine Vd ?_;refine Zp<|Zz Z<|Zn<|Zy ?_;refine Ve (v:=.bool _) Z ?_;refine ⟨congrArg Value.bool ?_,exq⟩
  exact hn.symm
theorem spec_ManyIn_ok (w:World) (v:Value) (p:List (List Int)) (h:ESl Ints w v p) (hp:Pic p):Does Tryz.prog 65 [v,.int .i64 0] w (Ret w (.int .i64 (manyV p 0:Int))):=by
 have hN:Nod p 0:=⟨hp,Kc,by have:=hp.1;omega⟩
 have k1 : ∀ (w:World) (v:Value),ESl Ints w v p→Does Tryz.prog 118 [v,.int .i64 0] w (Ret w (.bool true)):=fun w v h=>by
  have:=Qs w v p h 0;rwa [decide_eq_true hN] at this
 have k3 : ∀ (w:World) (v:Value),ESl Ints w v p→Does Tryz.prog 119 [v,.int .i64 0] w (RetO w XI (ints (arr p 0))):=fun w v h=>Te w v p h hp.gr 0 hp.1
 have hal:=Mh hp.gr hp.1
 have hail:=Yy (arr p 0)
 have hp5:=hp.2.1
 refine Vh Tryz.func65 Z Tryz.results65 Tryz.ntmps65 Z ?_
 focus
  refine Zp<|Vg Z<|Zn<|Zq<|Zp<|Vb v Z<|Zu Z<|Zr Z (Yg (a:=v) (b:=.int _ _) Gb Z Z) (k1 _ _ (h)) ?_;rintro _ w1 ⟨rfl,E1⟩;refine Ym Z<|Zn<|Xa Z fun h1=>?_;refine Zv<|Zp<|Vb v Z<|Zu Z<|Zr Z (Yg (a:=v) (b:=.int _ _) Zc Z Z) (k3 _ _ ((Mono.mono E1 h))) ?_;rintro u1 w2 ⟨E2,hO1⟩;refine Yr u1 Z<|Zn<|Zq<|Vf<|Vg Z<|Zn<|Zq<|Zp<|Vg Z<|Zn<|Zw ?_
 refine Vy [6,7,8,9,17,18,19,20,21,22,23,24,25,26,27,28,29,30,31,32,33,34,35,36,37,38,39,40] (fun ((k,L):Nat × List Nat)=>[(7,.int .i64 (k:Nat)),(6,.int .i64 (L.length:Nat))]) (fun (k,L) w'=>Ext w2 w'∧k≤(arr p 0).length∧L.length≤k∧Mny p ((arr p 0).take k) L) (fun x=>(arr p 0).length - x.1) (0,[]) Kg ?_ ?_
 ·exact ⟨by exact (Ext.refl _),Nat.zero_le _,Ki,by simpa using Mny.zero⟩
 rintro ⟨k,L⟩ ρj w4 ⟨E4,hk,hL,hM⟩
 by_cases hlt:k < (arr p 0).length
 ·have hm:=Xy hp.gr hp.1 (List.getElem_mem hlt)
  have hgk:(ints (arr p 0))[k]'Ka=((arr p 0)[k]:Int):=Xz hlt
  focus
   refine Zq<|Zp<|Zu Z<|Vb u1 Z<|Vk Kn Z (Owned.read hO1)<|Vi Z<|Zn<|Zs Z (fun h2=>?_) (fun h2=>?_);refine Zv<|Zq<|Zw<|Zp<|Vg Z<|Zn<|Zq<|Zp<|Vg Z<|Zn<|Zw ?_;rotate_left;(exfalso;omega)
  refine Vy [8,9,23,24,25,26,27,28,29,30,31,32,33,34,35,36,37] (fun ((j,f):Nat × Bool)=>[(9,.int .i64 (j:Nat)),(8,.int .i64 (if f then 1 else 0))]) (fun (j,f) w'=>Ext w2 w'∧j≤k∧f=decide (∀ x ∈ (arr p 0).take j,knd p x≠knd p (arr p 0)[k])) (fun x=>k - x.1) (0,true) Kg ?_ ?_
  ·exact ⟨by exact E4,Nat.zero_le _,Ki⟩
  rintro ⟨j,f⟩ ρk w5 ⟨E5,hj,hf⟩
  by_cases hjk:j < k
  ·have hmj:=Xy hp.gr hp.1 (List.getElem_mem (show j < (arr p 0).length by omega))
   have hgj:(ints (arr p 0))[j]'Ka=((arr p 0)[j]:Int):=Xz Ka
   have k4 : ∀ (w:World) (v:Value),ESl Ints w v p→Does Tryz.prog 120 [v,.int .i64 ((ints (arr p 0))[j]'Ka),.int .i64 ((ints (arr p 0))[k]'Ka)] w (Ret w (.bool (decide (knd p (arr p 0)[j]=knd p (arr p 0)[k])))):=fun w v h=>by
    have:=spec_SameAt_ok w v p h ((arr p 0)[j]:Nat) ((arr p 0)[k]:Nat)
    rw [hgj,hgk]
    have e:smV p ((arr p 0)[j]:Nat) ((arr p 0)[k]:Nat)=decide (knd p (arr p 0)[j]=knd p (arr p 0)[k]):=by
     have h1:Nod p ((arr p 0)[j]:Nat):=⟨hp,Ka,Ka⟩
     have h2:Nod p ((arr p 0)[k]:Nat):=⟨hp,Ka,Ka⟩
     unfold smV
     rw [decide_eq_true h1,decide_eq_true h2,Bool.true_and,Bool.true_and,Int.toNat_natCast,Int.toNat_natCast,Bool.eq_iff_iff,decide_eq_true_iff,knd_eq_iff Ka Ka]
     rfl
    rw [← e];exact this
   by_cases hB:knd p (arr p 0)[j]=knd p (arr p 0)[k]
   ·rw [decide_eq_true hB] at k4
    focus
     refine Zq<|Zp<|Zu Z<|Zu Z<|Vi Z<|Zn<|Zs Z (fun h3=>?_) (fun h3=>?_);refine Zv<|Zq<|Zw<|Zq<|Xx Xr Kb Z ?_;refine Qj v Z<|Qj u1 Z<|Rf Z<|Xn Kn Kl Km Z (fun _=>Z) Z (Owned.read hO1) E5 Z Kf ?_;rintro _ _ rfl;refine Qj u1 Z<|Rf Z<|Xn Kn Kl Km Z (fun _=>Z) Z (Owned.read hO1) E5 Z Kf ?_;rintro _ _ rfl;refine Ut Z (fun _ _=>Ud (a:=v) (b:=.int _ _) (c:=.int _ _) Tryz.call120 Z Z Z) (fun w' hw'=>(k4 _ _ ((Mono.mono exq h)))) ?_;refine Xu (fun w3 E3=>?_);refine Vv Z ?_;refine Vf<|Vg Z<|Zn<|Vf<|Zu Z<|Vr Z<|Vg Z<|Zn ?_
     rotate_left;(exfalso;omega)
    refine ⟨((j+1,false)),Kg,Kh,?_,?_⟩
    ·refine ⟨by exact (E5.trans E3),Ka,(decide_eq_false fun h=>?_).symm⟩
     rw [Yd _ _ Ka] at h
     exact h _ (List.mem_append_right _ (List.mem_singleton.2 rfl)) hB
    ·simp only;omega
   ·rw [decide_eq_false hB] at k4
    focus
     refine Zq<|Zp<|Zu Z<|Zu Z<|Vi Z<|Zn<|Zs Z (fun h3=>?_) (fun h3=>?_);refine Zv<|Zq<|Zw<|Zq<|Xx Xr Kb Z ?_;refine Qj v Z<|Qj u1 Z<|Rf Z<|Xn Kn Kl Km Z (fun _=>Z) Z (Owned.read hO1) E5 Z Kf ?_;rintro _ _ rfl;refine Qj u1 Z<|Rf Z<|Xn Kn Kl Km Z (fun _=>Z) Z (Owned.read hO1) E5 Z Kf ?_;rintro _ _ rfl;refine Ut Z (fun _ _=>Ud (a:=v) (b:=.int _ _) (c:=.int _ _) Tryz.call120 Z Z Z) (fun w' hw'=>(k4 _ _ ((Mono.mono exq h)))) ?_;refine Xu (fun w3 E3=>?_);refine Zx Z ?_;refine Zv<|Vf<|Zu Z<|Vr Z<|Vg Z<|Zn ?_;rotate_left
     (exfalso;omega)
    refine ⟨((j+1,f)),Kg,Kh,?_,?_⟩
    ·refine ⟨by exact (E5.trans E3),Ka,?_⟩
     rw [hf,Yd _ _ Ka,decide_eq_decide]
     constructor
     ·intro h x hx
      rcases List.mem_append.1 hx with hx | hx
      ·exact h x hx
      ·rw [List.mem_singleton.1 hx];exact hB
     ·exact fun h x hx=>h x (List.mem_append_left _ hx)
    ·simp only;omega
  ·obtain rfl:j=k:=by omega
   cases f
   ·have hin:knd p (arr p 0)[j] ∈ L:=by
     have:=of_decide_eq_false hf.symm
     rw [hM.mem]
     refine Classical.byContradiction fun h=>this fun x hx e=>h ⟨x,hx,e⟩
    focus
     refine Zq<|Zp<|Zu Z<|Zu Z<|Vi Z<|Zn<|Zt Z fun h3=>?_;refine Vw ?_;refine Vd ?_;refine Vf<|Zu Z<|Zu Z<|Vr Z<|Vg Z<|Zn<|Vf<|Zu Z<|Vr Z<|Vg Z<|Zn ?_
    refine ⟨(j+1,L),⟨rfl,congrArg (Value.int .i64) Ki,trivial⟩,Kh,⟨by exact E5,Ka,Ka,?_⟩,Kj⟩
    rw [Yd _ _ hlt]
    exact hM.skip hin
   ·have hin:knd p (arr p 0)[j] ∉ L:=by
     have:=of_decide_eq_true hf.symm
     rw [hM.mem]
     rintro ⟨x,hx,e⟩
     exact this x hx e
    focus
     refine Zq<|Zp<|Zu Z<|Zu Z<|Vi Z<|Zn<|Zt Z fun h3=>?_;refine Vw ?_;refine Vd ?_;refine Vf<|Zu Z<|Zu Z<|Vr Z<|Vg Z<|Zn<|Vf<|Zu Z<|Vr Z<|Vg Z<|Zn ?_
    refine ⟨(j+1,L++[knd p (arr p 0)[j]]),⟨rfl,congrArg (Value.int .i64) Ki,trivial⟩,Kh,⟨by exact E5,Ka,by simp;omega,?_⟩,Kj⟩
    rw [Yd _ _ hlt]
    exact hM.step hin
 ·obtain rfl:k=(arr p 0).length:=by omega
  rw [List.take_length] at hM
  have:=hM.many hp.gr hp.1
  focus
   refine Zq<|Zp<|Zu Z<|Vb u1 Z<|Vk Kn Z (Owned.read hO1)<|Vi Z<|Zn<|Zt Z fun h2=>?_;refine Vw ?_;refine Vd ?_;refine Zp<|Zu Z<|Vg Z<|Zn<|Zy ?_;refine Ve (v:=.int _ _) Z ?_;refine ⟨congrArg (Value.int .i64) ?_,exq⟩
  rw [this]
end Go.Proofs.YtbgpppaljpngmaaGreatDoor
namespace Go.Hs
inductive Fm where
 | t
 | neg (f:Fm)
 | S (f:Fm)
 | A (f:Fm)
 | and (f g:Fm)
 | or (f g:Fm)
 deriving DecidableEq,Inhabited
namespace Fm
def enc:Fm→List UInt8
 | t=>[116]
 | neg f=>33::enc f
 | S f=>83::enc f
 | A f=>65::enc f
 | and f g=>40::(enc f++38::(enc g++[41]))
 | or f g=>40::(enc f++124::(enc g++[41]))
theorem enc_pos (f:Fm):0 < f.enc.length:=by cases f <;> simp [enc]
theorem enc_inj : ∀ (f g:Fm) (r r':List UInt8),f.enc++r=g.enc++r'→f=g∧r=r':=by
 intro f
 induction f with
 | t=>intro g r r' h;cases g <;> simp_all [enc]
 | neg f ih=>intro g r r' h;cases g <;> simp [enc] at h;obtain ⟨rfl,rfl⟩:=ih _ _ _ h;exact ⟨rfl,rfl⟩
 | S f ih=>intro g r r' h;cases g <;> simp [enc] at h;obtain ⟨rfl,rfl⟩:=ih _ _ _ h;exact ⟨rfl,rfl⟩
 | A f ih=>intro g r r' h;cases g <;> simp [enc] at h;obtain ⟨rfl,rfl⟩:=ih _ _ _ h;exact ⟨rfl,rfl⟩
 | and f1 f2 ih1 ih2 =>
   intro g r r' h
   cases g <;> simp [enc] at h
   · obtain ⟨rfl, h⟩ := ih1 _ _ _ h
     simp at h
     obtain ⟨rfl, h⟩ := ih2 _ _ _ h
     simp at h
     exact ⟨rfl, h⟩
   · obtain ⟨rfl, h⟩ := ih1 _ _ _ h
     simp at h
 | or f1 f2 ih1 ih2 =>
   intro g r r' h
   cases g <;> simp [enc] at h
   · obtain ⟨rfl, h⟩ := ih1 _ _ _ h
     simp at h
   · obtain ⟨rfl, h⟩ := ih1 _ _ _ h
     simp at h
     obtain ⟨rfl, h⟩ := ih2 _ _ _ h
     simp at h
     exact ⟨rfl, h⟩
end Fm
open Classical in
noncomputable def pre (l:List UInt8):Option (Fm × List UInt8) :=
 if h : ∃ p:Fm × List UInt8,l=p.1.enc++p.2 then some (Classical.choose h) else none
theorem Sg {l:List UInt8} {f:Fm} {r:List UInt8} (h:l=f.enc++r):pre l=some (f,r):=by
 have hx : ∃ p:Fm × List UInt8,l=p.1.enc++p.2:=⟨(f,r),h⟩
 unfold pre
 rw [dif_pos hx]
 have hs:=Classical.choose_spec hx
 generalize Classical.choose hx=p at hs
 obtain ⟨g,r'⟩:=p
 obtain ⟨rfl,rfl⟩:=Fm.enc_inj _ _ _ _ (h.symm.trans hs)
 rfl
theorem Qa {l:List UInt8} {f:Fm} {r:List UInt8} (h:pre l=some (f,r)):l=f.enc++r:=by
 unfold pre at h
 split at h
 ·rename_i hx
  have hs:=Classical.choose_spec hx
  simp only [Option.some.injEq] at h
  rw [h] at hs
  exact hs
 ·cases h
theorem Tz {l:List UInt8} (h : ∀ f r,l≠Fm.enc f++r):pre l=none:=by
 unfold pre
 rw [dif_neg]
 rintro ⟨⟨f,r⟩,e⟩
 exact h f r e
theorem Si {l:List UInt8} (h:pre l=none) (f:Fm) (r:List UInt8):l≠f.enc++r:=fun e=>by rw [Sg e] at h;cases h
theorem pre_nil:pre []=none:=Tz fun f r h=>by have:=congrArg List.length h;have:=f.enc_pos;simp at *;omega
theorem pre_t (r:List UInt8):pre (116::r)=some (.t,r):=Sg rfl
theorem pre_neg {r r':List UInt8} {f:Fm} (h:pre r=some (f,r')):pre (33::r)=some (.neg f,r'):=Sg (by rw [Qa h];rfl)
theorem pre_S {r r':List UInt8} {f:Fm} (h:pre r=some (f,r')):pre (83::r)=some (.S f,r'):=Sg (by rw [Qa h];rfl)
theorem pre_A {r r':List UInt8} {f:Fm} (h:pre r=some (f,r')):pre (65::r)=some (.A f,r'):=Sg (by rw [Qa h];rfl)
theorem pre_un_none {c:UInt8} {r:List UInt8} (h:pre r=none) (hc:c=33∨c=83∨c=65):pre (c::r)=none:=Tz fun f r' e=>by
 cases f <;> simp [Fm.enc] at e
 ·obtain ⟨rfl,_⟩:=e;simp at hc
 ·exact Si h _ _ e.2
 ·exact Si h _ _ e.2
 ·exact Si h _ _ e.2
 ·obtain ⟨rfl,_⟩:=e;simp at hc
 ·obtain ⟨rfl,_⟩:=e;simp at hc
theorem pre_other {c:UInt8} {r:List UInt8} (h:c≠116∧c≠33∧c≠83∧c≠65∧c≠40):pre (c::r)=none:=Tz fun f r' e=>by
 cases f <;> simp [Fm.enc] at e <;> simp_all
theorem pre_and {r r2 r3:List UInt8} {f g:Fm} (h1:pre r=some (f,38::r2)) (h2:pre r2=some (g,41::r3)):pre (40::r)=some (.and f g,r3) :=
 Sg (by rw [Qa h1,Qa h2];simp [Fm.enc])
theorem pre_or {r r2 r3:List UInt8} {f g:Fm} (h1:pre r=some (f,124::r2)) (h2:pre r2=some (g,41::r3)):pre (40::r)=some (.or f g,r3) :=
 Sg (by rw [Qa h1,Qa h2];simp [Fm.enc])
theorem pre_br1 {r:List UInt8} (h:pre r=none):pre (40::r)=none:=Tz fun f r' e=>by
 cases f <;> simp [Fm.enc] at e
 ·exact Si h _ _ e
 ·exact Si h _ _ e
theorem pre_br2 {r r1:List UInt8} {f:Fm} (h:pre r=some (f,r1)) (h1 : ∀ c r2,r1=c::r2→c≠38∧c≠124):pre (40::r)=none:=Tz fun g r' e=>by
 cases g <;> simp [Fm.enc] at e
 ·rw [Sg e] at h
  simp at h
  obtain ⟨_,rfl⟩:=h
  exact (h1 _ _ rfl).1 rfl
 ·rw [Sg e] at h
  simp at h
  obtain ⟨_,rfl⟩:=h
  exact (h1 _ _ rfl).2 rfl
theorem pre_br3 {r r2:List UInt8} {f:Fm} {c:UInt8} (h:pre r=some (f,c::r2)) (h2:pre r2=none):pre (40::r)=none:=Tz fun g r' e=>by
 cases g <;> simp [Fm.enc] at e
 all_goals
  rw [Sg e] at h
  simp at h
  obtain ⟨_,_,rfl⟩:=h
  exact Si h2 _ _ rfl
theorem pre_br4 {r r2 r3:List UInt8} {f g:Fm} {c:UInt8} (h:pre r=some (f,c::r2)) (h2:pre r2=some (g,r3)) (h3 : ∀ r4,r3≠41::r4):pre (40::r)=none:=Tz fun k r' e=>by
 cases k <;> simp [Fm.enc] at e
 all_goals
  rw [Sg e] at h
  simp at h
  obtain ⟨_,_,rfl⟩:=h
  rw [Sg rfl] at h2
  simp at h2
  exact h3 _ h2.2.symm
noncomputable def theF (s:List UInt8):Option Fm :=
 if s.length≤60 then match pre s with
  | some (f,[])=>some f
  | _=>none
 else none
theorem theF_some {s:List UInt8} {f:Fm} : theF s=some f↔s=f.enc∧s.length≤60:=by
 unfold theF
 split
 ·rename_i hl
  constructor
  ·intro h
   split at h
   ·rename_i g hp
    simp at h
    subst h
    have:=Qa hp
    simp at this
    exact ⟨this,hl⟩
   ·cases h
  ·rintro ⟨rfl,_⟩
   rw [Sg (f:=f) (r:=[]) Ki]
 ·rename_i hl
  constructor
  ·intro h;cases h
  ·intro h;exact absurd h.2 hl
theorem theF_long {s:List UInt8} (h:60 < s.length):theF s=none:=by unfold theF;rw [if_neg Ka]
noncomputable def endV (l:List UInt8) (n:Nat):Int:=match pre l with
 | some (_,r)=>((n - r.length:Nat):Int)
 | none=>-1
end Go.Hs
