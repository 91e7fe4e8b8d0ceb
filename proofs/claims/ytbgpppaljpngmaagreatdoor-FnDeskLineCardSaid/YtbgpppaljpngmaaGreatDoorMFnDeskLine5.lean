/- Lemmas for FnDeskLine. -/
import Derived.Test.YtbgpppaljpngmaaGreatDoorMFnDeskLine4
import Derived.Laws.StructEq
import Derived.Tactics
import Derived.Tactics2
namespace Go.Proofs.YtbgpppaljpngmaaGreatDoor
open Go.Hs
set_option maxRecDepth 10000
set_option maxHeartbeats 4000000
set_option linter.unusedVariables false
set_option linter.unusedSimpArgs false
theorem doV_none {d:Dsk} {a:Deed} (h1 : ¬isBack d a) (h2:nextV d.now a=none):doV d a=(d,false):=by
 unfold doV;rw [if_neg h1,h2]
theorem madeV_t {p:List (List Int)} {k n:Int} {t:List UInt8} (h : ¬(k=1∨k=2∨t=[])):madeV p ⟨k,t,n⟩=none:=by
 simp only [madeV]
 rw [if_neg (fun e=>h (.inr (.inr e.2.1))),if_neg (fun e=>h (.inl e.1)),if_neg (fun e=>h (.inr (.inl e.1))),if_neg (fun e=>h (.inr (.inr e.2.1)))]
theorem madeV_n {p:List (List Int)} {k n:Int} {t:List UInt8} (h : ¬(k=3∨n=0)):madeV p ⟨k,t,n⟩=none:=by
 simp only [madeV]
 rw [if_neg (fun e=>h (.inr e.2.2)),if_neg (fun e=>h (.inr e.2)),if_neg (fun e=>h (.inr e.2)),if_neg (fun e=>h (.inl e.1))]
open Classical in
theorem deskDo_ok (w:World) (hM:EMx gMx w (.bool true) ()) (u1 u2:Value) (d:Dsk) (h1:ESl Ints w u1 d.now) (h2:ESl (ESl Ints) w u2 d.past) (hd:DkOk d) (k n:Int) (t:List UInt8) (ht:t.length≤1048576) :
  Dz 92 [.agg #[u1,u2],.agg #[.int .i64 k,str t,.int .i64 n]] w (RetDkB w 23 88 3 (doV d ⟨k,t,n⟩).1.now (doV d ⟨k,t,n⟩).1.past (doV d ⟨k,t,n⟩).2):=by
 obtain ⟨p,pp⟩:=d
 have hle:=h2.le
 have i1:isCell u1=true:=Qy h1
 have i2:isCell u2=true:=Qy h2
 simp only at h1 h2 hle
 have hpp:Pic p:=hd.1.1
 have hppl:pp.length≤8:=hd.2.1
 have bnd : ∀ q,Pic q→q.length≤100∧∀ r ∈ q,r.length≤100:=fun q hq=>⟨by have:=hq.2.1;omega,fun r hr=>by rw [(hq.2.2 r hr).1];have:=hq.2.1;omega⟩
 have H2 : ∀ q ∈ pp,q.length≤100∧∀ r ∈ q,r.length≤100:=fun q hq=>bnd q (hd.2.2 q hq).1
 have k1 : ∀ w,ESl Ints w u1 p→ESl (ESl Ints) w u2 pp→Dz 77 [.agg #[u1,u2]] w (RetDk w 23 88 3 p pp):=fun w h1 h2=>Np w u1 u2 p pp h1 h2 (bnd p hpp) Kh H2
 refine Tj Tryz.func92 Z Tryz.results92 Tryz.ntmps92 Z Jq Jj ?_
 by_cases hA:k=1∨k=2∨t=[]
 ·by_cases hB:k=3∨n=0
  ·by_cases h4:k=4
   ·subst h4
    have et:t=[]:=by rcases hA with h | h | h;exact absurd h Kj;exact absurd h Kj;exact h
    have en:n=0:=by rcases hB with h | h;exact absurd h Kj;exact h
    subst et en
    by_cases hpl:pp=[]
    ·have hdo:doV ⟨p,pp⟩ ⟨4,[],0⟩=(⟨p,pp⟩,false):=doV_none (fun h=>h.2 hpl) (by simp [nextV,madeV])
     have hpl0:pp.length=0:=by rw [hpl];rfl
     rw [hdo]
     focus
      refine Vr<|Xu Z Z Z ?_;rintro b1 w1 H1 E1 B1;have:=B1.lt;refine Xu Z Z Z ?_;rintro b2 w2 H3 E2 B2;have:=B2.lt;refine Xk Z Ug ?_;rintro b3 w3 H4 E3 B3;have:=B3.lt;have:=E3.Z;refine Ya Z<|Vp<|Vr<|Uh Jq Jj (B1.J exq) Z<|Vs Z (Xh (a:=.agg _) Zp Z) (k1 _ (Ku exq h1) (Ku exq h2)) ?_;rintro _ w4 ⟨u3,q1,m1,rfl,E4,O1,R1,J1,hn1⟩;have V3:=Kx O1;have N1:=Kx (Je R1);have:=E4.Z;refine Xk Z Ug ?_;rintro b4 w5 H5 E5 B4;have:=B4.lt;refine Uu Z Jj Z Z Kl Kl B4 Kh ((((E1.K E2).K E3).K E4).K E5) ?_;rintro w6 E6 B4 K1 Z1;have B2:=(B2.J exq).Y (K1 _ Kh)
      have B3:=(B3.J exq).Y (K1 _ Kh);have O1:=(O1.J E5).W K1 Kh;have R1:=(R1.toB.J E5).W K1 Kh;refine Vp<|Vr<|Yl Jn Ji Z<|Xx Jk B2 Z<|Yo Z<|Ui Z fun h3=>?_;refine Yl Jn Ji Z<|Xx Jk B2 Z<|Yo Z<|Xb Z<|Ya Z<|Vp<|Vt<|Vr<|Xp Z<|Xz Z<|Qv Z (fun h4=>?_) (fun h4=>?_);refine Yl Jn Jo Z<|Qx Jp B2 Z<|Wo Z (Uo Z Z)<|Xy Z<|WspndecF Z fun h5=>?_;refine Yl Jn Ji Z<|Xx Jk B2 Z<|Qg Z<|Qv Z (fun h6=>?_) (fun h6=>?_)
      refine Yl Jn Ji Z<|Xx Jk B2 Z<|Qg Z<|Xy Z<|Xb Z<|Vp<|Sh Z fun h7=>?_;refine Vw<|Vt<|Vr<|Yl Jn Ji Z<|Xx Jk B2 Z<|Yo Z<|Vp<|Vu Z (fun h8=>?_) (fun h8=>?_);refine Vt<|Vr<|Yl Jt Ga Z<|Xw q1 Gd B4 Z<|Ys Gc Z (Kw R1)<|Yo Z<|Vp<|Vu Z (fun h9=>?_) (fun h9=>?_);refine Vr<|Uh Jq Jj B4 Z<|Uw Jj B3 Z E6 ?_;rintro w7 E11 B3 K2 Z2;have O1:=O1.W K2 Kh;have R1:=R1.W K2 Kh;refine Ya Z<|Vp<|Vy ?_;rotate_left;exact Kt;exact Ks;exact Ks;exact Ks
     exact ⟨b3,u3,q1,rfl,B3,u3,q1,m1,rfl,by exact E11,O1.wide Kh (Kz _),R1.o,Kh,Kh⟩
    ·have hpl0:0 < pp.length:=List.length_pos_iff.2 hpl
     have hdo:doV ⟨p,pp⟩ ⟨4,[],0⟩=(⟨pp.getLastD [],pp.dropLast⟩,true):=by unfold doV;rw [if_pos ⟨rfl,hpl⟩]
     rw [hdo]
     simp only
     have stop8:True:=trivial
     focus
      refine Vr<|Xu Z Z Z ?_;rintro b1 w1 H1 E1 B1;have:=B1.lt;refine Xu Z Z Z ?_;rintro b2 w2 H3 E2 B2;have:=B2.lt;refine Xk Z Ug ?_;rintro b3 w3 H4 E3 B3;have:=B3.lt;refine Ya Z<|Vp<|Vr<|Uh Jq Jj (B1.J exq) Z<|Vs Z (Xh (a:=.agg _) Zp Z) (k1 _ (Ku exq h1) (Ku exq h2)) ?_;rintro _ w4 ⟨u3,q1,m1,rfl,E4,O1,R1,J1,hn1⟩;have V3:=Kx O1;have N1:=Kx (Je R1);have cpq1:=OwnedB.capOk (Je R1);have:=E4.Z;refine Xk Z Ug ?_;rintro b4 w5 H5 E5 B4;have:=B4.lt;refine Uu Z Jj Z Z Kl Kl B4 Kh ((((E1.K E2).K E3).K E4).K E5) ?_;rintro w6 E6 B4 K1 Z1
      have E7:=(((E2.K E3).K E4).K E5).A exq E6 K1 Z1 Kh;have E8:=((E3.K E4).K E5).A exq E6 K1 Z1 Kh;have E9:=(E4.K E5).A exq E6 K1 Z1 Kh;have:=E9.Z;have E10:=E5.A exq E6 K1 Z1 Kh;have:=E10.Z;have B1:=(B1.J exq).Y (K1 _ Kh);have B2:=(B2.J exq).Y (K1 _ Kh);have B3:=(B3.J exq).Y (K1 _ Kh);have O1:=(O1.J E5).W K1 Kh;have R1:=(R1.toB.J E5).W K1 Kh;refine Vp<|Vr<|Yl Jn Ji Z<|Xx Jk B2 Z<|Yo Z<|Ui Z fun h3=>?_;refine Yl Jn Ji Z<|Xx Jk B2 Z<|Yo Z<|Xb Z<|Ya Z<|Vp<|Vt<|Vr<|Xp Z<|Xz Z<|Qv Z (fun h4=>?_) (fun h4=>?_)
      refine Yl Jn Jo Z<|Qx Jp B2 Z<|Wo Z (Uo Z Z)<|Xy Z<|WspndecF Z fun h5=>?_;refine Yl Jn Ji Z<|Xx Jk B2 Z<|Qg Z<|Qv Z (fun h6=>?_) (fun h6=>?_);refine Yl Jn Ji Z<|Xx Jk B2 Z<|Qg Z<|Xy Z<|Xb Z<|Vp<|Sh Z fun h7=>?_;refine Vw<|Vt<|Vr<|Yl Jn Ji Z<|Xx Jk B2 Z<|Yo Z<|Vp<|Vu Z (fun h8=>?_) (fun h8=>?_);refine Vt<|Vr<|Yl Jt Ga Z<|Xw q1 Gd B4 Z<|Ys Gc Z (Kw R1)<|Yo Z<|Vp<|Vv Z fun h9=>?_;refine Vw<|Vt ?_;rotate_left;exact Ks;exact Ks
      exact Ks
     clear stop8 k1
     obtain ⟨qb,qc,ur,rfl,hqc,hcl,icr,hqb,hqb2,hDk⟩:=R1.backDk hpl0 Kh
     have hel:=hDk.dkNow
     have hpa:=hDk.dkPast
     have hcl:w6.cell? ⟨qb,0+((pp.length:Int) - 1).toNat,none⟩=some ur:=by rw [Nat.zero_add,show ((pp.length:Int) - 1).toNat=pp.length - 1 by omega];exact hcl
     have hlast:pp.getLastD []=pp[pp.length - 1]:=by rw [List.getLastD_eq_getLast?,List.getLast?_eq_getElem?,List.getElem?_eq_getElem Kh];rfl
     rw [hlast,List.dropLast_eq_take]
     have hbl:=hd.2.2 _ (List.getElem_mem (show pp.length - 1 < pp.length by omega))
     have k2 : ∀ (w:World),OwnedB m1 w4.heap.size (XRd (ESl Ints)) w ur pp[pp.length - 1]→OwnedB m1 w4.heap.size (XRd (ESl (ESl Ints))) w (.slice (some ⟨qb,0,none⟩) (pp.length - 1) qc) (pp.take (pp.length - 1))→Dz 77 [.agg #[ur,.slice (some ⟨qb,0,none⟩) ((pp.length:Int) - 1).toNat qc]] w (RetDk w 23 88 3 pp[pp.length - 1] (pp.take (pp.length - 1))):=fun w h1 h2=>by
      rw [show ((pp.length:Int) - 1).toNat=pp.length - 1 by omega]
      exact Np w _ _ _ _ h1.O h2.O (bnd _ hbl.1) Kg (fun q hq=>H2 q (List.mem_of_mem_take hq))
     clear hDk R1 O1
     focus
      have:=E6.Z;refine Ym<|Yl Jt Ga Z<|Rg Gd B4 Z<|Yl Jt Ga Z<|Rg Gd B4 Z<|Ys Gc Z (Kv R1)<|Sc Z<|Wo Z (Qr Gc Jx Z Z Kh) ?_;refine Wo Z (Xd Ju Z Kk) ?_;refine Yl Jt Jx Z<|Um (v:=ur) Z Jx Z Z Kk B4 (by first | decide | simp) Kh E6 ?_;rintro w7 E11 B4 K2 Z2;have E12:=E7.A E6 E11 K2 Z2 Kh;have E13:=E8.A E6 E11 K2 Z2 Kh;simp only [List.set] at B4;have B3:=B3.Y (K2 _ Kh);have R1:=(R1.toB.J E10).W K2 Kh;have hel:=hel.W K2 Kh;have hpa:=hpa.W K2 Kh
      refine Vp<|Vr<|Yl Jt Ga Z<|Rg Gd B4 Z<|Yl Jt Ga Z<|Rg Gd B4 Z<|Ys Gc Z (Kw R1)<|Sc Z<|Wo Z (So Gc Jx Z Z Kh) ?_;refine Yl Jt Ga Z<|Um (v:=.slice _ _ _) Z Ga Z Z Z B4 Kp Kh E11 ?_;rintro w8 E16 B4 K3 Z3;simp only [List.set] at B4;have B3:=B3.Y (K3 _ Kh);have hel:=hel.W K3 Kh;have hpa:=hpa.W K3 Kh;refine Vp<|Vr<|Uh Jq Jj B4 Z<|Vs Z (Xh (a:=.agg _) Zp Z) (k2 _ (hel) (hpa)) ?_;rintro _ w9 ⟨u4,q1,m2,rfl,E21,O2,R2,J2,hn2⟩;have V4:=Kx O2;have N1:=Kx (Je R2)
      refine Uw Jj (B3.J E21) Z (E16.K E21) ?_;rintro w10 E22 B3 K4 Z4;have O2:=O2.W K4 Kh;have R2:=R2.toB.W K4 Kh;refine Ya Z<|Vp<|Vy ?_
     exact ⟨b3,u4,q1,rfl,B3,u4,q1,m2,rfl,by exact E22,O2.wide Kh (Kz _),R2.o,Kh,Kh⟩
   ·have hnb : ¬isBack ⟨p,pp⟩ ⟨k,t,n⟩:=fun h=>h4 (by have:=h.1;injection this)
    have kN : ∀ (w:World),EMx gMx w (.bool true) ()→ESl Ints w u1 p→Dz 138 [u1,.agg #[.int .i64 k,str t,.int .i64 n]] w (RetOB w XR (og (madeV p ⟨k,t,n⟩)) (madeV p ⟨k,t,n⟩).isSome):=fun w hM h=>nextSet_ok w hM u1 p h hpp k n t ht hA hB
    have stop2:True:=trivial
    focus
     refine Vr<|Xu Z Z Z ?_;rintro b1 w1 H1 E1 B1;have:=B1.lt;have:=E1.Z;refine Xu Z Z Z ?_;rintro b2 w2 H3 E2 B2;have:=B2.lt;have:=E2.Z;refine Xk Z Ug ?_;rintro b3 w3 H4 E3 B3;have:=B3.lt;have:=E3.Z;refine Ya Z<|Vp<|Vr<|Uh Jq Jj (B1.J exq) Z<|Vs Z (Xh (a:=.agg _) Zp Z) (k1 _ (Ku exq h1) (Ku exq h2)) ?_;rintro _ w4 ⟨u3,q1,m1,rfl,E4,O1,R1,J1,hn1⟩;have V3:=Kx O1;have cpu3:=OwnedB.capOk O1;have N1:=Kx (Je R1);have cpq1:=OwnedB.capOk (Je R1);have:=E4.Z;refine Xk Z Ug ?_;rintro b4 w5 H5 E5 B4;have:=B4.lt;have:=E5.Z
     refine Uu Z Jj Z Z Kl Kl B4 Kh ((((E1.K E2).K E3).K E4).K E5) ?_;rintro w6 E6 B4 K1 Z1;have E7:=(((E2.K E3).K E4).K E5).A exq E6 K1 Z1 Kh;have:=E7.Z;have E8:=((E3.K E4).K E5).A exq E6 K1 Z1 Kh;have:=E8.Z;have E9:=(E4.K E5).A exq E6 K1 Z1 Kh;have:=E9.Z;have E10:=E5.A exq E6 K1 Z1 Kh;have:=E10.Z;have B1:=(B1.J exq).Y (K1 _ Kh);have B2:=(B2.J exq).Y (K1 _ Kh);have B3:=(B3.J exq).Y (K1 _ Kh);have O1:=(O1.J E5).W K1 Kh;have R1:=(R1.toB.J E5).W K1 Kh;refine Vp<|Vt ?_
    clear stop2
    refine W_mid [7,13,14,15,16,17,18,19,20] (fun x:Bool=>[(7,.bool x)]) (fun x w'=>w'=w6∧(x=true↔k=1∨k=2)) ?_ ?_
    ·focus
      refine Ym<|Yl Jn Ji Z<|Xx Jk B2 Z<|Yo Z<|Xi Z (fun h3=>?_) (fun h3=>?_);refine Vq Z<|Vq Z<|Vq Z<|Xy Z<|Ya Z<|Vp ?_;rotate_left;refine Yl Jn Ji Z<|Xx Jk B2 Z<|Yo Z<|Xb Z<|Ya Z<|Vp ?_;rotate_left
     all_goals exact ⟨_,⟨rfl,trivial⟩,Ko,rfl,by simp_all⟩
    rintro x ρ6 w6' ⟨e6,hx⟩
    have e6:=e6.symm
    subst e6
    have stop3:True:=trivial
    focus
     have:=E10.Z;have:=E9.Z;have:=E8.Z;have:=E7.Z;have:=E6.Z;have:=E5.Z;have:=E4.Z;have:=E3.Z;have:=E2.Z;have:=E1.Z;refine Vt<|Vt ?_
    clear stop3
    refine W_mid [21,22,23,24,25,26,27,28,29,30,31,32,33,34,35,36,37] (fun _:Unit=>[(37,.bool false)]) (fun _ w'=>w'=w6) ?_ ?_
    ·focus
      refine Ym<|Xp Z<|Xz Z<|Uf Z (Xj (v:=.bool _) Z) (fun h3=>?_) (fun h3=>?_);refine Yl Jn Jo Z<|Qx Jp B2 Z<|Wo Z (Uo Z Z)<|Xy Z<|Qv Z (fun h5=>?_) (fun h5=>?_);refine Vq Z<|Vq Z<|Vq Z<|Vq Z<|Vq Z<|Vq Z<|Vq Z<|Vq Z<|Xy Z<|Vp ?_;rotate_left;refine Yl Jn Ji Z<|Xx Jk B2 Z<|Qg Z<|Qv Z (fun h6=>?_) (fun h6=>?_);refine Yl Jn Ji Z<|Xx Jk B2 Z<|Qg Z<|Xy Z<|Xb Z<|Vp ?_;rotate_left;refine Vq Z<|Vq Z<|Vq Z<|Xb Z<|Xb Z<|Vp ?_;rotate_left
      refine Vq Z<|Vq Z<|Vq Z<|Xb Z<|Xp Z<|Yl Jn Ji Z<|Xx Jk B2 Z<|Qg Z<|Qv Z (fun h5=>?_) (fun h5=>?_);refine Yl Jn Ji Z<|Xx Jk B2 Z<|Qg Z<|Xy Z<|Xb Z<|Vp ?_;rotate_left;refine Vq Z<|Vq Z<|Vq Z<|Xb Z<|Xb Z<|Vp ?_;rotate_left
     all_goals first
      | exact ⟨(),⟨rfl,trivial⟩,Ko,rfl⟩
      | exact ⟨(),⟨congrArg Value.bool (by simpa using (hB.resolve_left Kk)),trivial⟩,Ko,rfl⟩
      | (exfalso;simp_all)
    rintro ⟨⟩ ρ7 w7 e7
    have e7:=e7.symm
    subst e7
    have stop11:True:=trivial
    focus
     have:=E10.Z;have:=E9.Z;have:=E8.Z;have:=E7.Z;have:=E6.Z;have:=E5.Z;have:=E4.Z;have:=E3.Z;have:=E2.Z;have:=E1.Z;refine Vx Z ?_;refine Vw<|Vt<|Vr<|Yl Jn Ji Z<|Xx Jk B2 Z<|Yo Z<|Vp<|Yt Z fun h3=>?_;refine Vw<|Vt ?_
    clear stop11
    cases hmv:madeV p ⟨k,t,n⟩ with
    | none =>
      rw [hmv, show og none = [] from rfl, show (none : Option (List (List Int))).isSome = false from rfl] at kN
      rw [doV_none hnb (by unfold nextV; rw [hmv])]
      focus
        refine Ym<|Yl Jt Jx Z<|Xw u1 Ju B1 Z<|Rk Gb Js B2 Z<|Vs Z (Xa (a := u1) (b := .agg _) Tryz.call138 Z Z) (kN _ (Ku E6 hM) (Ku E6 h1)) ?_; rintro _ w7 ⟨u4, rfl, E11, O2⟩; have := E11.Z; refine Ut Z<|Ra u4 Z<|Uz Z<|Uc u4 Z<|Ya Z<|Vp<|Vt<|Vr<|Xp Z<|Xz Z<|Uf Z (Xj (v := .bool _) Z) (fun h5 => ?_) (fun h5 => ?_); refine Vq Z<|Vq Z<|Vq Z<|Vq Z<|Xy Z<|Vp<|Xe Z ?_; refine Vr<|Uh Jq Jj (B4.J E11) Z<|Uw Jj (B3.J E11) Z (E6.K E11) ?_; rintro w8 E12 B3 K2 Z2; have O1 := (O1.J E11).W K2 Kh; have R1 := (R1.J E11).W K2 Kh; refine Ya Z<|Vp<|Vy ?_
        rotate_left; exact Ks
      exact ⟨b3, u3, q1, rfl, B3, u3, q1, m1, rfl, by exact E12, O1.wide Kh (Kz _), R1.o, Kh, Kh⟩
    | some c =>
      rw [hmv, show og (some c) = c from rfl, show (some c).isSome = true from rfl] at kN
      have hc : LeastP c := Ms hpp hmv
      have hcp := hc.1
      by_cases hcq : c = p
      · have kE : ∀ (w : World) (v u : Value), ESl Ints w v c → ESl Ints w u p → Dz 139 [v, u, .func (.func 140) [].toArray [].toArray] w (Ret w (.bool true)) := fun w v u h h' => by
          have := Lp w v u c p h h' Tryz.call140
          rwa [decide_eq_true hcq] at this
        have hnx : nextV p ⟨k, t, n⟩ = none := by unfold nextV; rw [hmv]; simp [hcq]
        rw [doV_none hnb hnx]
        focus
          refine Ym<|Yl Jt Jx Z<|Xw u1 Ju B1 Z<|Rk Gb Js B2 Z<|Vs Z (Xa (a := u1) (b := .agg _) Tryz.call138 Z Z) (kN _ (Ku E6 hM) (Ku E6 h1)) ?_; rintro _ w7 ⟨u4, rfl, E11, O2⟩; have := E11.Z; refine Ut Z<|Ra u4 Z<|Uz Z<|Uc u4 Z<|Ya Z<|Vp<|Vt<|Vr<|Xp Z<|Xz Z<|Uf Z (Xj (v := .bool _) Z) (fun h5 => ?_) (fun h5 => ?_); exact Ks; refine Yj u4 Z<|Yl Jt Jx Z<|Xw u1 Ju (B1.J E11) Z<|Vs Z (Qq (a := u4) (b := u1) (c := .func _ _ _) Tryz.call139 Z Z Z) (kE _ _ _ (Kv O2) (Ku exq h1)) ?_; rintro _ w8 ⟨rfl, E12⟩; have := E12.Z; refine Xb Z<|Vp<|Xe Z ?_
          refine Vr<|Uh Jq Jj (B4.J exq) Z<|Uw Jj (B3.J (E11.K E12)) Z ((E6.K E11).K E12) ?_; rintro w9 E13 B3 K2 Z2; have O1 := (O1.J exq).W K2 Kh; have R1 := (R1.J exq).W K2 Kh; refine Ya Z<|Vp<|Vy ?_
        exact ⟨b3, u3, q1, rfl, B3, u3, q1, m1, rfl, by exact E13, O1.wide Kh (Kz _), R1.o, Kh, Kh⟩
      · have kE : ∀ (w : World) (v u : Value), ESl Ints w v c → ESl Ints w u p → Dz 139 [v, u, .func (.func 140) [].toArray [].toArray] w (Ret w (.bool false)) := fun w v u h h' => by
          have := Lp w v u c p h h' Tryz.call140
          rwa [decide_eq_false hcq] at this
        have hnx : nextV p ⟨k, t, n⟩ = some c := by unfold nextV; rw [hmv]; simp [hcq]
        have hdo : doV ⟨p, pp⟩ ⟨k, t, n⟩ = (⟨c, last8 (pp ++ [p])⟩, true) := by unfold doV; rw [if_neg hnb]; simp only; rw [hnx]
        rw [hdo]
        simp only
        have stop15 : True := trivial
        have R0 := R1
        focus
          refine Ym<|Yl Jt Jx Z<|Xw u1 Ju B1 Z<|Rk Gb Js B2 Z<|Vs Z (Xa (a := u1) (b := .agg _) Tryz.call138 Z Z) (kN _ (Ku E6 hM) (Ku E6 h1)) ?_; rintro _ w7 ⟨u4, rfl, E11, O2⟩; have ichO2 := Kx (Je O2); have := E11.Z; refine Ut Z<|Ra u4 Z<|Uz Z<|Uc u4 Z<|Ya Z<|Vp<|Vt<|Vr<|Xp Z<|Xz Z<|Uf Z (Xj (v := .bool _) Z) (fun h5 => ?_) (fun h5 => ?_); exact Ks; refine Yj u4 Z<|Yl Jt Jx Z<|Xw u1 Ju (B1.J E11) Z<|Vs Z (Qq (a := u4) (b := u1) (c := .func _ _ _) Tryz.call139 Z Z Z) (kE _ _ _ (Kv O2) (Ku exq h1)) ?_; rintro _ w8 ⟨rfl, E12⟩; have := E12.Z; refine Xb Z<|Vp<|Vx Z ?_
          refine Vw<|Vr<|Yl Jt Ga Z<|Xw q1 Gd (B4.J exq) Z<|Yl Jt Jx Z<|Xw u3 Ju (B4.J exq) Z<|Qc Z Gc Jx Ze Z (Kx (O1.J exq)) Z ?_; rintro b5 w9 H6 E13 B5 Y5; have := B5.lt; have := E13.Z; refine Wo_app1r Z el24 Z Z B5 (R0.J ((E11.K E12).K E13)) (O1.J ((E11.K E12).K E13)) Km Kh Kh (((E6.K E11).K E12).K E13) Kh ?_; have T1 := (R0.J ((E11.K E12).K E13)); rintro v1 w10 R0 E14 M1; have E17 := M1.J T1 (((E9.K E11).K E12).K E13) Kh; have := E17.Z; have B3 := (B3.J exq).moves M1 T1 Kh; have O2 := (O2.toB.J exq).moves M1 T1 Kh; have := M1.1.size
          have icv1 := Kx (Je R0); refine Uc v1 Z<|Vp<|Vt<|Vt ?_
        clear stop15
        obtain ⟨nb, nc, rfl, hnc⟩ := R0.lit Kp
        have hnl : (pp ++ [p]).length = pp.length + 1 := Kp
        rw [hnl] at R0 hnc ⊢
        have hR : ESl (ESl Ints) w10 (.slice (some ⟨nb, 0, none⟩) (pp.length + 1) nc) (pp ++ [p]) := R0.O
        have hbn : ∀ q ∈ pp ++ [p], q.length ≤ 100 ∧ ∀ r ∈ q, r.length ≤ 100 := fun q hq => by
          rcases List.mem_append.1 hq with hq | hq
          · exact H2 q hq
          · rw [List.mem_singleton.1 hq]; exact bnd p hpp
        clear R0 R1 kN kE k1 M1 T1 icv1
        by_cases hl8 : pp.length + 1 ≤ 8
        · have kC : ∀ (w : World), ESl Ints w u4 c → ESl (ESl Ints) w (.slice (some ⟨nb, 0, none⟩) (pp.length + 1) nc) (pp ++ [p]) → Dz 77 [.agg #[u4, .slice (some ⟨nb, 0, none⟩) (pp.length + 1) nc]] w (RetDk w 23 88 3 c (last8 (pp ++ [p]))) := fun w h1 h2 => by
            rw [show last8 (pp ++ [p]) = pp ++ [p] from if_neg Kh]
            exact Np w _ _ _ _ h1 h2 (bnd c hcp) Kh hbn
          focus
            have := E14.Z; refine Ym<|Ri Z<|Ys Gc Z hR<|Qo Z<|Vp<|Vv Z fun h6 => ?_; refine Vw<|Vr<|Yj u4 Z<|Ri Z<|Wo Z (opv_build2 Ug Z (by first | assumption | rfl) (by first | assumption | rfl)) ?_; refine Vs Z (Xh (a := .agg _) Zp Z) (kC _ (Kw O2) (hR)) ?_; rintro _ w11 ⟨u5, q2, m2, rfl, E18, O3, R2, J2, hn2⟩; have V5 := Kx O3; have N2 := Kx (Je R2); refine Uw Jj (B3.J E18) Z (E14.K E18) ?_; rintro w12 E19 B3 K2 Z2; have O3 := O3.W K2 Kh; have R2 := R2.toB.W K2 Kh; refine Ya Z<|Vp<|Vy ?_
          exact ⟨b3, _, _, rfl, B3, _, _, m2, rfl, by exact E19, O3.wide Kh (Kz _), R2.o, Kh, Kh⟩
        · have kC : ∀ (w : World), ESl Ints w u4 c → ESl (ESl Ints) w (.slice (some ⟨nb, 0, none⟩) (pp.length + 1) nc) (pp ++ [p]) → Dz 77 [.agg #[u4, .slice (some ⟨nb, 0 + (1 : Int).toNat, none⟩) (pp.length + 1 - (1 : Int).toNat) (nc - (1 : Int).toNat)]] w (RetDk w 23 88 3 c (last8 (pp ++ [p]))) := fun w h1 h2 => by
            rw [show last8 (pp ++ [p]) = (pp ++ [p]).drop 1 from if_pos Kh]
            exact Np w _ _ _ _ h1 (h2.dropS (k := 1) Kh) (bnd c hcp) Kg (fun q hq => hbn q (List.mem_of_mem_drop hq))
          focus
            have := E14.Z; refine Ym<|Ri Z<|Ys Gc Z hR<|Qo Z<|Vp<|Vu Z (fun h6 => ?_) (fun h6 => ?_); refine Ym<|Ri Z<|Wo Z (Se Gc Jx Z Z Kh) ?_; refine Uj Z<|Vp<|Vr<|Yj u4 Z<|Ri Z<|Wo Z (opv_build2 Ug Z (by first | assumption | rfl) (by first | assumption | rfl)) ?_; refine Vs Z (Xh (a := .agg _) Zp Z) (kC _ (Kw O2) (hR)) ?_; rintro _ w11 ⟨u5, q2, m2, rfl, E18, O3, R2, J2, hn2⟩; have V5 := Kx O3; have N2 := Kx (Je R2); refine Uw Jj (B3.J E18) Z (E14.K E18) ?_; rintro w12 E19 B3 K2 Z2; have O3 := O3.W K2 Kh; have R2 := R2.toB.W K2 Kh; refine Ya Z<|Vp<|Vy ?_; rotate_left; exact Kt
          exact ⟨b3, _, _, rfl, B3, _, _, m2, rfl, by exact E19, O3.wide Kh (Kz _), R2.o, Kh, Kh⟩
  ·have hdo:doV ⟨p,pp⟩ ⟨k,t,n⟩=(⟨p,pp⟩,false):=doV_none (fun h=>hB (.inr (by have:=h.1;injection this))) (by unfold nextV;rw [madeV_n hB])
   have hk3 : ¬k=3:=fun h=>hB (.inl h)
   have hn0 : ¬n=0:=fun h=>hB (.inr h)
   rw [hdo]
   focus
    refine Vr<|Xu Z Z Z ?_;rintro b1 w1 H1 E1 B1;have:=B1.lt;refine Xu Z Z Z ?_;rintro b2 w2 H3 E2 B2;have:=B2.lt;refine Xk Z Ug ?_;rintro b3 w3 H4 E3 B3;have:=B3.lt;have:=E3.Z;refine Ya Z<|Vp<|Vr<|Uh Jq Jj (B1.J exq) Z<|Vs Z (Xh (a:=.agg _) Zp Z) (k1 _ (Ku exq h1) (Ku exq h2)) ?_;rintro _ w4 ⟨u3,q1,m1,rfl,E4,O1,R1,J1,hn1⟩;have V3:=Kx O1;have N1:=Kx (Je R1);have:=E4.Z;refine Xk Z Ug ?_;rintro b4 w5 H5 E5 B4;have:=B4.lt;refine Uu Z Jj Z Z Kl Kl B4 Kh ((((E1.K E2).K E3).K E4).K E5) ?_;rintro w6 E6 B4 K1 Z1;have B2:=(B2.J exq).Y (K1 _ Kh)
    have B3:=(B3.J exq).Y (K1 _ Kh);have O1:=(O1.J E5).W K1 Kh;have R1:=(R1.toB.J E5).W K1 Kh;refine Vp<|Vr<|Yl Jn Ji Z<|Xx Jk B2 Z<|Yo Z<|Xi Z (fun h3=>?_) (fun h3=>?_);refine Vq Z<|Vq Z<|Vq Z<|Xy Z<|Ya Z<|Vp<|Vt<|Vr<|Xp Z<|Xz Z<|Uf Z (Xj (v:=.bool _) Z) (fun h4=>?_) (fun h4=>?_);exact Ks;refine Vq Z<|Vq Z<|Vq Z<|Xb Z<|Xp Z<|Yl Jn Ji Z<|Xx Jk B2 Z<|Qg Z<|Qv Z (fun h5=>?_) (fun h5=>?_);refine Yl Jn Ji Z<|Xx Jk B2 Z<|Qg Z<|Xy Z<|Xb Z<|Vp<|Xn Z (fun h6=>?_) (fun h6=>?_)
    refine Vr<|Uh Jq Jj B4 Z<|Uw Jj B3 Z E6 ?_;rintro w7 E11 B3 K2 Z2;have O1:=O1.W K2 Kh;have R1:=R1.W K2 Kh;refine Ya Z<|Vp<|Vy ?_;rotate_left;exact Ks;exact Ks;refine Yl Jn Ji Z<|Xx Jk B2 Z<|Yo Z<|Xb Z<|Ya Z<|Vp<|Vt<|Vr<|Xp Z<|Xz Z<|Qv Z (fun h4=>?_) (fun h4=>?_);refine Yl Jn Jo Z<|Qx Jp B2 Z<|Wo Z (Uo Z Z)<|Xy Z<|Qv Z (fun h5=>?_) (fun h5=>?_);refine Vq Z<|Vq Z<|Vq Z<|Vq Z<|Vq Z<|Vq Z<|Vq Z<|Vq Z<|Xy Z<|Vp<|Xe Z ?_
    refine Vr<|Uh Jq Jj B4 Z<|Uw Jj B3 Z E6 ?_;rintro w7 E11 B3 K2 Z2;have O1:=O1.W K2 Kh;have R1:=R1.W K2 Kh;refine Ya Z<|Vp<|Vy ?_;rotate_left;refine Yl Jn Ji Z<|Xx Jk B2 Z<|Qg Z<|Qv Z (fun h6=>?_) (fun h6=>?_);refine Yl Jn Ji Z<|Xx Jk B2 Z<|Qg Z<|Xy Z<|Xb Z<|Vp<|Xn Z (fun h7=>?_) (fun h7=>?_);refine Vr<|Uh Jq Jj B4 Z<|Uw Jj B3 Z E6 ?_;rintro w7 E11 B3 K2 Z2;have O1:=O1.W K2 Kh;have R1:=R1.W K2 Kh;refine Ya Z<|Vp<|Vy ?_;rotate_left;exact Ks;exact Ks
    refine Vq Z<|Vq Z<|Vq Z<|Xb Z<|Xp Z<|Yl Jn Ji Z<|Xx Jk B2 Z<|Qg Z<|Qv Z (fun h5=>?_) (fun h5=>?_);refine Yl Jn Ji Z<|Xx Jk B2 Z<|Qg Z<|Xy Z<|Xb Z<|Vp<|Xn Z (fun h6=>?_) (fun h6=>?_);refine Vr<|Uh Jq Jj B4 Z<|Uw Jj B3 Z E6 ?_;rintro w7 E11 B3 K2 Z2;have O1:=O1.W K2 Kh;have R1:=R1.W K2 Kh;refine Ya Z<|Vp<|Vy ?_;rotate_left;exact Ks;exact Ks
   all_goals exact ⟨b3,u3,q1,rfl,B3,u3,q1,m1,rfl,Kk,O1.wide Kh (Kz _),R1.o,Kh,Kh⟩
 ·have hdo:doV ⟨p,pp⟩ ⟨k,t,n⟩=(⟨p,pp⟩,false):=doV_none (fun h=>hA (.inr (.inr (by have:=h.1;injection this)))) (by unfold nextV;rw [madeV_t hA])
  have W1 : ¬k=1:=fun h=>hA (.inl h)
  have W2 : ¬k=2:=fun h=>hA (.inr (.inl h))
  have W3 : ¬t=[]:=fun h=>hA (.inr (.inr h))
  rw [hdo]
  focus
   refine Vr<|Xu Z Z Z ?_;rintro b1 w1 H1 E1 B1;have:=B1.lt;refine Xu Z Z Z ?_;rintro b2 w2 H3 E2 B2;have:=B2.lt;refine Xk Z Ug ?_;rintro b3 w3 H4 E3 B3;have:=B3.lt;have:=E3.Z;refine Ya Z<|Vp<|Vr<|Uh Jq Jj (B1.J exq) Z<|Vs Z (Xh (a:=.agg _) Zp Z) (k1 _ (Ku exq h1) (Ku exq h2)) ?_;rintro _ w4 ⟨u3,q1,m1,rfl,E4,O1,R1,J1,hn1⟩;have V3:=Kx O1;have N1:=Kx (Je R1);have:=E4.Z;refine Xk Z Ug ?_;rintro b4 w5 H5 E5 B4;have:=B4.lt;refine Uu Z Jj Z Z Kl Kl B4 Kh ((((E1.K E2).K E3).K E4).K E5) ?_;rintro w6 E6 B4 K1 Z1;have B2:=(B2.J exq).Y (K1 _ Kh)
   have B3:=(B3.J exq).Y (K1 _ Kh);have O1:=(O1.J E5).W K1 Kh;have R1:=(R1.toB.J E5).W K1 Kh;refine Vp<|Vr<|Yl Jn Ji Z<|Xx Jk B2 Z<|Yo Z<|Ui Z fun h3=>?_;refine Yl Jn Ji Z<|Xx Jk B2 Z<|Yo Z<|Xb Z<|Ya Z<|Vp<|Vt<|Vr<|Xp Z<|Xz Z<|Qv Z (fun h4=>?_) (fun h4=>?_);refine Yl Jn Jo Z<|Qx Jp B2 Z<|Wo Z (Uo Z Z)<|Xy Z<|Qv Z (fun h5=>?_) (fun h5=>?_);refine Vq Z<|Vq Z<|Vq Z<|Vq Z<|Vq Z<|Vq Z<|Vq Z<|Vq Z<|Xy Z<|Vp<|Xe Z ?_
   refine Vr<|Uh Jq Jj B4 Z<|Uw Jj B3 Z E6 ?_;rintro w7 E11 B3 K2 Z2;have O1:=O1.W K2 Kh;have R1:=R1.W K2 Kh;refine Ya Z<|Vp<|Vy ?_;rotate_left;exact Ks;exact Ks
  exact ⟨b3,u3,q1,rfl,B3,u3,q1,m1,rfl,by exact E11,O1.wide Kh (Kz _),R1.o,Kh,Kh⟩
theorem Tl (w:World) (s:List UInt8) (hs:s.length≤1048576):Dz 122 [str s] w (RetOB w XR ((rdP s).getD []) (rdP s).isSome):=by
 obtain ⟨ps,hps⟩ : ∃ ps,ps=cutB 47 s:=⟨_,rfl⟩
 have k1 : ∀ w,Dz 70 [str s,.int .u8 47] w (RetO w XS ps):=fun w=>hps ▸ l1Cut_ok w s 47 hs
 have hpl:ps.length≤1048577:=by rw [hps,cutB_len];have:=List.count_le_length (a:=(47:UInt8)) (l:=s);omega
 have hpe : ∀ (k:Nat) (hk:k < ps.length),ps[k].length≤1048576:=fun k hk=>by
  have:ps[k] ∈ cutB 47 s:=hps ▸ List.getElem_mem hk
  have:=Me s.length s (Kz _) _ this;omega
 refine Uy Tryz.func122 Z Tryz.results122 Tryz.ntmps122 Z ?_
 focus
  refine Vr<|Uj Z<|Ya Z<|Vp<|Vr<|Un (XSl 3 XInt) Z Sk Jw ?_;rintro b1 w1 H1 b1lt E1 O1;refine Uj Z<|Vp<|Vr<|Yv Z<|Vs Z (Xa (a:=.string _) (b:=.int _ _) Tryz.call70 Z Z) (k1 _) ?_;rintro u1 w2 ⟨E2,O2⟩;refine Uc u1 Z<|Vp<|Vt<|Vr<|Yx Z<|Vp<|Yb ?_
 have hBe:Besides (Value.ownBlock (.slice (some ⟨b1,0,none⟩) 0 0)) Strs w2 u1 ps:=Besides.start O1 O2.above
 refine Xt [2,3,4,6,7,8,9,13,14,15,16,17,18,19,20,21,22,23,24,25,26,27,28,29,30,31,32,33,34,35,36,37,38,39,40,41,42,43,44,45,46,47,48,49,50,51,52] (fun (k,u)=>[(6,.int .i64 (k:Nat)),(4,u)]) (fun (k,u) w'=>Ext w w'∧k≤ps.length∧Owned w.heap.size XR w' u ((ps.take k).map (rowB ps.length))∧Besides u.ownBlock Strs w' u1 ps∧∀ x ∈ ps.take k,inR ps.length x) (fun x=>ps.length - x.1) (0,.slice (some ⟨b1,0,none⟩) 0 0) Kn ?_ ?_
 ·exact ⟨E1.K E2,Ja _,O1.J E2,hBe,Kp⟩
 clear O1 O2 hBe
 rintro ⟨k,u⟩ ρj w3 ⟨E3,hk,O3,hBe,hin⟩
 by_cases hkl:k < ps.length
 ·have hpk:=hpe k hkl
  focus
   have:=E3.Z;refine Vt<|Vr<|Vz Z<|Yj u1 Z<|Ys Jv Z (Ky hBe)<|Yy Z<|Vp<|Vu Z (fun h1=>?_) (fun h1=>?_);refine Vw<|Vt<|Yb<|Vr<|Yj u1 Z<|Ys Jv Z (Ky hBe)<|Mh Z Rl Z Kh ?_;rintro b2 w4 H2 b2lt E4 O1;refine Uj Z<|Vp<|Vt<|Vr<|Yx Z<|Vp<|Yb ?_;rotate_left;exact Kt
  refine Xt [2,3,8,9,22,23,24,25,26,27,28,29,30,31,32,33,34,35,36,37,38,39,40,41,42,43,44,45,46,47,48] (fun (j:Nat)=>[(8,.int .i64 (j:Nat))]) (fun j w'=>Ext w3 w'∧j≤ps[k].length∧Owned w3.heap.size XI w' (.slice (some ⟨b2,0,none⟩) ps.length ps.length) (rowB ps.length (ps[k].take j))∧inR ps.length (ps[k].take j)) (fun j=>ps[k].length - j) 0 Kn ?_ ?_
  ·refine ⟨Kk,Ja _,?_,fun c hc=>by cases hc⟩
   rw [List.take_zero,rowB_nil]
   simpa using O1
  clear O1
  rintro j ρk w5 ⟨E5,hj,O5,hir⟩
  have hrl:(rowB ps.length (ps[k].take j)).length=ps.length:=Nv
  by_cases hjl:j < ps[k].length
  ·have hc8:(ps[k].getD j 0).toNat < 256:=UInt8.toNat_lt _
   have hcd:ps[k].getD j 0=ps[k][j]:=Xl hjl
   have hts:ps[k].take (j+1)=ps[k].take j++[ps[k].getD j 0]:=by rw [hcd];exact List.take_succ_eq_append_getElem hjl
   have hmem:ps[k] ∈ cutB 47 s:=hps ▸ List.getElem_mem hkl
   have hnl:(ps.length:Int)=(cutB 47 s).length:=by rw [hps]
   by_cases hr:48≤(ps[k].getD j 0).toNat∧(ps[k].getD j 0).toNat < 48+ps.length
   ·focus
     have:=E5.Z;refine Vt<|Vr<|Vz Z<|Yj u1 Z<|Vz Z<|Xv Jv Jo Jp Z (fun _=>Z) Z (Ky hBe) E5 Z Km ?_;rintro _ _ ⟨rfl,-⟩;refine Wo Z (Xo Jr Z)<|Yy Z<|Vp<|Vu Z (fun h2=>?_) (fun h2=>?_);refine Vw<|Vt<|Yb<|Vr<|Yj u1 Z<|Vz Z<|Xv Jv Jo Jp Z (fun _=>Z) Z (Ky hBe) E5 Z Km ?_;rintro _ _ ⟨rfl,-⟩;refine Vz Z<|Wo Z (Yq Jr Z Z Kh) ?_;refine Wo Z (Rv Gw Zl Z Kh) ?_
     refine Sc Z<|Yx Z<|Vp<|Vt<|Vr<|Vz Z<|Yj u1 Z<|Ys Jv Z (Ky hBe)<|Sc Z<|Vs Z (Qq (a:=.int _ _) (b:=.int _ _) (c:=.int _ _) Gl Z Z Z) (Rn _ _ _ _) ?_;rintro _ w6 ⟨rfl,E6⟩;refine Xz Z<|Vp<|Qi Z fun h3=>?_;refine Vw<|Ym<|Ri Z<|Vz Z<|Wo Z (Qr Jl Ji Z Z Kh) ?_;refine Wo_set Z Ji Z Z (O5.toB.J E6) Km Owned.int (Kz _) Kh ?_;rintro w7 O5 On1 K1 Z1;have E7:=On1.ext1 ((E3.K E5).K E6) Kh;have E8:=On1.ext1 (E5.K E6) Kh;have:=E8.Z;have O3:=(O3.toB.J exq).W K1 Kh;have:=On1.size;refine Vp<|Ym<|Vz Z<|Xf Z<|Yx Z<|Vp ?_
     rotate_left;exact Kt
    ·refine ⟨(j+1),Kn,Ko,?_,?_⟩
     ·refine ⟨Kk,Kh,?_,?_⟩
      ·rw [rowB_set (c:=ps[k].getD j 0) Kh Kh,← hts] at O5
       exact O5
      ·rw [hts]
       intro c hc
       rcases List.mem_append.1 hc with hc | hc
       ·exact hir c hc
       ·obtain rfl:=List.mem_singleton.1 hc;exact hr
     ·omega
    all_goals omega
   ·rw [rd_no1 hmem (List.getElem_mem hjl) (fun h=>hr (by rw [hcd];omega))]
    focus
     have:=E5.Z;refine Vt<|Vr<|Vz Z<|Yj u1 Z<|Vz Z<|Xv Jv Jo Jp Z (fun _=>Z) Z (Ky hBe) E5 Z Km ?_;rintro _ _ ⟨rfl,-⟩;refine Wo Z (Xo Jr Z)<|Yy Z<|Vp<|Vu Z (fun h2=>?_) (fun h2=>?_);refine Vw<|Vt<|Yb<|Vr<|Yj u1 Z<|Vz Z<|Xv Jv Jo Jp Z (fun _=>Z) Z (Ky hBe) E5 Z Km ?_;rintro _ _ ⟨rfl,-⟩;refine Vz Z<|Wo Z (Yq Jr Z Z Kh) ?_;refine Wo Z (Rv Gw Zl Z Kh) ?_
     refine Sc Z<|Yx Z<|Vp<|Vt<|Vr<|Vz Z<|Yj u1 Z<|Ys Jv Z (Ky hBe)<|Sc Z<|Vs Z (Qq (a:=.int _ _) (b:=.int _ _) (c:=.int _ _) Gl Z Z Z) (Rn _ _ _ _) ?_;rintro _ w6 ⟨rfl,E6⟩;have:=E6.Z;refine Xz Z<|Vp<|Xn Z (fun h3=>?_) (fun h3=>?_);refine Vr<|Un (XSl 3 XInt) Z Sk Jw ?_;rintro b3 w7 H3 b3lt E7 O1;refine Uj Z<|Ya Z<|Vp<|Vy ?_;refine Yh (v:=.tuple #[.slice _ _ _,.bool _]) Z ?_;exact ⟨_,rfl,exq,O1.toB.o.mono Kh⟩;exact Kt;exact Kt
    all_goals omega
  ·obtain rfl:j=ps[k].length:=by omega
   rw [List.take_length] at O5 hir
   focus
    have:=E5.Z;have:=E3.Z;refine Vt<|Vr<|Vz Z<|Yj u1 Z<|Vz Z<|Xv Jv Jo Jp Z (fun _=>Z) Z (Ky hBe) E5 Z Km ?_;rintro _ _ ⟨rfl,-⟩;refine Wo Z (Xo Jr Z)<|Yy Z<|Vp<|Vv Z fun h2=>?_;refine Xm ?_;refine Yn ?_;refine Ym<|Yj u Z<|Ri Z<|Xc (ps:=[(0,.slice _ _ _)]) (cs:=[_]) Z Jm Jw Gq Z Z Z Z ?_;rintro b3 w6 H3 E6 B1;have:=E6.Z;refine Ur Z Sk Z Z B1 (O3.toB.J (E5.K E6)) (O5.toB.J E6).o Kh Km Kh Kh ((E3.K E5).K E6) Kh ?_;rintro v1 w7 O3 E7 M1;have hBe:=(hBe.J exq).moves M1
    refine Uc v1 Z<|Vp<|Ym<|Vz Z<|Xf Z<|Yx Z<|Vp ?_
   refine ⟨(k+1,v1),Kn,Ko,?_,?_⟩
   ·have hts:ps.take (k+1)=ps.take k++[ps[k]]:=List.take_succ_eq_append_getElem hkl
    refine ⟨Kk,Kh,?_,Kk,?_⟩
    ·rw [hts,List.map_append];exact O3
    ·rw [hts]
     intro x hx
     rcases List.mem_append.1 hx with hx | hx
     ·exact hin x hx
     ·obtain rfl:=List.mem_singleton.1 hx;exact hir
   ·simp only;omega
 ·obtain rfl:k=ps.length:=by omega
  have eM:ps.map (rowB ps.length)=rdM s:=by rw [hps];rfl
  rw [List.take_length,eM] at O3
  clear k1
  by_cases hP:Pic (rdM s)
  ·by_cases hT:txt (rdM s)=s
   ·rw [rd_yes hP hT]
    have k2 : ∀ w v,ESl Ints w v (rdM s)→Dz 115 [v] w (Ret w (.bool true)):=fun w v h=>by
     have:=Ql w v _ h
     rwa [decide_eq_true hP] at this
    have k3 : ∀ w v,ESl Ints w v (rdM s)→Dz 62 [v] w (Ret w (str s)):=fun w v h=>by
     have:=Qk w v _ h
     rwa [if_pos hP,hT] at this
    focus
     refine Vt<|Vr<|Vz Z<|Yj u1 Z<|Ys Jv Z (Ky hBe)<|Yy Z<|Vp<|Vv Z fun h1=>?_;refine Xm ?_;refine Yn ?_;refine Vt<|Vr<|Yj u Z<|Vs Z (Xh (a:=u) Gu Z) (k2 _ _ (Kv O3)) ?_;rintro _ w4 ⟨rfl,E4⟩;refine Xz Z<|Uf Z (Xj (v:=.bool _) Z) (fun h2=>?_) (fun h2=>?_);exact Ks;refine Yj u Z<|Vs Z (Xh (a:=u) Gi Z) (k3 _ _ ((Ku E4 (Kv O3)))) ?_;rintro _ w5 ⟨rfl,E5⟩;refine Yv Z<|Wo Z (Uo Z Z)<|Xb Z<|Vp<|Sh Z fun h3=>?_;refine Vw<|Vr<|Yj u Z<|Uc u Z<|Ya Z<|Vp<|Vy ?_;refine Yh (v:=.tuple #[u,.bool _]) Z ?_;exact ⟨_,rfl,exq,(O3.toB.J exq).o.mono Kh⟩
   ·rw [rd_no3 hT]
    have k2 : ∀ w v,ESl Ints w v (rdM s)→Dz 115 [v] w (Ret w (.bool true)):=fun w v h=>by
     have:=Ql w v _ h
     rwa [decide_eq_true hP] at this
    have k3 : ∀ w v,ESl Ints w v (rdM s)→Dz 62 [v] w (Ret w (str (txt (rdM s)))):=fun w v h=>by
     have:=Qk w v _ h
     rwa [if_pos hP] at this
    focus
     have:=E3.Z;refine Vt<|Vr<|Vz Z<|Yj u1 Z<|Ys Jv Z (Ky hBe)<|Yy Z<|Vp<|Vv Z fun h1=>?_;refine Xm ?_;refine Yn ?_;refine Vt<|Vr<|Yj u Z<|Vs Z (Xh (a:=u) Gu Z) (k2 _ _ (Kv O3)) ?_;rintro _ w4 ⟨rfl,E4⟩;have:=E4.Z;refine Xz Z<|Uf Z (Xj (v:=.bool _) Z) (fun h2=>?_) (fun h2=>?_);exact Ks;refine Yj u Z<|Vs Z (Xh (a:=u) Gi Z) (k3 _ _ ((Ku E4 (Kv O3)))) ?_;rintro _ w5 ⟨rfl,E5⟩;have:=E5.Z;refine Yv Z<|Wo Z (Uo Z Z)<|Xb Z<|Vp<|Xn Z (fun h3=>?_) (fun h3=>?_);refine Vr<|Un (XSl 3 XInt) Z Sk Jw ?_;rintro b2 w6 H2 b2lt E6 O1;refine Uj Z<|Ya Z<|Vp<|Vy ?_
     refine Yh (v:=.tuple #[.slice _ _ _,.bool _]) Z ?_;exact ⟨_,rfl,exq,O1.toB.o.mono Kh⟩;exact Ks
  ·rw [rd_no2 hP]
   have k2 : ∀ w v,ESl Ints w v (rdM s)→Dz 115 [v] w (Ret w (.bool false)):=fun w v h=>by
    have:=Ql w v _ h
    rwa [decide_eq_false hP] at this
   focus
    have:=E3.Z;refine Vt<|Vr<|Vz Z<|Yj u1 Z<|Ys Jv Z (Ky hBe)<|Yy Z<|Vp<|Vv Z fun h1=>?_;refine Xm ?_;refine Yn ?_;refine Vt<|Vr<|Yj u Z<|Vs Z (Xh (a:=u) Gu Z) (k2 _ _ (Kv O3)) ?_;rintro _ w4 ⟨rfl,E4⟩;have:=E4.Z;refine Xz Z<|Uf Z (Xj (v:=.bool _) Z) (fun h2=>?_) (fun h2=>?_);refine Vq Z<|Vq Z<|Vq Z<|Vq Z<|Xy Z<|Vp<|Xe Z ?_;refine Vr<|Un (XSl 3 XInt) Z Sk Jw ?_;rintro b2 w5 H2 b2lt E5 O1;refine Uj Z<|Ya Z<|Vp<|Vy ?_;refine Yh (v:=.tuple #[.slice _ _ _,.bool _]) Z ?_;exact ⟨_,rfl,exq,O1.toB.o.mono Kh⟩;exact Ks
theorem Xq:Flat Tryz.prog 48 [.int .i64 0,str [],.int .i64 0]:=⟨_,Tryz.underlying48,fun _=>Ki,fun _=>Ki⟩
theorem Tr {ρ : Env} {w:World} {x y:Operand} {t' ty:TypeId} {k n k' n':Int} {a b:List UInt8} (hx:evalE ρ x=.agg #[.int .i64 k,str a,.int .i64 n]) (hy:evalE ρ y=.agg #[.int .i64 k',str b,.int .i64 n']) :
  OpV Tryz.prog (.binOp .eql 48 x y t') ty ρ w (.bool (decide ((⟨k,a,n⟩:Deed)=⟨k',b,n'⟩))):=by
 have u3:=Tryz.underlying3
 have a3:=Tryz.isAgg3
 have z3:=Tryz.sizeOf3
 have u9:=Tryz.underlying9
 have a9:=Tryz.isAgg9
 have z9:=Tryz.sizeOf9
 have hS:Tryz.prog.underlying 48=some (.struct (Tryz.prog.fieldsOf 48)):=Ki
 have hp:Tryz.prog.stoodInHeld 48=false:=Ki
 have hg:Tryz.prog.eqGuardType Tryz.prog.depth 48=false:=Ki
 have e:((binOp .eql 48 (.agg #[.int .i64 k,str a,.int .i64 n]) (.agg #[.int .i64 k',str b,.int .i64 n'])).run Tryz.prog w)=.ok (.bool (decide ((⟨k,a,n⟩:Deed)=⟨k',b,n'⟩))) w:=by
  rw [run_eql_struct,show (10000:Nat)=9999+1 from rfl,run_equalIn_agg w 9999 48 _ _ hS hp]
  simp only [Program.fieldsOf,Tryz.underlying48]
  go_simp
  by_cases h1:k=k' <;> by_cases h2:a=b <;> by_cases h3:n=n' <;> simp [h1,h2,h3]
 simp [OpV,execOp,hx,hy,run_eqGuard_agg,hg,e]
theorem Lb (w:World) (k n:Int) (t:List UInt8) (ht:t.length≤1048576) :
  Dz 108 [.agg #[.int .i64 k,str t,.int .i64 n]] w (Ret w (str (dtV ⟨k,t,n⟩))):=by
 obtain ⟨B,hB⟩ : ∃ B,B=(rdP t).isSome:=⟨_,rfl⟩
 have k1 : ∀ w,Dz 122 [str t] w (RetOB w XR ((rdP t).getD []) B):=fun w=>hB ▸ Tl w t ht
 refine Yr Tryz.func108 Z Tryz.results108 Tryz.ntmps108 Z ?_
 have k2 : ∀ w,0≤n∧n≤9→Dz 64 [.int .i64 n] w (Ret w (str [dig n.toNat])):=fun w h=>by
  obtain ⟨d,rfl⟩:=Int.eq_ofNat_of_zero_le h.1
  exact Nu w d Kh
 focus
  refine Vr<|Xu Z Z Z ?_;rintro b1 w1 H1 E1 B1;have:=B1.lt;have:=E1.Z;refine Xr Z<|Vp<|Vt<|Ym<|Yl Jn Jo Z<|Qx Jp B1 Z<|Vs Z (Xh (a:=.string _) Gn Z) (k1 _) ?_;rintro _ w2 ⟨u1,rfl,E2,O1⟩;have:=E2.Z;refine Ut Z<|Ra u1 Z<|Uz Z<|Uc u1 Z<|Ya Z<|Vp<|Vt<|Yb<|Vt<|Ym<|Rk Gb Js (B1.J E2) Z<|Wo Z (Yu (ps:=[(0,.int _ _)]) (cs:=[_,_,_]) Xq Z Z)<|Wo Z (Tr Z Z)<|Ya Z<|Vp<|Vu Z (fun h1=>?_) (fun h1=>?_);refine Vr<|Xr Z<|Vp<|Vy ?_;refine Yh (v:=.string _) Z ?_;refine ⟨congrArg str ?_,exq⟩;rotate_left
  refine Vr<|Rk Gb Js (B1.J E2) Z<|Wo Z (Yu (ps:=[(0,.int _ _)]) (cs:=[_,_,_]) Xq Z Z)<|Wo Z (Tr Z Z)<|Ya Z<|Vp<|Vu Z (fun h2=>?_) (fun h2=>?_);refine Vr<|Xr Z<|Vp<|Vy ?_;refine Yh (v:=.string _) Z ?_;refine ⟨congrArg str ?_,exq⟩;rotate_left;refine Vr<|Yl Jn Ji Z<|Xx Jk (B1.J E2) Z<|Yo Z<|Xi Z (fun h3=>?_) (fun h3=>?_);refine Yl Jn Ji Z<|Xx Jk (B1.J E2) Z<|Yo Z<|Xy Z<|Xi Z (fun h4=>?_) (fun h4=>?_);refine Xp Z<|Xy Z<|Ya Z<|Vp<|Up Z (fun h5=>?_) (fun h5=>?_)
  refine Vr<|Yl Jn Jo Z<|Qx Jp (B1.J E2) Z<|Wo Z (Yz Z Z Kf) ?_;refine Xr Z<|Vp<|Vy ?_;refine Yh (v:=.string _) Z ?_;refine ⟨congrArg str ?_,exq⟩;rotate_left;refine Vr<|Yl Jn Ji Z<|Xx Jk (B1.J E2) Z<|Yo Z<|Qw Z fun h6=>?_;refine Vq Z<|Vq Z<|Vq Z<|Xb Z<|Xp Z<|Vq Z<|Xb Z<|Ya Z<|Vp<|Vx Z ?_;refine Vr<|Yl Jn Ji Z<|Xx Jk (B1.J E2) Z<|Yo Z<|Qw Z fun h7=>?_;refine Vq Z<|Vq Z<|Vq Z<|Xb Z<|Xp Z<|Vq Z<|Vq Z<|Vq Z<|Xb Z<|Ya Z<|Vp<|Vx Z ?_
  refine Vw<|Vr<|Xr Z<|Vp<|Vy ?_;refine Yh (v:=.string _) Z ?_;refine ⟨congrArg str ?_,exq⟩;rotate_left;refine Vq Z<|Xb Z<|Ya Z<|Vp<|Vx Z ?_;refine Vr<|Yl Jn Ji Z<|Xx Jk (B1.J E2) Z<|Yo Z<|Qw Z fun h5=>?_;refine Vq Z<|Vq Z<|Vq Z<|Xb Z<|Xp Z<|Vq Z<|Xb Z<|Ya Z<|Vp<|Vx Z ?_;refine Vr<|Yl Jn Ji Z<|Xx Jk (B1.J E2) Z<|Yo Z<|Qw Z fun h6=>?_;refine Vq Z<|Vq Z<|Vq Z<|Xb Z<|Xp Z<|Vq Z<|Vq Z<|Vq Z<|Xb Z<|Ya Z<|Vp<|Vx Z ?_;refine Vw<|Vr<|Xr Z<|Vp<|Vy ?_
  refine Yh (v:=.string _) Z ?_;refine ⟨congrArg str ?_,exq⟩;rotate_left;refine Vq Z<|Vq Z<|Vq Z<|Xb Z<|Xp Z<|Vq Z<|Xb Z<|Ya Z<|Vp<|Vx Z ?_;refine Vr<|Yl Jn Ji Z<|Xx Jk (B1.J E2) Z<|Yo Z<|Xi Z (fun h4=>?_) (fun h4=>?_);refine Yl Jn Ji Z<|Xx Jk (B1.J E2) Z<|Yo Z<|Xy Z<|Xi Z (fun h5=>?_) (fun h5=>?_);refine Xp Z<|Xy Z<|Ya Z<|Vp<|Up Z (fun h6=>?_) (fun h6=>?_);refine Vr<|Yl Jn Jo Z<|Qx Jp (B1.J E2) Z<|Wo Z (Yz Z Z Kf) ?_;refine Xr Z<|Vp<|Vy ?_;refine Yh (v:=.string _) Z ?_;refine ⟨congrArg str ?_,exq⟩;rotate_left
  refine Vr<|Yl Jn Ji Z<|Xx Jk (B1.J E2) Z<|Yo Z<|Qw Z fun h7=>?_;refine Vq Z<|Vq Z<|Vq Z<|Xb Z<|Xp Z<|Vq Z<|Vq Z<|Vq Z<|Xb Z<|Ya Z<|Vp<|Vx Z ?_;refine Vw<|Vr<|Xr Z<|Vp<|Vy ?_;refine Yh (v:=.string _) Z ?_;refine ⟨congrArg str ?_,exq⟩;rotate_left;refine Vq Z<|Xb Z<|Ya Z<|Vp<|Vx Z ?_;refine Vr<|Yl Jn Ji Z<|Xx Jk (B1.J E2) Z<|Yo Z<|Qw Z fun h6=>?_;refine Vq Z<|Vq Z<|Vq Z<|Xb Z<|Xp Z<|Vq Z<|Vq Z<|Vq Z<|Xb Z<|Ya Z<|Vp<|Vx Z ?_;refine Vw<|Vr<|Xr Z<|Vp<|Vy ?_
  refine Yh (v:=.string _) Z ?_;refine ⟨congrArg str ?_,exq⟩;rotate_left;refine Vq Z<|Vq Z<|Vq Z<|Xb Z<|Xp Z<|Vq Z<|Xb Z<|Ya Z<|Vp<|Vx Z ?_;refine Vr<|Yl Jn Ji Z<|Xx Jk (B1.J E2) Z<|Yo Z<|Xi Z (fun h5=>?_) (fun h5=>?_);refine Yl Jn Jo Z<|Qx Jp (B1.J E2) Z<|Wo Z (Yi Z Z)<|Xy Z<|Xi Z (fun h6=>?_) (fun h6=>?_);refine Yl Jn Ji Z<|Xx Jk (B1.J E2) Z<|Vs Z (Qq (a:=.int _ _) (b:=.int _ _) (c:=.int _ _) Gl Z Z Z) (Rn _ _ _ _) ?_;rintro _ w3 ⟨rfl,E3⟩;refine Xy Z<|Ya Z<|Vp<|Vu Z (fun h7=>?_) (fun h7=>?_)
  refine Vt<|Ym<|Yl Jn Ji Z<|Xx Jk (B1.J exq) Z<|Vs Z (Xh (a:=.int _ _) Gs Z) (k2 _ Kk) ?_;rintro _ w4 ⟨rfl,E4⟩;refine Wo Z (Yz Z Z Kf) ?_;refine Xr Z<|Vp<|Vy ?_;refine Yh (v:=.string _) Z ?_;refine ⟨congrArg str ?_,exq⟩;rotate_left;refine Vw<|Vr<|Xr Z<|Vp<|Vy ?_;refine Yh (v:=.string _) Z ?_;refine ⟨congrArg str ?_,exq⟩;rotate_left;refine Vq Z<|Vq Z<|Vq Z<|Xb Z<|Ya Z<|Vp<|Vx Z ?_;refine Vw<|Vr<|Xr Z<|Vp<|Vy ?_;refine Yh (v:=.string _) Z ?_;refine ⟨congrArg str ?_,exq⟩;rotate_left
  refine Vq Z<|Vq Z<|Vq Z<|Xb Z<|Xp Z<|Vq Z<|Vq Z<|Vq Z<|Xb Z<|Ya Z<|Vp<|Vx Z ?_;refine Vw<|Vr<|Xr Z<|Vp<|Vy ?_;refine Yh (v:=.string _) Z ?_;refine ⟨congrArg str ?_,exq⟩;rotate_left
 all_goals (unfold dtV;simp only [Deed.mk.injEq] at *)
 all_goals (try subst hB)
 all_goals try (simp_all [sSingle,sBack,sAdd,sDrop,sInto];done)
 all_goals (repeat' split)
 all_goals first
  | rfl
  | (simp_all [sSingle,sBack,sAdd,sDrop,sInto];done)
  | (exfalso;simp_all;omega)
theorem Lg (w:World) (k n:Int) (t:List UInt8) (hM:EMx gMx w (.bool true) ()) (ht:t.length≤1048576) :
  Dz 104 [.agg #[.int .i64 k,str t,.int .i64 n]] w (Ret w (str (dtV ⟨k,t,n⟩))):=by
 obtain ⟨B,hB⟩ : ∃ B,B=(rdP t).isSome:=⟨_,rfl⟩
 have k1 : ∀ w,EMx gMx w (.bool true) ()→Dz 150 [str t] w (RetOB w XR ((rdP t).getD []) B):=fun w hM=>hB ▸ Mk w t hM ht
 have k2 : ∀ w,0≤n→n≤9→Dz 131 [.int .i64 n] w (Ret w (str [dig n.toNat])):=fun w h h'=>by
  obtain ⟨d,rfl⟩:=Int.eq_ofNat_of_zero_le h
  exact Itoa_ok w d Kh
 refine Yr Tryz.func104 Z Tryz.results104 Tryz.ntmps104 Z ?_
 focus
  refine Vr<|Xu Z Z Z ?_;rintro b1 w1 H1 E1 B1;have:=B1.lt;have:=E1.Z;refine Xr Z<|Vp<|Vt<|Yb<|Vr<|Yl Jn Ji Z<|Xx Jk B1 Z<|Yo Z<|Xi Z (fun h1=>?_) (fun h1=>?_);refine Yl Jn Jo Z<|Qx Jp B1 Z<|Wo Z (Yi Z Z)<|Xy Z<|Xi Z (fun h2=>?_) (fun h2=>?_);refine Yl Jn Ji Z<|Xx Jk B1 Z<|Yo Z<|Xy Z<|Ya Z<|Vp<|Vu Z (fun h3=>?_) (fun h3=>?_);refine Vr<|Xr Z<|Vp<|Vy ?_;refine Yh (v:=.string _) Z ?_;refine ⟨congrArg str ?_,E1⟩;rotate_left;refine Vr<|Yl Jn Ji Z<|Xx Jk B1 Z<|Yo Z<|Qw Z fun h4=>?_
  refine Vq Z<|Vq Z<|Vq Z<|Xb Z<|Xp Z<|Vq Z<|Vq Z<|Vq Z<|Xb Z<|Ya Z<|Vp<|Vx Z ?_;refine Vr<|Yl Jn Ji Z<|Xx Jk B1 Z<|Yo Z<|Qw Z fun h5=>?_;refine Vq Z<|Vq Z<|Vq Z<|Xb Z<|Xp Z<|Vq Z<|Vq Z<|Vq Z<|Xb Z<|Xp Z<|Vq Z<|Vq Z<|Vq Z<|Xb Z<|Ya Z<|Vp<|Vx Z ?_;refine Vw<|Vt<|Vr<|Yl Jn Jo Z<|Qx Jp B1 Z<|Vs Z (Xh (a:=.string _) Za Z) (k1 _ (Ku E1 hM)) ?_;rintro _ w2 ⟨u1,rfl,E2,O1⟩
  refine Ut Z<|Ra u1 Z<|Uz Z<|Uc u1 Z<|Ya Z<|Vp<|Vr<|Xp Z<|Xz Z<|Uf Z (Xj (v:=.bool _) Z) (fun h6=>?_) (fun h6=>?_);refine Vq Z<|Vq Z<|Vq Z<|Xy Z<|Vp<|Xe Z ?_;refine Vr<|Xr Z<|Vp<|Vy ?_;refine Yh (v:=.string _) Z ?_;refine ⟨congrArg str ?_,exq⟩;rotate_left;refine Yl Jn Ji Z<|Xx Jk (B1.J E2) Z<|Qg Z<|Xb Z<|Vp<|Xn Z (fun h7=>?_) (fun h7=>?_);refine Vr<|Xr Z<|Vp<|Vy ?_;refine Yh (v:=.string _) Z ?_;refine ⟨congrArg str ?_,exq⟩;rotate_left;exact Ks;refine Vq Z<|Vq Z<|Vq Z<|Xb Z<|Ya Z<|Vp<|Vx Z ?_
  refine Vr<|Yl Jn Ji Z<|Xx Jk B1 Z<|Yo Z<|Qw Z fun h3=>?_;refine Vq Z<|Vq Z<|Vq Z<|Xb Z<|Xp Z<|Vq Z<|Vq Z<|Vq Z<|Xb Z<|Ya Z<|Vp<|Vx Z ?_;refine Vr<|Yl Jn Ji Z<|Xx Jk B1 Z<|Yo Z<|Qw Z fun h4=>?_;refine Vq Z<|Vq Z<|Vq Z<|Xb Z<|Xp Z<|Vq Z<|Vq Z<|Vq Z<|Xb Z<|Xp Z<|Vq Z<|Vq Z<|Vq Z<|Xb Z<|Ya Z<|Vp<|Vx Z ?_;refine Vw<|Vt<|Vr<|Yl Jn Jo Z<|Qx Jp B1 Z<|Vs Z (Xh (a:=.string _) Za Z) (k1 _ (Ku E1 hM)) ?_;rintro _ w2 ⟨u1,rfl,E2,O1⟩
  refine Ut Z<|Ra u1 Z<|Uz Z<|Uc u1 Z<|Ya Z<|Vp<|Vr<|Xp Z<|Xz Z<|Uf Z (Xj (v:=.bool _) Z) (fun h5=>?_) (fun h5=>?_);refine Vq Z<|Vq Z<|Vq Z<|Xy Z<|Vp<|Xe Z ?_;refine Vr<|Xr Z<|Vp<|Vy ?_;refine Yh (v:=.string _) Z ?_;refine ⟨congrArg str ?_,exq⟩;rotate_left;refine Yl Jn Ji Z<|Xx Jk (B1.J E2) Z<|Qg Z<|Xb Z<|Vp<|Xn Z (fun h6=>?_) (fun h6=>?_);refine Vr<|Xr Z<|Vp<|Vy ?_;refine Yh (v:=.string _) Z ?_;refine ⟨congrArg str ?_,exq⟩;rotate_left
  refine Vw<|Vt<|Vr<|Yl Jn Ji Z<|Xx Jk (B1.J E2) Z<|Vp<|Yb<|Vt<|Ym<|Yo Z<|Ya Z<|Vp<|Vv Z fun h7=>?_;refine Vt<|Ym<|Yo Z<|Ya Z<|Vp<|Vv Z fun h8=>?_;refine Vw<|Vt<|Ym<|Xr Z<|Vp<|Vy ?_;refine Yh (v:=.string _) Z ?_;refine ⟨congrArg str ?_,exq⟩;rotate_left;refine Vq Z<|Vq Z<|Vq Z<|Xb Z<|Xp Z<|Vq Z<|Vq Z<|Vq Z<|Xb Z<|Ya Z<|Vp<|Vx Z ?_;refine Vr<|Yl Jn Ji Z<|Xx Jk B1 Z<|Yo Z<|Xi Z (fun h2=>?_) (fun h2=>?_)
  refine Yl Jn Jo Z<|Qx Jp B1 Z<|Wo Z (Yi Z Z)<|Xy Z<|Xi Z (fun h3=>?_) (fun h3=>?_);refine Yl Jn Ji Z<|Xx Jk B1 Z<|Yo Z<|Xy Z<|Ya Z<|Vp<|Vu Z (fun h4=>?_) (fun h4=>?_);refine Vr<|Xr Z<|Vp<|Vy ?_;refine Yh (v:=.string _) Z ?_;refine ⟨congrArg str ?_,E1⟩;rotate_left;refine Vr<|Yl Jn Ji Z<|Xx Jk B1 Z<|Yo Z<|Qw Z fun h5=>?_;refine Vq Z<|Vq Z<|Vq Z<|Xb Z<|Xp Z<|Vq Z<|Vq Z<|Vq Z<|Xb Z<|Xp Z<|Vq Z<|Vq Z<|Vq Z<|Xb Z<|Ya Z<|Vp<|Vx Z ?_
  refine Vw<|Vt<|Vr<|Yl Jn Jo Z<|Qx Jp B1 Z<|Vs Z (Xh (a:=.string _) Za Z) (k1 _ (Ku E1 hM)) ?_;rintro _ w2 ⟨u1,rfl,E2,O1⟩;refine Ut Z<|Ra u1 Z<|Uz Z<|Uc u1 Z<|Ya Z<|Vp<|Vr<|Xp Z<|Xz Z<|Uf Z (Xj (v:=.bool _) Z) (fun h6=>?_) (fun h6=>?_);refine Vq Z<|Vq Z<|Vq Z<|Xy Z<|Vp<|Xe Z ?_;refine Vr<|Xr Z<|Vp<|Vy ?_;refine Yh (v:=.string _) Z ?_;refine ⟨congrArg str ?_,exq⟩;rotate_left;refine Yl Jn Ji Z<|Xx Jk (B1.J E2) Z<|Qg Z<|Xb Z<|Vp<|Xn Z (fun h7=>?_) (fun h7=>?_);refine Vr<|Xr Z<|Vp<|Vy ?_;refine Yh (v:=.string _) Z ?_
  refine ⟨congrArg str ?_,exq⟩;rotate_left;exact Ks;refine Vq Z<|Vq Z<|Vq Z<|Xb Z<|Ya Z<|Vp<|Vx Z ?_;refine Vr<|Yl Jn Ji Z<|Xx Jk B1 Z<|Yo Z<|Qw Z fun h4=>?_;refine Vq Z<|Vq Z<|Vq Z<|Xb Z<|Xp Z<|Vq Z<|Vq Z<|Vq Z<|Xb Z<|Xp Z<|Vq Z<|Vq Z<|Vq Z<|Xb Z<|Ya Z<|Vp<|Vx Z ?_;refine Vw<|Vt<|Vr<|Yl Jn Jo Z<|Qx Jp B1 Z<|Vs Z (Xh (a:=.string _) Za Z) (k1 _ (Ku E1 hM)) ?_;rintro _ w2 ⟨u1,rfl,E2,O1⟩
  refine Ut Z<|Ra u1 Z<|Uz Z<|Uc u1 Z<|Ya Z<|Vp<|Vr<|Xp Z<|Xz Z<|Uf Z (Xj (v:=.bool _) Z) (fun h5=>?_) (fun h5=>?_);refine Vq Z<|Vq Z<|Vq Z<|Xy Z<|Vp<|Xe Z ?_;refine Vr<|Xr Z<|Vp<|Vy ?_;refine Yh (v:=.string _) Z ?_;refine ⟨congrArg str ?_,exq⟩;rotate_left;refine Yl Jn Ji Z<|Xx Jk (B1.J E2) Z<|Qg Z<|Xb Z<|Vp<|Xn Z (fun h6=>?_) (fun h6=>?_);refine Vr<|Xr Z<|Vp<|Vy ?_;refine Yh (v:=.string _) Z ?_;refine ⟨congrArg str ?_,exq⟩;rotate_left
  refine Vw<|Vt<|Vr<|Yl Jn Ji Z<|Xx Jk (B1.J E2) Z<|Vp<|Yb<|Vt<|Ym<|Yo Z<|Ya Z<|Vp<|Vv Z fun h7=>?_;refine Vt<|Ym<|Yo Z<|Ya Z<|Vp<|Vv Z fun h8=>?_;refine Vw<|Vt<|Ym<|Xr Z<|Vp<|Vy ?_;refine Yh (v:=.string _) Z ?_;refine ⟨congrArg str ?_,exq⟩;rotate_left;refine Vq Z<|Vq Z<|Vq Z<|Xb Z<|Xp Z<|Vq Z<|Vq Z<|Vq Z<|Xb Z<|Ya Z<|Vp<|Vx Z ?_;refine Vr<|Yl Jn Ji Z<|Xx Jk B1 Z<|Yo Z<|Xi Z (fun h3=>?_) (fun h3=>?_)
  refine Yl Jn Jo Z<|Qx Jp B1 Z<|Wo Z (Yi Z Z)<|Xy Z<|Xi Z (fun h4=>?_) (fun h4=>?_);refine Yl Jn Ji Z<|Xx Jk B1 Z<|Rs Z<|Xy Z<|Xi Z (fun h5=>?_) (fun h5=>?_);refine Yl Jn Ji Z<|Xx Jk B1 Z<|Wsleq Z<|Xy Z<|Ya Z<|Vp<|Vu Z (fun h6=>?_) (fun h6=>?_);refine Vr<|Yl Jn Ji Z<|Xx Jk B1 Z<|Vs Z (Xh (a:=.int _ _) Vj Z) (k2 _ Kk Kk) ?_;rintro _ w2 ⟨rfl,E2⟩;refine Wo Z (Yz Z Z Kf) ?_;refine Xr Z<|Vp<|Vy ?_;refine Yh (v:=.string _) Z ?_;refine ⟨congrArg str ?_,exq⟩;rotate_left
  refine Vw<|Vt<|Vr<|Yl Jn Jo Z<|Qx Jp B1 Z<|Vs Z (Xh (a:=.string _) Za Z) (k1 _ (Ku E1 hM)) ?_;rintro _ w2 ⟨u1,rfl,E2,O1⟩;refine Ut Z<|Ra u1 Z<|Uz Z<|Uc u1 Z<|Ya Z<|Vp<|Vr<|Xp Z<|Xz Z<|Uf Z (Xj (v:=.bool _) Z) (fun h7=>?_) (fun h7=>?_);refine Vq Z<|Vq Z<|Vq Z<|Xy Z<|Vp<|Xe Z ?_;refine Vr<|Xr Z<|Vp<|Vy ?_;refine Yh (v:=.string _) Z ?_;refine ⟨congrArg str ?_,exq⟩;rotate_left;refine Yl Jn Ji Z<|Xx Jk (B1.J E2) Z<|Qg Z<|Xb Z<|Vp<|Xn Z (fun h8=>?_) (fun h8=>?_);refine Vr<|Xr Z<|Vp<|Vy ?_;refine Yh (v:=.string _) Z ?_
  refine ⟨congrArg str ?_,exq⟩;rotate_left;exact Kt;refine Vq Z<|Vq Z<|Vq Z<|Xb Z<|Ya Z<|Vp<|Vx Z ?_;refine Vw<|Vt<|Vr<|Yl Jn Jo Z<|Qx Jp B1 Z<|Vs Z (Xh (a:=.string _) Za Z) (k1 _ (Ku E1 hM)) ?_;rintro _ w2 ⟨u1,rfl,E2,O1⟩;have:=E2.Z;refine Ut Z<|Ra u1 Z<|Uz Z<|Uc u1 Z<|Ya Z<|Vp<|Vr<|Xp Z<|Xz Z<|Uf Z (Xj (v:=.bool _) Z) (fun h6=>?_) (fun h6=>?_);refine Vq Z<|Vq Z<|Vq Z<|Xy Z<|Vp<|Xe Z ?_;refine Vr<|Xr Z<|Vp<|Vy ?_;refine Yh (v:=.string _) Z ?_;refine ⟨congrArg str ?_,exq⟩;rotate_left
  refine Yl Jn Ji Z<|Xx Jk (B1.J E2) Z<|Qg Z<|Xb Z<|Vp<|Xn Z (fun h7=>?_) (fun h7=>?_);refine Vr<|Xr Z<|Vp<|Vy ?_;refine Yh (v:=.string _) Z ?_;refine ⟨congrArg str ?_,exq⟩;rotate_left;exact Kt;refine Vq Z<|Vq Z<|Vq Z<|Xb Z<|Xp Z<|Vq Z<|Vq Z<|Vq Z<|Xb Z<|Ya Z<|Vp<|Vx Z ?_;refine Vw<|Vt<|Vr<|Yl Jn Jo Z<|Qx Jp B1 Z<|Vs Z (Xh (a:=.string _) Za Z) (k1 _ (Ku E1 hM)) ?_;rintro _ w2 ⟨u1,rfl,E2,O1⟩
  refine Ut Z<|Ra u1 Z<|Uz Z<|Uc u1 Z<|Ya Z<|Vp<|Vr<|Xp Z<|Xz Z<|Uf Z (Xj (v:=.bool _) Z) (fun h5=>?_) (fun h5=>?_);refine Vq Z<|Vq Z<|Vq Z<|Xy Z<|Vp<|Xe Z ?_;refine Vr<|Xr Z<|Vp<|Vy ?_;refine Yh (v:=.string _) Z ?_;refine ⟨congrArg str ?_,exq⟩;rotate_left;refine Yl Jn Ji Z<|Xx Jk (B1.J E2) Z<|Qg Z<|Xb Z<|Vp<|Xn Z (fun h6=>?_) (fun h6=>?_);refine Vr<|Xr Z<|Vp<|Vy ?_;refine Yh (v:=.string _) Z ?_;refine ⟨congrArg str ?_,exq⟩;rotate_left
  refine Vw<|Vt<|Vr<|Yl Jn Ji Z<|Xx Jk (B1.J E2) Z<|Vp<|Yb<|Vt<|Ym<|Yo Z<|Ya Z<|Vp<|Vv Z fun h7=>?_;refine Vt<|Ym<|Yo Z<|Ya Z<|Vp<|Vv Z fun h8=>?_;refine Vw<|Vt<|Ym<|Xr Z<|Vp<|Vy ?_;refine Yh (v:=.string _) Z ?_;refine ⟨congrArg str ?_,exq⟩;rotate_left;refine Vq Z<|Vq Z<|Vq Z<|Xb Z<|Xp Z<|Vq Z<|Vq Z<|Vq Z<|Xb Z<|Xp Z<|Vq Z<|Vq Z<|Vq Z<|Xb Z<|Ya Z<|Vp<|Vx Z ?_;refine Vw<|Vt<|Vr<|Yl Jn Jo Z<|Qx Jp B1 Z<|Vs Z (Xh (a:=.string _) Za Z) (k1 _ (Ku E1 hM)) ?_
  rintro _ w2 ⟨u1,rfl,E2,O1⟩;refine Ut Z<|Ra u1 Z<|Uz Z<|Uc u1 Z<|Ya Z<|Vp<|Vr<|Xp Z<|Xz Z<|Uf Z (Xj (v:=.bool _) Z) (fun h4=>?_) (fun h4=>?_);refine Vq Z<|Vq Z<|Vq Z<|Xy Z<|Vp<|Xe Z ?_;refine Vr<|Xr Z<|Vp<|Vy ?_;refine Yh (v:=.string _) Z ?_;refine ⟨congrArg str ?_,exq⟩;rotate_left;refine Yl Jn Ji Z<|Xx Jk (B1.J E2) Z<|Qg Z<|Xb Z<|Vp<|Xn Z (fun h5=>?_) (fun h5=>?_);refine Vr<|Xr Z<|Vp<|Vy ?_;refine Yh (v:=.string _) Z ?_;refine ⟨congrArg str ?_,exq⟩;rotate_left
  refine Vw<|Vt<|Vr<|Yl Jn Ji Z<|Xx Jk (B1.J E2) Z<|Vp<|Yb<|Vt<|Ym<|Yo Z<|Ya Z<|Vp<|Vu Z (fun h6=>?_) (fun h6=>?_);refine Vr<|Yl Jn Jo Z<|Qx Jp (B1.J E2) Z<|Wo Z (Yz Z Z Kf) ?_;refine Xr Z<|Vp<|Vy ?_;refine Yh (v:=.string _) Z ?_;refine ⟨congrArg str ?_,exq⟩;rotate_left;refine Vr<|Yo Z<|Ya Z<|Vp<|Vu Z (fun h7=>?_) (fun h7=>?_);refine Vr<|Yl Jn Jo Z<|Qx Jp (B1.J E2) Z<|Wo Z (Yz Z Z Kf) ?_;refine Xr Z<|Vp<|Vy ?_;refine Yh (v:=.string _) Z ?_;refine ⟨congrArg str ?_,exq⟩;rotate_left
  refine Vw<|Vt<|Ym<|Xr Z<|Vp<|Vy ?_;refine Yh (v:=.string _) Z ?_;refine ⟨congrArg str ?_,exq⟩;rotate_left
 all_goals (unfold dtV;simp only [Deed.mk.injEq] at *)
 all_goals (try subst hB)
 all_goals try (simp_all [sSingle,sBack,sAdd,sDrop,sInto];done)
 all_goals (repeat' split)
 all_goals first
  | rfl
  | (simp_all [sSingle,sBack,sAdd,sDrop,sInto];done)
  | (exfalso;simp_all;omega)
end Go.Proofs.YtbgpppaljpngmaaGreatDoor
set_option linter.unusedVariables false
set_option linter.unusedSimpArgs false
namespace Go.Hs
def wInto:List UInt8:=[105,110,116,111]
def wAdd:List UInt8:=[97,100,100]
def wDrop:List UInt8:=[100,114,111,112]
def cand (s:List UInt8):Option Deed :=
 if s=sSingle then some ⟨0,[],0⟩
 else if s=sBack then some ⟨4,[],0⟩
 else if (cutF 32 s).1=wInto∧(cutF 32 s).2.1.length=1∧48≤((cutF 32 s).2.1.getD 0 0).toNat∧((cutF 32 s).2.1.getD 0 0).toNat≤57 then some ⟨3,[],((cutF 32 s).2.1.getD 0 0).toNat - 48⟩
 else if (cutF 32 s).1=wAdd∧(cutF 32 s).2.2=true then some ⟨1,(cutF 32 s).2.1,0⟩
 else if (cutF 32 s).1=wDrop∧(cutF 32 s).2.2=true then some ⟨2,(cutF 32 s).2.1,0⟩
 else none
theorem cand_told {a:Deed} (h:Told a):cand (dtV a)=some a:=by
 cases h with
 | single=>rw [Tt];rfl
 | back=>rw [Mg];rfl
 | into d h =>
   rw [Tx h]
   have e : cutF 32 (sInto ++ [dig d]) = (wInto, [dig d], true) := cutF_at (a := wInto) (r := [dig d]) Kj
   have h1 : sInto ++ [dig d] ≠ sSingle := by intro h; injection h with h1 h2; revert h1; decide
   have h2 : sInto ++ [dig d] ≠ sBack := by intro h; injection h with h1 h2; revert h1; decide
   have ed : (dig d).toNat = 48 + d := Te Kh
   rw [cand, if_neg h1, if_neg h2, e]
   simp only [List.length_cons, List.length_nil, List.getD_cons_zero, ed]
   rw [if_pos ⟨by trivial, by trivial, Kh, Kh⟩]
   congr 2; omega
 | add p h =>
   rw [Nl h]
   have e : cutF 32 (sAdd ++ txt p) = (wAdd, txt p, true) := cutF_at (a := wAdd) (r := txt p) Kj
   have h1 : sAdd ++ txt p ≠ sSingle := by intro h; injection h with h1 h2; revert h1; decide
   have h2 : sAdd ++ txt p ≠ sBack := by intro h; injection h with h1 h2; revert h1; decide
   rw [cand, if_neg h1, if_neg h2, e]
   simp only
   rw [if_neg (fun h => by have := h.1; revert this; decide), if_pos ⟨by trivial, by trivial⟩]
 | drop p h =>
   rw [Tm h]
   have e : cutF 32 (sDrop ++ txt p) = (wDrop, txt p, true) := cutF_at (a := wDrop) (r := txt p) Kj
   have h1 : sDrop ++ txt p ≠ sSingle := by intro h; injection h with h1 h2; revert h1; decide
   have h2 : sDrop ++ txt p ≠ sBack := by intro h; injection h with h1 h2; revert h1; decide
   rw [cand, if_neg h1, if_neg h2, e]
   simp only
   rw [if_neg (fun h => by have := h.1; revert this; decide), if_neg (fun h => by have := h.1; revert this; decide), if_pos ⟨by trivial, by trivial⟩]
theorem rdD_cand (s:List UInt8):rdD s=match cand s with | some a=>if dtV a=s then some a else none | none=>none:=by
 cases hr:rdD s with
 | some a =>
   have ht := rdD_told hr
   have h1 := (Mj hr).1
   have := cand_told ht
   rw [h1] at this
   rw [this]
   simp only
   rw [if_pos h1]
 | none =>
   cases hc : cand s with
   | none => rfl
   | some a =>
     simp only
     by_cases h : dtV a = s
     · by_cases hs : s = []
       · subst hs; revert hc; unfold cand; intro hc; simp [cutF, sSingle, sBack, wInto, wAdd, wDrop] at hc
       · rw [rdD_eq h hs] at hr; cases hr
     · rw [if_neg h]
set_option linter.unusedVariables false
set_option linter.unusedSimpArgs false
open Go.RowKit (Below)
def dcs (l:List Deed):List Value:=l.flatMap fun a=>[.int .i64 a.kind,str a.text,.int .i64 a.node]
theorem dcs_len (l:List Deed):(dcs l).length=l.length*3:=by
 induction l with
 | nil=>rfl
 | cons a l ih=>simp only [dcs,List.flatMap_cons,List.length_append,List.length_cons,List.length_nil] at ih ⊢;omega
theorem dcs_app (l m:List Deed):dcs (l++m)=dcs l++dcs m:=by simp [dcs]
theorem dcs_at : ∀ (l:List Deed) (i:Nat) (h:i < l.length),(dcs l)[i*3]? = some (.int .i64 l[i].kind)∧(dcs l)[i*3+1]? = some (str l[i].text)∧(dcs l)[i*3+2]? = some (.int .i64 l[i].node)
 | a::l,0,_=>⟨rfl,rfl,rfl⟩
 | a :: l, i + 1, h => by
   have := dcs_at l i (by simpa using h)
   simp only [List.getElem_cons_succ]
   have e : dcs (a :: l) = [.int .i64 a.kind, str a.text, .int .i64 a.node] ++ dcs l := rfl
   have e1 : (i + 1) * 3 = i * 3 + 3 := Kh
   rw [e, e1]
   refine ⟨?_, ?_, ?_⟩
   · rw [List.getElem?_append_right Kp]; simpa using this.1
   · rw [List.getElem?_append_right Kp]; simpa using this.2.1
   · rw [List.getElem?_append_right Kp]; simpa using this.2.2
theorem dcs_one {l:List Deed} {u:Value} (h:u ∈ dcs l):isCell u=true:=by
 obtain ⟨a,_,h⟩:=List.mem_flatMap.1 h
 simp only [List.mem_cons,List.not_mem_nil,or_false] at h
 rcases h with rfl | rfl | rfl <;> rfl
def OD (e:TypeId) (lo:Nat) (w:World) (v:Value) (l:List Deed):Prop:=w.ownsRow lo e 3 v l.length (dcs l)∧∀ a ∈ l,a.text.length≤9223372036854775807
section
variable {e:TypeId} {lo:Nat} {w w' w0:World} {v:Value} {l m:List Deed}
theorem OD.J (h:OD e lo w v l) (k:Ext w w'):OD e lo w' v l :=
 ⟨h.1.kept (row:=none) ⟨k.os,k.tape,k.output,k.size,fun i hi _=>k.block i hi⟩ (by cases hv:v.ownBlock <;> simp),h.2⟩
instance:Mono (OD e lo):=⟨fun k h=>h.J k⟩
theorem OD.lt (h:OD e lo w v l) {k:Nat} (hk:v.ownBlock=some k):lo≤k∧k < w.heap.size:=h.1.lt k hk
theorem OD.O (h:OD e lo w v l):ESD w v l:=by
 have hA:=h.1.2
 rcases hA with ⟨rfl,h0⟩ | ⟨g,cap,cur,rfl,hb,hg,hnc,hcm,hcs,ht⟩
 ·have:l=[]:=List.eq_nil_of_length_eq_zero h0
  subst this
  exact ⟨none,0,rfl,Kp,.inl rfl⟩
 ·refine ⟨_,_,Z,by unfold maxLen at hcm;omega,.inr ⟨g,0,rfl,fun i hi=>?_⟩⟩
  obtain ⟨h1,h2,h3⟩:=dcs_at l i hi
  have c0:=h.1.cellAt (i*3) Kh
  have c1:=h.1.cellAt (i*3+1) Kh
  have c2:=h.1.cellAt (i*3+2) Kh
  rw [Nat.zero_add]
  exact ⟨c0.trans h1,c1.trans h2,c2.trans h3,h.2 _ (List.getElem_mem hi)⟩
theorem OD.blk {b n:Nat} (hb:w.heap[b]? = some (.cells (dcs l).toArray e (0,0))) (hl:lo≤b) (hn:l.length=n) (hm:n≤maxLen) (hx : ∀ a ∈ l,a.text.length≤9223372036854775807):OD e lo w (.slice (some ⟨b,0,none⟩) n n) l:=by
 subst hn
 exact ⟨⟨dcs_len l,.inr ⟨b,l.length,(dcs l).toArray,rfl,hl,hb,Kz _,hm,by simp [dcs_len],by rw [List.take_of_length_le (by simp [dcs_len])]⟩⟩,hx⟩
end
structure ElD (P:Program) (t e:TypeId):Prop where
 und:P.underlying t=some (.slice e)
 info : ∃ i,P.info? e=some i∧i.zero=some (.agg #[.int .i64 0,str [],.int .i64 0])∧i.size=3∧i.bytes≤64
 size : ∀ w,(sizeOf e).run P w=.ok 3 w
 zero : ∀ w,(zeroValue e).run P w=.ok (.agg #[.int .i64 0,str [],.int .i64 0]) w
theorem ElD.of {P:Program} {t e:TypeId} (hu:P.underlying t=some (.slice e)) (h:(P.info? e).map (fun i=>(i.zero,i.size,Nat.ble i.bytes 64))=some (some (.agg #[.int .i64 0,str [],.int .i64 0]),3,true))
  (hs : ∀ w,(sizeOf e).run P w=.ok 3 w) (hz : ∀ w,(zeroValue e).run P w=.ok (.agg #[.int .i64 0,str [],.int .i64 0]) w):ElD P t e:=by
 refine ⟨hu,?_,hs,hz⟩
 cases hi:P.info? e with
 | none=>rw [hi] at h;cases h
 | some i =>
   rw [hi] at h
   simp only [Option.map_some, Option.some.injEq, Prod.mk.injEq] at h
   exact ⟨i, rfl, h.1, h.2.1, by simpa using h.2.2⟩
section
variable {P:Program} {n:Nat} {N:Env→World→Prop} {ρ : Env} {w w0:World} {all:Array Oper} {rest:List Oper} {d:Nat} {ty t el:TypeId} {pos:String} {after:Array Edge} {g:Option (Nat × Bool)} {x y z s:Operand} {v:Value} {l m:List Deed} {lo:Nat} {a1 a2 a3:Deed}
theorem run_buildD2 (hT:ElD P t el):(Instr.buildSlice t 2 #[(0,dv a1),(1,dv a2)]).run P w=.ok (.slice (some ⟨w.heap.size,0,none⟩) 2 2) (w.alloc (.cells (dcs [a1,a2]).toArray el)):=by
 simp [Instr.buildSlice,Qt hT.und,hT.size,hT.zero,newRow,Instr.fill,dv,Value.cells,dcs,Array.range]
 refine congrArg (fun c=>w.alloc (Obj.cells c el)) ?_
 apply Array.ext'
 simp [List.ofFn,Fin.foldr,Fin.foldr.loop]
theorem run_buildD3 (hT:ElD P t el):(Instr.buildSlice t 3 #[(0,dv a1),(1,dv a2),(2,dv a3)]).run P w=.ok (.slice (some ⟨w.heap.size,0,none⟩) 3 3) (w.alloc (.cells (dcs [a1,a2,a3]).toArray el)):=by
 simp [Instr.buildSlice,Qt hT.und,hT.size,hT.zero,newRow,Instr.fill,dv,Value.cells,dcs,Array.range]
 refine congrArg (fun c=>w.alloc (Obj.cells c el)) ?_
 apply Array.ext'
 simp [List.ofFn,Fin.foldr,Fin.foldr.loop]
theorem Wo_buildD2 (hw:wantedE all ⟨some d,.buildSlice t 2 #[(0,x),(1,y)],ty,pos,after,g⟩ ρ = true) (hT:ElD P t el) (hx:evalE ρ x=dv a1) (hy:evalE ρ y=dv a2) (h1:a1.text.length≤9223372036854775807) (h2:a2.text.length≤9223372036854775807)
  (hk : ∀ b w1,w.heap.size≤b→Ext w w1→OD el w.heap.size w1 (.slice (some ⟨b,0,none⟩) 2 2) [a1,a2]→Wops P n all rest N (upd ρ d (.slice (some ⟨b,0,none⟩) 2 2)) w1) :
  Wops P n all (⟨some d,.buildSlice t 2 #[(0,x),(1,y)],ty,pos,after,g⟩::rest) N ρ w:=by
 refine Wo_w hw (show OpW P (.buildSlice t 2 #[(0,x),(1,y)]) ty ρ w (.slice (some ⟨w.heap.size,0,none⟩) 2 2) (w.alloc (.cells (dcs [a1,a2]).toArray el)) from ?_) (hk _ _ (Kz _) ((Jf w).alloc _) (OD.blk (heap_alloc_new w _) (Kz _) Z (by unfold maxLen;omega) (by simpa using ⟨h1,h2⟩)))
 simp [OpW,execOp,hx,hy,run_buildD2 hT]
theorem Sf (hw:wantedE all ⟨some d,.buildSlice t 3 #[(0,x),(1,y),(2,z)],ty,pos,after,g⟩ ρ = true) (hT:ElD P t el) (hx:evalE ρ x=dv a1) (hy:evalE ρ y=dv a2) (hz:evalE ρ z=dv a3) (h1:a1.text.length≤9223372036854775807) (h2:a2.text.length≤9223372036854775807) (h3:a3.text.length≤9223372036854775807)
  (hk : ∀ b w1,w.heap.size≤b→Ext w w1→OD el w.heap.size w1 (.slice (some ⟨b,0,none⟩) 3 3) [a1,a2,a3]→Wops P n all rest N (upd ρ d (.slice (some ⟨b,0,none⟩) 3 3)) w1) :
  Wops P n all (⟨some d,.buildSlice t 3 #[(0,x),(1,y),(2,z)],ty,pos,after,g⟩::rest) N ρ w:=by
 refine Wo_w hw (show OpW P (.buildSlice t 3 #[(0,x),(1,y),(2,z)]) ty ρ w (.slice (some ⟨w.heap.size,0,none⟩) 3 3) (w.alloc (.cells (dcs [a1,a2,a3]).toArray el)) from ?_) (hk _ _ (Kz _) ((Jf w).alloc _) (OD.blk (heap_alloc_new w _) (Kz _) Z (by unfold maxLen;omega) (by simpa using ⟨h1,h2,h3⟩)))
 simp [OpW,execOp,hx,hy,hz,run_buildD3 hT]
theorem To {b c k lo2:Nat} (hw:wantedE all ⟨some d,.call { callee:=.builtin .append,args:=#[s,x],argTypes:=#[t,t] },ty,pos,after,g⟩ ρ = true) (hT:ElD P t el)
  (hv:evalE ρ s=v) (hx:evalE ρ x=.slice (some ⟨b,0,none⟩) k c) (h:OD el lo w v l) (hy:OD el lo2 w (.slice (some ⟨b,0,none⟩) k c) m) (hbig:l.length+m.length≤1099511627776) (hlw:lo≤w.heap.size) (h0:Ext w0 w) (hl0:w0.heap.size≤lo)
  (hk : ∀ v' w',OD el lo w' v' (l++m)→Ext w0 w'→w.grownBy w' v.ownBlock→Wops P n all rest N (upd ρ d v') w') :
  Wops P n all (⟨some d,.call { callee:=.builtin .append,args:=#[s,x],argTypes:=#[t,t] },ty,pos,after,g⟩::rest) N ρ w:=by
 obtain ⟨i,hi,hz,hs,hby⟩:=hT.info
 have hkl:k=m.length:=by
  rcases hy.1.2 with ⟨e,_⟩ | ⟨g',cap,cur,e,_⟩
  ·cases e
  ·injection e
 subst hkl
 have hmul:(l.length+m.length)*i.bytes≤140737488355328:=by have:=Nat.mul_le_mul hbig hby;omega
 have hcell : ∀ j u,(dcs m)[j]? = some u→w.cell? ((⟨b,0,none⟩:Addr).add j)=some u:=hy.1.cells (g:=b) rfl
 obtain ⟨v',w',hr,h2,h3,h4⟩:=run_append_own (P:=P) w lo t ty el i _ 3 i.bytes hT.und hi hz hs rfl rfl Kh v l.length (dcs l) h.1 ⟨b,0,none⟩ m.length c (dcs m) (dcs_len m) hcell (fun u hu=>oneCell_of (dcs_one hu)) (by unfold maxLen;omega) hmul hlw
 have hOD:OD el lo w' v' (l++m):=⟨by rw [List.length_append,dcs_app];exact h2,fun a ha=>(List.mem_append.1 ha).elim (h.2 a) (hy.2 a)⟩
 refine Nz (v:=v') (w':=w') hw ?_ (hk v' w' hOD ((Only.grownBy (fp:=v.ownBlock.toList) h3 (fun k hk=>by simp [hk])).J h0 (fun k hk=>?_)) h3)
 ·simp only [execOp,resolve,invoke,builtin,Sem.run_bind,Sem.run_pure,Result.andThen_ok,List.map_toArray,List.map_cons,List.map_nil,hv,hx,hr]
 ·have:v.ownBlock=some k:=by simpa using hk
  have:=(h.lt this).1
  omega
end
end Go.Hs
namespace Go.Proofs.YtbgpppaljpngmaaGreatDoor
open Go.Hs
set_option maxRecDepth 10000
set_option maxHeartbeats 4000000
set_option linter.unusedVariables false
set_option linter.unusedSimpArgs false
theorem leaf_some {O:Option Deed} {u:Value} {k n:Int} {l:List UInt8} (h:O=some ⟨k,l,n⟩) (hu:u=.bool true):Value.tuple #[.agg #[.int .i64 k,str l,.int .i64 n],u]=.tuple #[dv (O.getD ⟨0,[],0⟩),.bool O.isSome]:=by
 subst h;subst hu;rfl
theorem leaf_none {O:Option Deed} {u:Value} (h:O=none) (hu:u=.bool false):Value.tuple #[.agg #[.int .i64 0,str [],.int .i64 0],u]=.tuple #[dv (O.getD ⟨0,[],0⟩),.bool O.isSome]:=by
 subst h;subst hu;rfl
theorem Ld (w:World) (s:List UInt8) (hM:EMx gMx w (.bool true) ()) (hs:s.length≤1048576) :
  Dz 103 [str s] w (Ret w (.tuple #[dv ((rdD s).getD ⟨0,[],0⟩),.bool (rdD s).isSome])):=by
 obtain ⟨wd,hW⟩ : ∃ wd,wd=(cutF 32 s).1:=⟨_,rfl⟩
 obtain ⟨R,hR⟩ : ∃ R,R=(cutF 32 s).2.1:=⟨_,rfl⟩
 obtain ⟨H,hH⟩ : ∃ H,H=(cutF 32 s).2.2:=⟨_,rfl⟩
 have hRl:R.length≤1048576:=by rw [hR];have:=(cutF_len 32 s).2;omega
 have k1 : ∀ w,EMx gMx w (.bool true) ()→Dz 102 [str s,str [32]] w (Ret w (.tuple #[str wd,str R,.bool H])):=fun w hM=>by
  subst hW hR hH;exact Cut_ok w s 32 hM hs
 have Q8:(R.getD 0 0).toNat < 256:=UInt8.toNat_lt _
 have hc:cand s=(if s=[115,105,110,103,108,101] then some ⟨0,[],0⟩
  else if s=[98,97,99,107] then some ⟨4,[],0⟩
  else if wd=[105,110,116,111]∧(R.length:Int)=1∧(48:Int)≤((R.getD 0 0).toNat:Int)∧((R.getD 0 0).toNat:Int)≤57 then some ⟨3,[],((R.getD 0 0).toNat:Int) - 48⟩
  else if wd=[97,100,100]∧H=true then some ⟨1,R,0⟩
  else if wd=[100,114,111,112]∧H=true then some ⟨2,R,0⟩ else none):=by
  subst hW hR hH
  have e:((cutF 32 s).2.1.length=1∧48≤((cutF 32 s).2.1.getD 0 0).toNat∧((cutF 32 s).2.1.getD 0 0).toNat≤57)↔(((cutF 32 s).2.1.length:Int)=1∧(48:Int)≤(((cutF 32 s).2.1.getD 0 0).toNat:Int)∧(((cutF 32 s).2.1.getD 0 0).toNat:Int)≤57):=Kh
  refine ite_congr Z (fun _=>Z) fun _=>ite_congr Z (fun _=>Z) fun _=>ite_congr (propext (and_congr Iff.rfl e)) (fun _=>Z) fun _=>Z
 have hr:=rdD_cand s
 rw [hc] at hr
 obtain ⟨O,hO⟩ : ∃ O,O=rdD s:=⟨_,rfl⟩
 rw [← hO] at hr ⊢
 refine fn_of_Wc3t Tryz.func103 Z Tryz.results103 Tryz.ntmps103 Z Gb Js ?_
 have k2 : ∀ w k n,EMx gMx w (.bool true) ()→Dz 104 [.agg #[.int .i64 k,str [],.int .i64 n]] w (Ret w (str (dtV ⟨k,[],n⟩))):=fun w k n hM=>Lg w k n [] hM Kp
 have k3 : ∀ w k n,EMx gMx w (.bool true) ()→Dz 104 [.agg #[.int .i64 k,str R,.int .i64 n]] w (Ret w (str (dtV ⟨k,R,n⟩))):=fun w k n hM=>Lg w k n R hM hRl
 focus
  refine Vr<|Qd Z Xq ?_;rintro b1 w1 H1 E1 B1;have:=B1.lt;have:=E1.Z;refine Ya Z<|Vp<|Vt<|Ym<|Yv Z<|Vs Z (Xa (a:=.string _) (b:=.string _) Vl Z Z) (k1 _ (Ku E1 hM)) ?_;rintro _ w2 ⟨rfl,E2⟩;have:=E2.Z;refine Ut Z<|Sr Z<|Sr Z<|Uz Z<|Xr Z<|Xr Z<|Ya Z<|Vp<|Vr<|Wo Z (Yu (ps:=[]) (cs:=[_,_,_]) Xq Z Z)<|Qd Z Xq ?_;rintro b2 w3 H2 E3 B2;have:=B2.lt;have:=E3.Z;refine Qs Js B2 Z ((E1.K E2).K E3) ?_;rintro w4 E4 B2 K1 Z1;have E5:=(E2.K E3).A exq E4 K1 Z1 Kh;have:=E5.Z;have E6:=E3.A exq E4 K1 Z1 Kh;have B1:=(B1.J exq).Y (K1 _ Kh)
  refine Vp<|Vt<|Yb<|Vr<|Yv Z<|Wo Z (Yi Z Z)<|Ya Z<|Vp<|Vu Z (fun h1=>?_) (fun h1=>?_);refine Ym<|Yl Jn Ji Z<|Um (v:=.int _ _) Z Ji Z Z Z B2 Kj Kh E4 ?_;rintro w5 E7 B2 K2 Z2;simp only [List.set] at B2;have B1:=B1.Y (K2 _ Kh);refine Vp<|Vt<|Vr<|Rk Gb Js B2 Z<|Vs Z (Xh (a:=.agg _) Zg Z) (k2 _ _ _ (Ku E7 hM)) ?_;rintro _ w6 ⟨rfl,E10⟩;refine Yv Z<|Wo Z (Uo Z Z)<|Vp<|Xn Z (fun h2=>?_) (fun h2=>?_);refine Vt<|Ym<|Wo Z (Yu (ps:=[]) (cs:=[_,_,_]) Xq Z Z)<|Qs Js (B1.J E10) Z (E7.K E10) ?_;rintro w7 E11 B1 K3 Z3;refine Ya Z<|Vp<|Vy ?_
  rotate_left;refine Vw<|Vr<|Rk Gb Js (B2.J E10) Z<|Qs Js (B1.J E10) Z (E7.K E10) ?_;rintro w7 E11 B1 K3 Z3;refine Ya Z<|Vp<|Vy ?_;rotate_left;refine Vr<|Yv Z<|Wo Z (Yi Z Z)<|Ya Z<|Vp<|Vu Z (fun h2=>?_) (fun h2=>?_);refine Ym<|Yl Jn Ji Z<|Um (v:=.int _ _) Z Ji Z Z Z B2 Kj Kh E4 ?_;rintro w5 E7 B2 K2 Z2;simp only [List.set] at B2;have B1:=B1.Y (K2 _ Kh);refine Vp<|Vt<|Vr<|Rk Gb Js B2 Z<|Vs Z (Xh (a:=.agg _) Zg Z) (k2 _ _ _ (Ku E7 hM)) ?_;rintro _ w6 ⟨rfl,E10⟩;refine Yv Z<|Wo Z (Uo Z Z)<|Vp<|Xn Z (fun h3=>?_) (fun h3=>?_)
  refine Vt<|Ym<|Wo Z (Yu (ps:=[]) (cs:=[_,_,_]) Xq Z Z)<|Qs Js (B1.J E10) Z (E7.K E10) ?_;rintro w7 E11 B1 K3 Z3;refine Ya Z<|Vp<|Vy ?_;rotate_left;refine Vw<|Vr<|Rk Gb Js (B2.J E10) Z<|Qs Js (B1.J E10) Z (E7.K E10) ?_;rintro w7 E11 B1 K3 Z3;refine Ya Z<|Vp<|Vy ?_;rotate_left;refine Vr<|Yv Z<|Wo Z (Yi Z Z)<|Xi Z (fun h3=>?_) (fun h3=>?_);refine Yv Z<|Wo Z (Xo Jr Z)<|Yo Z<|Xy Z<|Xi Z (fun h4=>?_) (fun h4=>?_);refine Yv Z<|Wo Z (Yq (k:=0) Jr Z Z Kh) ?_;refine Rs Z<|Xy Z<|Xi Z (fun h5=>?_) (fun h5=>?_)
  refine Yv Z<|Wo Z (Yq (k:=0) Jr Z Z Kh) ?_;refine Wsleq Z<|Xy Z<|Ya Z<|Vp<|Vu Z (fun h6=>?_) (fun h6=>?_);refine Vt<|Ym<|Yl Jn Ji Z<|Um (v:=.int _ _) Z Ji Z Z Z B2 Kj Kh E4 ?_;rintro w5 E7 B2 K2 Z2;simp only [List.set] at B2;have B1:=B1.Y (K2 _ Kh);refine Vp<|Ym<|Yv Z<|Wo Z (Yq (k:=0) Jr Z Z Kh) ?_;refine Wo Z (opv_sub_u8 Z Z Kh) ?_;refine Wo Z (Rv Gw Zl Z Kh) ?_;refine Yl Jn Ji Z<|Um (v:=.int _ _) Z Ji Z Z Z B2 Kj Kh E7 ?_;rintro w6 E10 B2 K3 Z3;simp only [List.set] at B2
  have B1:=B1.Y (K3 _ Kh);refine Vp<|Vt<|Vr<|Rk Gb Js B2 Z<|Vs Z (Xh (a:=.agg _) Zg Z) (k2 _ _ _ (Ku E10 hM)) ?_;rintro _ w7 ⟨rfl,E13⟩;refine Yv Z<|Wo Z (Uo Z Z)<|Vp<|Xn Z (fun h7=>?_) (fun h7=>?_);refine Vr<|Wo Z (Yu (ps:=[]) (cs:=[_,_,_]) Xq Z Z)<|Qs Js (B1.J E13) Z (E10.K E13) ?_;rintro w8 E14 B1 K4 Z4;refine Ya Z<|Vp<|Vy ?_;rotate_left;refine Vw<|Vr<|Rk Gb Js (B2.J E13) Z<|Qs Js (B1.J E13) Z (E10.K E13) ?_;rintro w8 E14 B1 K4 Z4;refine Ya Z<|Vp<|Vy ?_;rotate_left;refine Vr<|Yv Z<|Wo Z (Yi Z Z)<|Xi Z (fun h7=>?_) (fun h7=>?_)
  refine Xp Z<|Xy Z<|Ya Z<|Vp<|Up Z (fun h8=>?_) (fun h8=>?_);refine Vr<|Yl Jn Ji Z<|Um (v:=.int _ _) Z Ji Z Z Z B2 Kj Kh E4 ?_;rintro w5 E7 B2 K2 Z2;simp only [List.set] at B2;have B1:=B1.Y (K2 _ Kh);refine Vp<|Ym<|Yv Z<|Yl Jn Jo Z<|Um (v:=.string _) Z Jo Z Z Z B2 Kj Kh E7 ?_;rintro w6 E10 B2 K3 Z3;simp only [List.set] at B2;have B1:=B1.Y (K3 _ Kh);refine Vp<|Vt<|Vr<|Rk Gb Js B2 Z<|Vs Z (Xh (a:=.agg _) Zg Z) (k3 _ _ _ (Ku E10 hM)) ?_;rintro _ w7 ⟨rfl,E13⟩;refine Yv Z<|Wo Z (Uo Z Z)<|Vp<|Xn Z (fun h9=>?_) (fun h9=>?_)
  refine Vr<|Wo Z (Yu (ps:=[]) (cs:=[_,_,_]) Xq Z Z)<|Qs Js (B1.J E13) Z (E10.K E13) ?_;rintro w8 E14 B1 K4 Z4;refine Ya Z<|Vp<|Vy ?_;rotate_left;refine Vw<|Vr<|Rk Gb Js (B2.J E13) Z<|Qs Js (B1.J E13) Z (E10.K E13) ?_;rintro w8 E14 B1 K4 Z4;refine Ya Z<|Vp<|Vy ?_;rotate_left;refine Vr<|Yv Z<|Wo Z (Yi Z Z)<|Xi Z (fun h9=>?_) (fun h9=>?_);refine Xp Z<|Xy Z<|Ya Z<|Vp<|Up Z (fun h10=>?_) (fun h10=>?_);refine Vr<|Yl Jn Ji Z<|Um (v:=.int _ _) Z Ji Z Z Z B2 Kj Kh E4 ?_;rintro w5 E7 B2 K2 Z2;simp only [List.set] at B2;have B1:=B1.Y (K2 _ Kh)
  refine Vp<|Ym<|Yv Z<|Yl Jn Jo Z<|Um (v:=.string _) Z Jo Z Z Z B2 Kj Kh E7 ?_;rintro w6 E10 B2 K3 Z3;simp only [List.set] at B2;have B1:=B1.Y (K3 _ Kh);refine Vp<|Vt<|Vr<|Rk Gb Js B2 Z<|Vs Z (Xh (a:=.agg _) Zg Z) (k3 _ _ _ (Ku E10 hM)) ?_;rintro _ w7 ⟨rfl,E13⟩;refine Yv Z<|Wo Z (Uo Z Z)<|Vp<|Xn Z (fun h11=>?_) (fun h11=>?_);refine Vr<|Wo Z (Yu (ps:=[]) (cs:=[_,_,_]) Xq Z Z)<|Qs Js (B1.J E13) Z (E10.K E13) ?_;rintro w8 E14 B1 K4 Z4;refine Ya Z<|Vp<|Vy ?_;rotate_left
  refine Vw<|Vr<|Rk Gb Js (B2.J E13) Z<|Qs Js (B1.J E13) Z (E10.K E13) ?_;rintro w8 E14 B1 K4 Z4;refine Ya Z<|Vp<|Vy ?_;rotate_left;refine Vr<|Wo Z (Yu (ps:=[]) (cs:=[_,_,_]) Xq Z Z)<|Qs Js B1 Z E4 ?_;rintro w5 E7 B1 K2 Z2;refine Ya Z<|Vp<|Vy ?_;rotate_left;refine Vq Z<|Xb Z<|Ya Z<|Vp<|Vx Z ?_;refine Vr<|Wo Z (Yu (ps:=[]) (cs:=[_,_,_]) Xq Z Z)<|Qs Js B1 Z E4 ?_;rintro w5 E7 B1 K2 Z2;refine Ya Z<|Vp<|Vy ?_;rotate_left;refine Vq Z<|Xb Z<|Ya Z<|Vp<|Vx Z ?_;refine Vr<|Yv Z<|Wo Z (Yi Z Z)<|Xi Z (fun h8=>?_) (fun h8=>?_)
  refine Xp Z<|Xy Z<|Ya Z<|Vp<|Up Z (fun h9=>?_) (fun h9=>?_);refine Vr<|Yl Jn Ji Z<|Um (v:=.int _ _) Z Ji Z Z Z B2 Kj Kh E4 ?_;rintro w5 E7 B2 K2 Z2;simp only [List.set] at B2;have B1:=B1.Y (K2 _ Kh);refine Vp<|Ym<|Yv Z<|Yl Jn Jo Z<|Um (v:=.string _) Z Jo Z Z Z B2 Kj Kh E7 ?_;rintro w6 E10 B2 K3 Z3;simp only [List.set] at B2;have B1:=B1.Y (K3 _ Kh);refine Vp<|Vt<|Vr<|Rk Gb Js B2 Z<|Vs Z (Xh (a:=.agg _) Zg Z) (k3 _ _ _ (Ku E10 hM)) ?_;rintro _ w7 ⟨rfl,E13⟩;refine Yv Z<|Wo Z (Uo Z Z)<|Vp<|Xn Z (fun h10=>?_) (fun h10=>?_)
  refine Vr<|Wo Z (Yu (ps:=[]) (cs:=[_,_,_]) Xq Z Z)<|Qs Js (B1.J E13) Z (E10.K E13) ?_;rintro w8 E14 B1 K4 Z4;refine Ya Z<|Vp<|Vy ?_;rotate_left;refine Vw<|Vr<|Rk Gb Js (B2.J E13) Z<|Qs Js (B1.J E13) Z (E10.K E13) ?_;rintro w8 E14 B1 K4 Z4;refine Ya Z<|Vp<|Vy ?_;rotate_left;refine Vr<|Wo Z (Yu (ps:=[]) (cs:=[_,_,_]) Xq Z Z)<|Qs Js B1 Z E4 ?_;rintro w5 E7 B1 K2 Z2;refine Ya Z<|Vp<|Vy ?_;rotate_left;refine Vq Z<|Xb Z<|Ya Z<|Vp<|Vx Z ?_;refine Vr<|Wo Z (Yu (ps:=[]) (cs:=[_,_,_]) Xq Z Z)<|Qs Js B1 Z E4 ?_;rintro w5 E7 B1 K2 Z2;have B2:=B2.Y (K2 _ Kh)
  refine Ya Z<|Vp<|Vy ?_;rotate_left;refine Vq Z<|Vq Z<|Vq Z<|Xb Z<|Ya Z<|Vp<|Vx Z ?_;refine Vr<|Yv Z<|Wo Z (Yi Z Z)<|Xi Z (fun h6=>?_) (fun h6=>?_);refine Xp Z<|Xy Z<|Ya Z<|Vp<|Up Z (fun h7=>?_) (fun h7=>?_);refine Vr<|Yl Jn Ji Z<|Um (v:=.int _ _) Z Ji Z Z Z B2 Kj Kh E4 ?_;rintro w5 E7 B2 K2 Z2;simp only [List.set] at B2;have B1:=B1.Y (K2 _ Kh);refine Vp<|Ym<|Yv Z<|Yl Jn Jo Z<|Um (v:=.string _) Z Jo Z Z Z B2 Kj Kh E7 ?_;rintro w6 E10 B2 K3 Z3;simp only [List.set] at B2;have B1:=B1.Y (K3 _ Kh)
  refine Vp<|Vt<|Vr<|Rk Gb Js B2 Z<|Vs Z (Xh (a:=.agg _) Zg Z) (k3 _ _ _ (Ku E10 hM)) ?_;rintro _ w7 ⟨rfl,E13⟩;refine Yv Z<|Wo Z (Uo Z Z)<|Vp<|Xn Z (fun h8=>?_) (fun h8=>?_);refine Vr<|Wo Z (Yu (ps:=[]) (cs:=[_,_,_]) Xq Z Z)<|Qs Js (B1.J E13) Z (E10.K E13) ?_;rintro w8 E14 B1 K4 Z4;refine Ya Z<|Vp<|Vy ?_;rotate_left;refine Vw<|Vr<|Rk Gb Js (B2.J E13) Z<|Qs Js (B1.J E13) Z (E10.K E13) ?_;rintro w8 E14 B1 K4 Z4;refine Ya Z<|Vp<|Vy ?_;rotate_left;refine Vr<|Yv Z<|Wo Z (Yi Z Z)<|Xi Z (fun h8=>?_) (fun h8=>?_)
  refine Xp Z<|Xy Z<|Ya Z<|Vp<|Up Z (fun h9=>?_) (fun h9=>?_);refine Vr<|Yl Jn Ji Z<|Um (v:=.int _ _) Z Ji Z Z Z B2 Kj Kh E4 ?_;rintro w5 E7 B2 K2 Z2;simp only [List.set] at B2;have B1:=B1.Y (K2 _ Kh);refine Vp<|Ym<|Yv Z<|Yl Jn Jo Z<|Um (v:=.string _) Z Jo Z Z Z B2 Kj Kh E7 ?_;rintro w6 E10 B2 K3 Z3;simp only [List.set] at B2;have B1:=B1.Y (K3 _ Kh);refine Vp<|Vt<|Vr<|Rk Gb Js B2 Z<|Vs Z (Xh (a:=.agg _) Zg Z) (k3 _ _ _ (Ku E10 hM)) ?_;rintro _ w7 ⟨rfl,E13⟩;refine Yv Z<|Wo Z (Uo Z Z)<|Vp<|Xn Z (fun h10=>?_) (fun h10=>?_)
  refine Vr<|Wo Z (Yu (ps:=[]) (cs:=[_,_,_]) Xq Z Z)<|Qs Js (B1.J E13) Z (E10.K E13) ?_;rintro w8 E14 B1 K4 Z4;refine Ya Z<|Vp<|Vy ?_;rotate_left;refine Vw<|Vr<|Rk Gb Js (B2.J E13) Z<|Qs Js (B1.J E13) Z (E10.K E13) ?_;rintro w8 E14 B1 K4 Z4;refine Ya Z<|Vp<|Vy ?_;rotate_left;refine Vr<|Wo Z (Yu (ps:=[]) (cs:=[_,_,_]) Xq Z Z)<|Qs Js B1 Z E4 ?_;rintro w5 E7 B1 K2 Z2;refine Ya Z<|Vp<|Vy ?_;rotate_left;refine Vq Z<|Xb Z<|Ya Z<|Vp<|Vx Z ?_;refine Vr<|Wo Z (Yu (ps:=[]) (cs:=[_,_,_]) Xq Z Z)<|Qs Js B1 Z E4 ?_;rintro w5 E7 B1 K2 Z2;refine Ya Z<|Vp<|Vy ?_;rotate_left
  refine Vq Z<|Xb Z<|Ya Z<|Vp<|Vx Z ?_;refine Vr<|Yv Z<|Wo Z (Yi Z Z)<|Xi Z (fun h7=>?_) (fun h7=>?_);refine Xp Z<|Xy Z<|Ya Z<|Vp<|Up Z (fun h8=>?_) (fun h8=>?_);refine Vr<|Yl Jn Ji Z<|Um (v:=.int _ _) Z Ji Z Z Z B2 Kj Kh E4 ?_;rintro w5 E7 B2 K2 Z2;simp only [List.set] at B2;have B1:=B1.Y (K2 _ Kh);refine Vp<|Ym<|Yv Z<|Yl Jn Jo Z<|Um (v:=.string _) Z Jo Z Z Z B2 Kj Kh E7 ?_;rintro w6 E10 B2 K3 Z3;simp only [List.set] at B2;have B1:=B1.Y (K3 _ Kh)
  refine Vp<|Vt<|Vr<|Rk Gb Js B2 Z<|Vs Z (Xh (a:=.agg _) Zg Z) (k3 _ _ _ (Ku E10 hM)) ?_;rintro _ w7 ⟨rfl,E13⟩;refine Yv Z<|Wo Z (Uo Z Z)<|Vp<|Xn Z (fun h9=>?_) (fun h9=>?_);refine Vr<|Wo Z (Yu (ps:=[]) (cs:=[_,_,_]) Xq Z Z)<|Qs Js (B1.J E13) Z (E10.K E13) ?_;rintro w8 E14 B1 K4 Z4;refine Ya Z<|Vp<|Vy ?_;rotate_left;refine Vw<|Vr<|Rk Gb Js (B2.J E13) Z<|Qs Js (B1.J E13) Z (E10.K E13) ?_;rintro w8 E14 B1 K4 Z4;refine Ya Z<|Vp<|Vy ?_;rotate_left;refine Vr<|Wo Z (Yu (ps:=[]) (cs:=[_,_,_]) Xq Z Z)<|Qs Js B1 Z E4 ?_;rintro w5 E7 B1 K2 Z2;refine Ya Z<|Vp<|Vy ?_
  rotate_left;refine Vq Z<|Xb Z<|Ya Z<|Vp<|Vx Z ?_;refine Vr<|Wo Z (Yu (ps:=[]) (cs:=[_,_,_]) Xq Z Z)<|Qs Js B1 Z E4 ?_;rintro w5 E7 B1 K2 Z2;have B2:=B2.Y (K2 _ Kh);refine Ya Z<|Vp<|Vy ?_;rotate_left;refine Vq Z<|Vq Z<|Vq Z<|Xb Z<|Xp Z<|Vq Z<|Vq Z<|Vq Z<|Xb Z<|Ya Z<|Vp<|Vx Z ?_;refine Vr<|Yv Z<|Wo Z (Yi Z Z)<|Xi Z (fun h5=>?_) (fun h5=>?_);refine Xp Z<|Xy Z<|Ya Z<|Vp<|Up Z (fun h6=>?_) (fun h6=>?_);refine Vr<|Yl Jn Ji Z<|Um (v:=.int _ _) Z Ji Z Z Z B2 Kj Kh E4 ?_;rintro w5 E7 B2 K2 Z2;simp only [List.set] at B2
  have B1:=B1.Y (K2 _ Kh);refine Vp<|Ym<|Yv Z<|Yl Jn Jo Z<|Um (v:=.string _) Z Jo Z Z Z B2 Kj Kh E7 ?_;rintro w6 E10 B2 K3 Z3;simp only [List.set] at B2;have B1:=B1.Y (K3 _ Kh);refine Vp<|Vt<|Vr<|Rk Gb Js B2 Z<|Vs Z (Xh (a:=.agg _) Zg Z) (k3 _ _ _ (Ku E10 hM)) ?_;rintro _ w7 ⟨rfl,E13⟩;refine Yv Z<|Wo Z (Uo Z Z)<|Vp<|Xn Z (fun h7=>?_) (fun h7=>?_);refine Vr<|Wo Z (Yu (ps:=[]) (cs:=[_,_,_]) Xq Z Z)<|Qs Js (B1.J E13) Z (E10.K E13) ?_;rintro w8 E14 B1 K4 Z4;refine Ya Z<|Vp<|Vy ?_;rotate_left
  refine Vw<|Vr<|Rk Gb Js (B2.J E13) Z<|Qs Js (B1.J E13) Z (E10.K E13) ?_;rintro w8 E14 B1 K4 Z4;refine Ya Z<|Vp<|Vy ?_;rotate_left;refine Vr<|Yv Z<|Wo Z (Yi Z Z)<|Xi Z (fun h7=>?_) (fun h7=>?_);refine Xp Z<|Xy Z<|Ya Z<|Vp<|Up Z (fun h8=>?_) (fun h8=>?_);refine Vr<|Yl Jn Ji Z<|Um (v:=.int _ _) Z Ji Z Z Z B2 Kj Kh E4 ?_;rintro w5 E7 B2 K2 Z2;simp only [List.set] at B2;have B1:=B1.Y (K2 _ Kh);refine Vp<|Ym<|Yv Z<|Yl Jn Jo Z<|Um (v:=.string _) Z Jo Z Z Z B2 Kj Kh E7 ?_;rintro w6 E10 B2 K3 Z3;simp only [List.set] at B2
  have B1:=B1.Y (K3 _ Kh);refine Vp<|Vt<|Vr<|Rk Gb Js B2 Z<|Vs Z (Xh (a:=.agg _) Zg Z) (k3 _ _ _ (Ku E10 hM)) ?_;rintro _ w7 ⟨rfl,E13⟩;refine Yv Z<|Wo Z (Uo Z Z)<|Vp<|Xn Z (fun h9=>?_) (fun h9=>?_);refine Vr<|Wo Z (Yu (ps:=[]) (cs:=[_,_,_]) Xq Z Z)<|Qs Js (B1.J E13) Z (E10.K E13) ?_;rintro w8 E14 B1 K4 Z4;refine Ya Z<|Vp<|Vy ?_;rotate_left;refine Vw<|Vr<|Rk Gb Js (B2.J E13) Z<|Qs Js (B1.J E13) Z (E10.K E13) ?_;rintro w8 E14 B1 K4 Z4;refine Ya Z<|Vp<|Vy ?_;rotate_left;refine Vr<|Wo Z (Yu (ps:=[]) (cs:=[_,_,_]) Xq Z Z)<|Qs Js B1 Z E4 ?_
  rintro w5 E7 B1 K2 Z2;refine Ya Z<|Vp<|Vy ?_;rotate_left;refine Vq Z<|Xb Z<|Ya Z<|Vp<|Vx Z ?_;refine Vr<|Wo Z (Yu (ps:=[]) (cs:=[_,_,_]) Xq Z Z)<|Qs Js B1 Z E4 ?_;rintro w5 E7 B1 K2 Z2;refine Ya Z<|Vp<|Vy ?_;rotate_left;refine Vq Z<|Xb Z<|Ya Z<|Vp<|Vx Z ?_;refine Vr<|Yv Z<|Wo Z (Yi Z Z)<|Xi Z (fun h6=>?_) (fun h6=>?_);refine Xp Z<|Xy Z<|Ya Z<|Vp<|Up Z (fun h7=>?_) (fun h7=>?_);refine Vr<|Yl Jn Ji Z<|Um (v:=.int _ _) Z Ji Z Z Z B2 Kj Kh E4 ?_;rintro w5 E7 B2 K2 Z2;simp only [List.set] at B2;have B1:=B1.Y (K2 _ Kh)
  refine Vp<|Ym<|Yv Z<|Yl Jn Jo Z<|Um (v:=.string _) Z Jo Z Z Z B2 Kj Kh E7 ?_;rintro w6 E10 B2 K3 Z3;simp only [List.set] at B2;have B1:=B1.Y (K3 _ Kh);refine Vp<|Vt<|Vr<|Rk Gb Js B2 Z<|Vs Z (Xh (a:=.agg _) Zg Z) (k3 _ _ _ (Ku E10 hM)) ?_;rintro _ w7 ⟨rfl,E13⟩;refine Yv Z<|Wo Z (Uo Z Z)<|Vp<|Xn Z (fun h8=>?_) (fun h8=>?_);refine Vr<|Wo Z (Yu (ps:=[]) (cs:=[_,_,_]) Xq Z Z)<|Qs Js (B1.J E13) Z (E10.K E13) ?_;rintro w8 E14 B1 K4 Z4;refine Ya Z<|Vp<|Vy ?_;rotate_left
  refine Vw<|Vr<|Rk Gb Js (B2.J E13) Z<|Qs Js (B1.J E13) Z (E10.K E13) ?_;rintro w8 E14 B1 K4 Z4;refine Ya Z<|Vp<|Vy ?_;rotate_left;refine Vr<|Wo Z (Yu (ps:=[]) (cs:=[_,_,_]) Xq Z Z)<|Qs Js B1 Z E4 ?_;rintro w5 E7 B1 K2 Z2;refine Ya Z<|Vp<|Vy ?_;rotate_left;refine Vq Z<|Xb Z<|Ya Z<|Vp<|Vx Z ?_;refine Vr<|Wo Z (Yu (ps:=[]) (cs:=[_,_,_]) Xq Z Z)<|Qs Js B1 Z E4 ?_;rintro w5 E7 B1 K2 Z2;refine Ya Z<|Vp<|Vy ?_;rotate_left
  refine Vq Z<|Vq Z<|Vq Z<|Xb Z<|Xp Z<|Vq Z<|Vq Z<|Vq Z<|Xb Z<|Xp Z<|Vq Z<|Vq Z<|Vq Z<|Xb Z<|Ya Z<|Vp<|Vx Z ?_;refine Vr<|Yv Z<|Wo Z (Yi Z Z)<|Xi Z (fun h4=>?_) (fun h4=>?_);refine Xp Z<|Xy Z<|Ya Z<|Vp<|Up Z (fun h5=>?_) (fun h5=>?_);refine Vr<|Yl Jn Ji Z<|Um (v:=.int _ _) Z Ji Z Z Z B2 Kj Kh E4 ?_;rintro w5 E7 B2 K2 Z2;simp only [List.set] at B2;have B1:=B1.Y (K2 _ Kh);refine Vp<|Ym<|Yv Z<|Yl Jn Jo Z<|Um (v:=.string _) Z Jo Z Z Z B2 Kj Kh E7 ?_;rintro w6 E10 B2 K3 Z3;simp only [List.set] at B2
  have B1:=B1.Y (K3 _ Kh);refine Vp<|Vt<|Vr<|Rk Gb Js B2 Z<|Vs Z (Xh (a:=.agg _) Zg Z) (k3 _ _ _ (Ku E10 hM)) ?_;rintro _ w7 ⟨rfl,E13⟩;refine Yv Z<|Wo Z (Uo Z Z)<|Vp<|Xn Z (fun h6=>?_) (fun h6=>?_);refine Vr<|Wo Z (Yu (ps:=[]) (cs:=[_,_,_]) Xq Z Z)<|Qs Js (B1.J E13) Z (E10.K E13) ?_;rintro w8 E14 B1 K4 Z4;refine Ya Z<|Vp<|Vy ?_;rotate_left;refine Vw<|Vr<|Rk Gb Js (B2.J E13) Z<|Qs Js (B1.J E13) Z (E10.K E13) ?_;rintro w8 E14 B1 K4 Z4;refine Ya Z<|Vp<|Vy ?_;rotate_left;refine Vr<|Yv Z<|Wo Z (Yi Z Z)<|Xi Z (fun h6=>?_) (fun h6=>?_)
  refine Xp Z<|Xy Z<|Ya Z<|Vp<|Up Z (fun h7=>?_) (fun h7=>?_);refine Vr<|Yl Jn Ji Z<|Um (v:=.int _ _) Z Ji Z Z Z B2 Kj Kh E4 ?_;rintro w5 E7 B2 K2 Z2;simp only [List.set] at B2;have B1:=B1.Y (K2 _ Kh);refine Vp<|Ym<|Yv Z<|Yl Jn Jo Z<|Um (v:=.string _) Z Jo Z Z Z B2 Kj Kh E7 ?_;rintro w6 E10 B2 K3 Z3;simp only [List.set] at B2;have B1:=B1.Y (K3 _ Kh);refine Vp<|Vt<|Vr<|Rk Gb Js B2 Z<|Vs Z (Xh (a:=.agg _) Zg Z) (k3 _ _ _ (Ku E10 hM)) ?_;rintro _ w7 ⟨rfl,E13⟩;refine Yv Z<|Wo Z (Uo Z Z)<|Vp<|Xn Z (fun h8=>?_) (fun h8=>?_)
  refine Vr<|Wo Z (Yu (ps:=[]) (cs:=[_,_,_]) Xq Z Z)<|Qs Js (B1.J E13) Z (E10.K E13) ?_;rintro w8 E14 B1 K4 Z4;refine Ya Z<|Vp<|Vy ?_;rotate_left;refine Vw<|Vr<|Rk Gb Js (B2.J E13) Z<|Qs Js (B1.J E13) Z (E10.K E13) ?_;rintro w8 E14 B1 K4 Z4;refine Ya Z<|Vp<|Vy ?_;rotate_left;refine Vr<|Wo Z (Yu (ps:=[]) (cs:=[_,_,_]) Xq Z Z)<|Qs Js B1 Z E4 ?_;rintro w5 E7 B1 K2 Z2;refine Ya Z<|Vp<|Vy ?_;rotate_left;refine Vq Z<|Xb Z<|Ya Z<|Vp<|Vx Z ?_;refine Vr<|Wo Z (Yu (ps:=[]) (cs:=[_,_,_]) Xq Z Z)<|Qs Js B1 Z E4 ?_;rintro w5 E7 B1 K2 Z2;refine Ya Z<|Vp<|Vy ?_;rotate_left
  refine Vq Z<|Xb Z<|Ya Z<|Vp<|Vx Z ?_;refine Vr<|Yv Z<|Wo Z (Yi Z Z)<|Xi Z (fun h5=>?_) (fun h5=>?_);refine Xp Z<|Xy Z<|Ya Z<|Vp<|Up Z (fun h6=>?_) (fun h6=>?_);refine Vr<|Yl Jn Ji Z<|Um (v:=.int _ _) Z Ji Z Z Z B2 Kj Kh E4 ?_;rintro w5 E7 B2 K2 Z2;simp only [List.set] at B2;have B1:=B1.Y (K2 _ Kh);refine Vp<|Ym<|Yv Z<|Yl Jn Jo Z<|Um (v:=.string _) Z Jo Z Z Z B2 Kj Kh E7 ?_;rintro w6 E10 B2 K3 Z3;simp only [List.set] at B2;have B1:=B1.Y (K3 _ Kh)
  refine Vp<|Vt<|Vr<|Rk Gb Js B2 Z<|Vs Z (Xh (a:=.agg _) Zg Z) (k3 _ _ _ (Ku E10 hM)) ?_;rintro _ w7 ⟨rfl,E13⟩;refine Yv Z<|Wo Z (Uo Z Z)<|Vp<|Xn Z (fun h7=>?_) (fun h7=>?_);refine Vr<|Wo Z (Yu (ps:=[]) (cs:=[_,_,_]) Xq Z Z)<|Qs Js (B1.J E13) Z (E10.K E13) ?_;rintro w8 E14 B1 K4 Z4;refine Ya Z<|Vp<|Vy ?_;rotate_left;refine Vw<|Vr<|Rk Gb Js (B2.J E13) Z<|Qs Js (B1.J E13) Z (E10.K E13) ?_;rintro w8 E14 B1 K4 Z4;refine Ya Z<|Vp<|Vy ?_;rotate_left;refine Vr<|Wo Z (Yu (ps:=[]) (cs:=[_,_,_]) Xq Z Z)<|Qs Js B1 Z E4 ?_;rintro w5 E7 B1 K2 Z2;refine Ya Z<|Vp<|Vy ?_
  rotate_left;refine Vq Z<|Xb Z<|Ya Z<|Vp<|Vx Z ?_;refine Vr<|Wo Z (Yu (ps:=[]) (cs:=[_,_,_]) Xq Z Z)<|Qs Js B1 Z E4 ?_;rintro w5 E7 B1 K2 Z2;refine Ya Z<|Vp<|Vy ?_;rotate_left
 all_goals refine ⟨_,_,_,_,rfl,Kk,?_,Kk⟩
 all_goals first
  | refine leaf_none ?_ rfl
  | refine leaf_some ?_ rfl
 all_goals clear hc hO k1 k2 k3 hW hR hH hRl Q8
 all_goals rw [hr]
 all_goals try (simp_all;done)
 all_goals (clear hr;simp_all)
 all_goals (rw [if_neg Kh])
def digN (l:List UInt8):Int:=l.foldl (fun n c=>10*n+((c.toNat:Int) - 48)) 0
def digV (t:List UInt8):Int:=if (1≤(t.length:Int)∧(t.length:Int)≤5)∧¬(1 < (t.length:Int)∧((t.getD 0 0).toNat:Int)=48)∧∀ c ∈ t,48≤c.toNat∧c.toNat≤57 then digN t else -1
theorem digV_one {d:Nat} (hd:d≤9):digV [dig d]=d:=by
 have h:=Te (n:=d) Kh
 rw [digV,if_pos]
 ·simp only [digN,List.foldl_cons,List.foldl_nil,h];omega
 ·refine ⟨Kp,Kp,fun c hc=>?_⟩
  obtain rfl:=List.mem_singleton.1 hc;omega
theorem Rz (w:World) (t:List UInt8) (ht:t.length≤1048576):Dz 114 [str t] w (Ret w (.int .i64 (digV t))):=by
 refine Yr Tryz.func114 Z Tryz.results114 Tryz.ntmps114 Z ?_
 focus
  refine Vr<|Yx Z<|Vp<|Vt<|Vr<|Yv Z<|Wo Z (Xo Jr Z)<|Vs Z (Qq (a:=.int _ _) (b:=.int _ _) (c:=.int _ _) Gl Z Z Z) (Rn _ _ _ _) ?_;rintro _ w1 ⟨rfl,E1⟩;refine Xz Z<|Qv Z (fun h1=>?_) (fun h1=>?_);refine Vq Z<|Vq Z<|Vq Z<|Vq Z<|Vq Z<|Vq Z<|Vq Z<|Vq Z<|Xy Z<|Vp<|Xe Z ?_;refine Vr<|Yx Z<|Vp<|Vy ?_;refine Yh (v:=.int _ _) Z ?_;refine ⟨congrArg (Value.int .i64) ?_,E1⟩;rotate_left;refine Yv Z<|Wo Z (Xo Jr Z)<|Qo Z<|Xi Z (fun h2=>?_) (fun h2=>?_);refine Yv Z<|Wo Z (Yq (k:=0) Jr Z Z Kh) ?_
  refine Yo Z<|Xy Z<|Xb Z<|Vp<|Vu Z (fun h3=>?_) (fun h3=>?_);refine Vr<|Yx Z<|Vp<|Vy ?_;refine Yh (v:=.int _ _) Z ?_;refine ⟨congrArg (Value.int .i64) ?_,E1⟩;rotate_left;refine Vw<|Vr<|Yx Z<|Vp<|Vt<|Vr<|Yx Z<|Vp<|Yb ?_;rotate_left;refine Vq Z<|Vq Z<|Vq Z<|Xb Z<|Xb Z<|Vp<|Vx Z ?_;refine Vw<|Vr<|Yx Z<|Vp<|Vt<|Vr<|Yx Z<|Vp<|Yb ?_;rotate_left
 ·rw [digV,if_neg (fun h=>Kh)]
 ·rw [digV,if_neg (fun h=>Kh)]
 ·focus
  refine Xt [2,3,4,19,20,21,22,23,24,25,26,27,28,29,30,31,32,33,34,35,36,37,38,39,40,41,42] (fun ((k,n):Nat × Int)=>[(4,.int .i64 (k:Nat)),(3,.int .i64 n)]) (fun (k,n) w'=>Ext w w'∧k≤t.length∧0≤n∧(k≤0→n≤0)∧(k≤1→n≤9)∧(k≤2→n≤99)∧(k≤3→n≤999)∧(k≤4→n≤9999)∧n≤99999∧n=digN (t.take k)∧∀ c ∈ t.take k,48≤c.toNat∧c.toNat≤57) (fun x=>t.length - x.1) (0,0) Kn ?_ ?_
  ·exact ⟨Kk,Ja _,Kh,Kh,Kh,Kh,Kh,Kh,Kh,by simp [digN],Kp⟩
  rintro ⟨k,n⟩ ρj w2 ⟨E2,hk,h0,i0,i1,i2,i3,i4,i5,hone,hall⟩
  have hc8:(t.getD k 0).toNat < 256:=UInt8.toNat_lt _
  focus
   refine Vt<|Vr<|Vz Z<|Yv Z<|Wo Z (Xo Jr Z)<|Yy Z<|Vp<|Vu Z (fun h4=>?_) (fun h4=>?_);refine Vw<|Vt<|Yb<|Vt<|Vr<|Yv Z<|Vz Z<|Wo Z (Yq Jr Z Z Kh) ?_;refine Yy Z<|Xi Z (fun h5=>?_) (fun h5=>?_);refine Vq Z<|Vq Z<|Vq Z<|Vq Z<|Xy Z<|Vp<|Xe Z ?_;refine Vr<|Yx Z<|Vp<|Vy ?_;refine Yh (v:=.int _ _) Z ?_;refine ⟨congrArg (Value.int .i64) ?_,E2⟩;rotate_left;refine Yv Z<|Vz Z<|Wo Z (Yq Jr Z Z Kh) ?_;refine Qo Z<|Xb Z<|Vp<|Vu Z (fun h6=>?_) (fun h6=>?_);refine Vr<|Yx Z<|Vp<|Vy ?_;refine Yh (v:=.int _ _) Z ?_
   refine ⟨congrArg (Value.int .i64) ?_,E2⟩;rotate_left;refine Vw<|Ym<|Vz Z<|Wo Z (Qz Z Z Kh) ?_;refine Yv Z<|Vz Z<|Wo Z (Yq Jr Z Z Kh) ?_;refine Wo Z (opv_sub_u8 Z Z Kh) ?_;refine Wo Z (Rv Gw Zl Z Kh) ?_;refine Xf Z<|Yx Z<|Vp<|Ym<|Vz Z<|Xf Z<|Yx Z<|Vp ?_;rotate_left;refine Xm ?_;refine Yn ?_;refine Vr<|Vz Z<|Yx Z<|Vp<|Vy ?_;refine Yh (v:=.int _ _) Z ?_;refine ⟨congrArg (Value.int .i64) ?_,E2⟩;rotate_left
  ·rw [digV,if_neg]
   rintro ⟨_,_,h⟩
   have:=h (t.getD k 0) (by rw [Xl Kh];exact List.getElem_mem _)
   omega
  ·rw [digV,if_neg]
   rintro ⟨_,_,h⟩
   have:=h (t.getD k 0) (by rw [Xl Kh];exact List.getElem_mem _)
   omega
  ·refine ⟨((k+1,10*n+(((t.getD k 0).toNat:Int) - 48))),Kn,Ko,?_,?_⟩
   ·have hts:t.take (k+1)=t.take k++[t.getD k 0]:=by rw [Xl Kh];exact List.take_succ_eq_append_getElem Kh
    refine ⟨Kk,Kh,Kh,Kh,Kh,Kh,Kh,Kh,Kh,?_,?_⟩
    ·rw [hts,digN,List.foldl_append,← digN,← hone];rfl
    ·rw [hts]
     intro c hc
     rcases List.mem_append.1 hc with hc | hc
     ·exact hall c hc
     ·obtain rfl:=List.mem_singleton.1 hc;omega
   ·simp only;omega
  ·obtain rfl:k=t.length:=by omega
   rw [List.take_length] at hone hall
   rw [hone,digV,if_pos ⟨Kh,Kh,hall⟩]
 ·focus
  refine Xt [2,3,4,19,20,21,22,23,24,25,26,27,28,29,30,31,32,33,34,35,36,37,38,39,40,41,42] (fun ((k,n):Nat × Int)=>[(4,.int .i64 (k:Nat)),(3,.int .i64 n)]) (fun (k,n) w'=>Ext w w'∧k≤t.length∧0≤n∧(k≤0→n≤0)∧(k≤1→n≤9)∧(k≤2→n≤99)∧(k≤3→n≤999)∧(k≤4→n≤9999)∧n≤99999∧n=digN (t.take k)∧∀ c ∈ t.take k,48≤c.toNat∧c.toNat≤57) (fun x=>t.length - x.1) (0,0) Kn ?_ ?_
  ·exact ⟨Kk,Ja _,Kh,Kh,Kh,Kh,Kh,Kh,Kh,by simp [digN],Kp⟩
  rintro ⟨k,n⟩ ρj w2 ⟨E2,hk,h0,i0,i1,i2,i3,i4,i5,hone,hall⟩
  have hc8:(t.getD k 0).toNat < 256:=UInt8.toNat_lt _
  focus
   refine Vt<|Vr<|Vz Z<|Yv Z<|Wo Z (Xo Jr Z)<|Yy Z<|Vp<|Vu Z (fun h3=>?_) (fun h3=>?_);refine Vw<|Vt<|Yb<|Vt<|Vr<|Yv Z<|Vz Z<|Wo Z (Yq Jr Z Z Kh) ?_;refine Yy Z<|Xi Z (fun h4=>?_) (fun h4=>?_);refine Vq Z<|Vq Z<|Vq Z<|Vq Z<|Xy Z<|Vp<|Xe Z ?_;refine Vr<|Yx Z<|Vp<|Vy ?_;refine Yh (v:=.int _ _) Z ?_;refine ⟨congrArg (Value.int .i64) ?_,E2⟩;rotate_left;refine Yv Z<|Vz Z<|Wo Z (Yq Jr Z Z Kh) ?_;refine Qo Z<|Xb Z<|Vp<|Vu Z (fun h5=>?_) (fun h5=>?_);refine Vr<|Yx Z<|Vp<|Vy ?_;refine Yh (v:=.int _ _) Z ?_
   refine ⟨congrArg (Value.int .i64) ?_,E2⟩;rotate_left;refine Vw<|Ym<|Vz Z<|Wo Z (Qz Z Z Kh) ?_;refine Yv Z<|Vz Z<|Wo Z (Yq Jr Z Z Kh) ?_;refine Wo Z (opv_sub_u8 Z Z Kh) ?_;refine Wo Z (Rv Gw Zl Z Kh) ?_;refine Xf Z<|Yx Z<|Vp<|Ym<|Vz Z<|Xf Z<|Yx Z<|Vp ?_;rotate_left;refine Xm ?_;refine Yn ?_;refine Vr<|Vz Z<|Yx Z<|Vp<|Vy ?_;refine Yh (v:=.int _ _) Z ?_;refine ⟨congrArg (Value.int .i64) ?_,E2⟩;rotate_left
  ·rw [digV,if_neg]
   rintro ⟨_,_,h⟩
   have:=h (t.getD k 0) (by rw [Xl Kh];exact List.getElem_mem _)
   omega
  ·rw [digV,if_neg]
   rintro ⟨_,_,h⟩
   have:=h (t.getD k 0) (by rw [Xl Kh];exact List.getElem_mem _)
   omega
  ·refine ⟨((k+1,10*n+(((t.getD k 0).toNat:Int) - 48))),Kn,Ko,?_,?_⟩
   ·have hts:t.take (k+1)=t.take k++[t.getD k 0]:=by rw [Xl Kh];exact List.take_succ_eq_append_getElem Kh
    refine ⟨Kk,Kh,Kh,Kh,Kh,Kh,Kh,Kh,Kh,?_,?_⟩
    ·rw [hts,digN,List.foldl_append,← digN,← hone];rfl
    ·rw [hts]
     intro c hc
     rcases List.mem_append.1 hc with hc | hc
     ·exact hall c hc
     ·obtain rfl:=List.mem_singleton.1 hc;omega
   ·simp only;omega
  ·obtain rfl:k=t.length:=by omega
   rw [List.take_length] at hone hall
   rw [hone,digV,if_pos ⟨Kh,Kh,hall⟩]
theorem Tc:ElD Tryz.prog 59 48:=ElD.of Vn Ki Js Tryz.zeroValue48
def rdL (ps:List (List UInt8)) (z:Int):List Deed:=[⟨0,[],0⟩,⟨4,[],0⟩]++if ps.length=2 then [⟨1,ps.getD 1 [],0⟩,⟨2,ps.getD 1 [],0⟩,⟨3,[],z⟩] else []
theorem rdL_all {s:List UInt8} {z:Int} (hz : ∀ d:Nat,d≤9→(cutB 32 s).getD 1 []=[dig d]→z=d) {a:Deed} (h:rdD s=some a):a ∈ rdL (cutB 32 s) z:=by
 have ht:=rdD_told h
 have h1:=(Mj h).1
 cases ht with
 | single=>simp [rdL]
 | back=>simp [rdL]
 | into d hd =>
   rw [Tx hd] at h1
   subst h1
   have e : cutB 32 (sInto ++ [dig d]) = [wInto, [dig d]] := by
     have hn : (32 : UInt8) ∉ [dig d] := by
       intro hm
       have := List.mem_singleton.1 hm
       have h2 := congrArg UInt8.toNat this
       rw [Te Kh] at h2
       have : (32 : UInt8).toNat = 32 := rfl
       omega
     rw [show sInto ++ [dig d] = wInto ++ 32 :: [dig d] from rfl, Ml Kj, Nr hn]
   rw [e] at hz ⊢
   rw [hz d hd rfl]
   simp [rdL]
 | add p hp =>
   rw [Nl hp] at h1
   subst h1
   have e : cutB 32 (sAdd ++ txt p) = [wAdd, txt p] := by
     rw [show sAdd ++ txt p = wAdd ++ 32 :: txt p from rfl, Ml Kj, Nr (txt_no hp.gr Kj)]
   rw [e]
   simp [rdL]
 | drop p hp =>
   rw [Tm hp] at h1
   subst h1
   have e : cutB 32 (sDrop ++ txt p) = [wDrop, txt p] := by
     rw [show sDrop ++ txt p = wDrop ++ 32 :: txt p from rfl, Ml Kj, Nr (txt_no hp.gr Kj)]
   rw [e]
   simp [rdL]
theorem Mz (w:World) (s:List UInt8) (hs:s.length≤1048576) :
  Dz 61 [str s] w (Ret w (.tuple #[dv ((rdD s).getD ⟨0,[],0⟩),.bool (rdD s).isSome])):=by
 obtain ⟨ps,hps⟩ : ∃ ps,ps=cutB 32 s:=⟨_,rfl⟩
 have k1 : ∀ w,Dz 70 [str s,.int .u8 32] w (RetO w XS ps):=fun w=>hps ▸ l1Cut_ok w s 32 hs
 have hpe : ∀ (k:Nat) (hk:k < ps.length),ps[k].length≤1048576:=fun k hk=>by
  have:ps[k] ∈ cutB 32 s:=hps ▸ List.getElem_mem hk
  have:=Me s.length s (Kz _) _ this;omega
 obtain ⟨z,hz⟩ : ∃ z:Int,z=digV (ps.getD 1 []):=⟨_,rfl⟩
 obtain ⟨L,hL⟩ : ∃ L,L=rdL ps z:=⟨_,rfl⟩
 have hall : ∀ a,rdD s=some a→a ∈ L:=fun a h=>by
  rw [hL,hps]
  refine rdL_all (fun d hd e=>?_) h
  rw [hz,hps,e,digV_one hd]
 have hlen:L.length≤5:=by rw [hL];unfold rdL;split <;> simp
 have htx : ∀ (k:Nat) (h:k < L.length),L[k].text.length≤1048576:=fun k h=>by
  have hm:L[k] ∈ rdL ps z:=hL ▸ List.getElem_mem h
  unfold rdL at hm
  split at hm
  ·rename_i h2
   have I1:=hpe 1 Kh
   have hg1:ps.getD 1 []=ps[1]:=Xl Kh
   rw [hg1] at hm
   simp only [List.cons_append,List.nil_append,List.mem_cons,List.not_mem_nil,or_false] at hm
   rcases hm with h | h | h | h | h <;> rw [h] <;> simp <;> omega
  ·simp only [List.append_nil,List.mem_cons,List.not_mem_nil,or_false] at hm
   rcases hm with h | h <;> rw [h] <;> simp
 refine fn_of_Wc3t Tryz.func61 Z Tryz.results61 Tryz.ntmps61 Z Gb Js ?_
 have stopC:True:=trivial
 focus
  refine Vr<|Qd Z Xq ?_;rintro b1 w1 H1 E1 B1;refine Ya Z<|Vp<|Vt<|Ym<|Yv Z<|Vs Z (Xa (a:=.string _) (b:=.int _ _) Tryz.call70 Z Z) (k1 _) ?_;rintro u1 w2 ⟨E2,O1⟩;refine Uc u1 Z<|Vp<|Vr<|Wo Z (Yu (ps:=[(0,.int _ _)]) (cs:=[_,_,_]) Xq Z Z)<|Wo Z (Yu (ps:=[(0,.int _ _)]) (cs:=[_,_,_]) Xq Z Z)<|Wo_buildD2 (a1:=⟨_,_,_⟩) (a2:=⟨_,_,_⟩) Z Tc Z Z Ke Ke ?_;rintro b2 w3 H2 E3 O2;have:=E3.Z;refine Uj Z<|Vp<|Vt<|Vr<|Yj u1 Z<|Ys Jv Z (Kv O1)<|Yo Z<|Vp ?_
 clear stopC
 refine W_mid [5,15,16,17,18,19,20,21,22,23,24,25,26,27,28,29,30] (fun (v:Value)=>[(5,v)]) (fun v w'=>Ext w2 w'∧OD 48 w2.heap.size w' v L) ?_ ?_
 ·by_cases h2:ps.length=2
  ·have I1:=hpe 1 Kh
   have hg1:ps.getD 1 []=ps[1]:=Xl Kh
   have stop4:True:=trivial
   focus
    have:=E3.Z;have:=E2.Z;have:=E1.Z;refine Vu Z (fun h1=>?_) (fun h1=>?_);rotate_left;exact Kt
   clear stop4
   obtain ⟨ub,uc,rfl,_⟩:=O1.lit Kh
   have hcell:w3.cell? ⟨ub,0+1,none⟩=some (str ps[1]):=by
    obtain ⟨a',c',e,_,hR⟩:=O1.O
    rcases hR with hR | ⟨b',o',e2,hR⟩
    ·rw [hR] at h2;cases h2
    ·subst e2;injection e with e3 e4 e5;injection e3 with e3;injection e3 with e6 e7;subst e6;subst e7
     obtain ⟨u,hu,rfl,_⟩:=hR 1 Kh
     exact E3.cell hu
   have eL:L=[⟨0,[],0⟩,⟨4,[],0⟩]++[⟨1,ps[1],0⟩,⟨2,ps[1],0⟩,⟨3,[],digV ps[1]⟩]:=by rw [hL,hz,rdL,if_pos h2,hg1]
   rw [eL]
   clear hall hlen htx hL hz eL
   focus
    refine Rm (fun _=>True) mixed Z Ki ?_;intro w4 E4 K1 Z1;refine WtmS 0 Z Z trivial<|WtmS 1 Z Z trivial<|Yc 2 Z Ki Ki Z (fun _ _=>Yk (k:=1) Jv Jo Z Z Kh) trivial ?_;refine WtmS 5 Z Z trivial<|Yc 6 Z Ki Ki Z (fun _ _=>Yk (k:=1) Jv Jo Z Z Kh) trivial ?_;refine WtmS 9 Z Z trivial<|Yc 10 Z Ki Ki Z (fun _ _=>Yk (k:=1) Jv Jo Z Z Kh) trivial ?_;refine Wha [3,7,11]<|Yg Z ?_ ?_
    refine Wo Z (Xd Jp Z (E4.cell hcell))<|Wnt<|Yc 4 Z Ki Ki Z (fun _ _=>Yu (ps:=[(0,.int _ _),(1,.string _)]) (cs:=[_,_,_]) Xq Z Z) trivial ?_;refine Wha [7,11]<|Yg Z ?_ ?_;refine Wo Z (Xd Jp Z (E4.cell hcell))<|Wnt<|Yc 8 Z Ki Ki Z (fun _ _=>Yu (ps:=[(0,.int _ _),(1,.string _)]) (cs:=[_,_,_]) Xq Z Z) trivial ?_;refine Wha [11]<|Wh1 Z<|Wo Z (Xd Jp Z (E4.cell hcell))<|Wnt<|Wha [12]<|Wh1 Z<|Vs Z (Xh (a:=.string _) Zq Z) (Rz _ _ Kk) ?_;rintro _ w5 ⟨rfl,E5⟩;have:=E5.Z
    refine Wnt<|Yc 13 Z Ki Ki Z (fun _ _=>Yu (ps:=[(0,.int _ _),(2,.int _ _)]) (cs:=[_,_,_]) Xq Z Z) trivial ?_;refine Wha [14]<|Wh1 Z<|Sf (a1:=⟨_,_,_⟩) (a2:=⟨_,_,_⟩) (a3:=⟨_,_,_⟩) Z Tc Z Z Z Ke Ke Ke ?_;rintro b3 w6 H3 E6 O3;have:=E6.Z;refine Wnt<|Wha [15]<|Wh1 Z<|To Z Tc Z Z (O2.J ((E4.K E5).K E6)) O3 Km Kh (((E3.K E4).K E5).K E6) Kh ?_;rintro v1 w7 O4 E7 G1;refine Wnt<|WtaV 16 v1 Z Z trivial<|Yp Ki ?_;rotate_left
    refine Wh1 Z<|Wo Z (Xd Jp Z (E4.cell hcell))<|Wnt<|Wha [7,12]<|Yg Z ?_ ?_;refine Wo Z (Xd Jp Z (E4.cell hcell))<|Wnt<|Yc 8 Z Ki Ki Z (fun _ _=>Yu (ps:=[(0,.int _ _),(1,.string _)]) (cs:=[_,_,_]) Xq Z Z) trivial ?_;refine Wha [12]<|Wh1 Z<|Vs Z (Xh (a:=.string _) Zq Z) (Rz _ _ Kk) ?_;rintro _ w5 ⟨rfl,E5⟩;have:=E5.Z;refine Wnt<|Yc 13 Z Ki Ki Z (fun _ _=>Yu (ps:=[(0,.int _ _),(2,.int _ _)]) (cs:=[_,_,_]) Xq Z Z) trivial ?_
    refine Wha [14]<|Wh1 Z<|Sf (a1:=⟨_,_,_⟩) (a2:=⟨_,_,_⟩) (a3:=⟨_,_,_⟩) Z Tc Z Z Z Ke Ke Ke ?_;rintro b3 w6 H3 E6 O3;have:=E6.Z;refine Wnt<|Wha [15]<|Wh1 Z<|To Z Tc Z Z (O2.J ((E4.K E5).K E6)) O3 Km Kh (((E3.K E4).K E5).K E6) Kh ?_;rintro v1 w7 O4 E7 G1;refine Wnt<|WtaV 16 v1 Z Z trivial<|Yp Ki ?_;rotate_left;refine Wh1 Z<|Vs Z (Xh (a:=.string _) Zq Z) (Rz _ _ Kk) ?_;rintro _ w5 ⟨rfl,E5⟩;have:=E5.Z
    refine Wnt<|Yc 13 Z Ki Ki Z (fun _ _=>Yu (ps:=[(0,.int _ _),(2,.int _ _)]) (cs:=[_,_,_]) Xq Z Z) trivial ?_;refine Wha [7]<|Wh1 Z<|Wo Z (Xd Jp Z ((E4.K E5).cell hcell))<|Wnt<|Yc 8 Z Ki Ki Z (fun _ _=>Yu (ps:=[(0,.int _ _),(1,.string _)]) (cs:=[_,_,_]) Xq Z Z) trivial ?_;refine Wha [14]<|Wh1 Z<|Sf (a1:=⟨_,_,_⟩) (a2:=⟨_,_,_⟩) (a3:=⟨_,_,_⟩) Z Tc Z Z Z Ke Ke Ke ?_;rintro b3 w6 H3 E6 O3;have:=E6.Z
    refine Wnt<|Wha [15]<|Wh1 Z<|To Z Tc Z Z (O2.J ((E4.K E5).K E6)) O3 Km Kh (((E3.K E4).K E5).K E6) Kh ?_;rintro v1 w7 O4 E7 G1;refine Wnt<|WtaV 16 v1 Z Z trivial<|Yp Ki ?_;rotate_left;refine Yg Z ?_ ?_;refine Wo Z (Xd Jp Z (E4.cell hcell))<|Wnt<|Yc 8 Z Ki Ki Z (fun _ _=>Yu (ps:=[(0,.int _ _),(1,.string _)]) (cs:=[_,_,_]) Xq Z Z) trivial ?_;refine Wha [3,11]<|Yg Z ?_ ?_;refine Wo Z (Xd Jp Z (E4.cell hcell))<|Wnt<|Yc 4 Z Ki Ki Z (fun _ _=>Yu (ps:=[(0,.int _ _),(1,.string _)]) (cs:=[_,_,_]) Xq Z Z) trivial ?_
    refine Wha [11]<|Wh1 Z<|Wo Z (Xd Jp Z (E4.cell hcell))<|Wnt<|Wha [12]<|Wh1 Z<|Vs Z (Xh (a:=.string _) Zq Z) (Rz _ _ Kk) ?_;rintro _ w5 ⟨rfl,E5⟩;have:=E5.Z;refine Wnt<|Yc 13 Z Ki Ki Z (fun _ _=>Yu (ps:=[(0,.int _ _),(2,.int _ _)]) (cs:=[_,_,_]) Xq Z Z) trivial ?_;refine Wha [14]<|Wh1 Z<|Sf (a1:=⟨_,_,_⟩) (a2:=⟨_,_,_⟩) (a3:=⟨_,_,_⟩) Z Tc Z Z Z Ke Ke Ke ?_;rintro b3 w6 H3 E6 O3;have:=E6.Z
    refine Wnt<|Wha [15]<|Wh1 Z<|To Z Tc Z Z (O2.J ((E4.K E5).K E6)) O3 Km Kh (((E3.K E4).K E5).K E6) Kh ?_;rintro v1 w7 O4 E7 G1;refine Wnt<|WtaV 16 v1 Z Z trivial<|Yp Ki ?_;rotate_left;refine Wh1 Z<|Wo Z (Xd Jp Z (E4.cell hcell))<|Wnt<|Wha [3,12]<|Yg Z ?_ ?_;refine Wo Z (Xd Jp Z (E4.cell hcell))<|Wnt<|Yc 4 Z Ki Ki Z (fun _ _=>Yu (ps:=[(0,.int _ _),(1,.string _)]) (cs:=[_,_,_]) Xq Z Z) trivial ?_;refine Wha [12]<|Wh1 Z<|Vs Z (Xh (a:=.string _) Zq Z) (Rz _ _ Kk) ?_;rintro _ w5 ⟨rfl,E5⟩;have:=E5.Z
    refine Wnt<|Yc 13 Z Ki Ki Z (fun _ _=>Yu (ps:=[(0,.int _ _),(2,.int _ _)]) (cs:=[_,_,_]) Xq Z Z) trivial ?_;refine Wha [14]<|Wh1 Z<|Sf (a1:=⟨_,_,_⟩) (a2:=⟨_,_,_⟩) (a3:=⟨_,_,_⟩) Z Tc Z Z Z Ke Ke Ke ?_;rintro b3 w6 H3 E6 O3;have:=E6.Z;refine Wnt<|Wha [15]<|Wh1 Z<|To Z Tc Z Z (O2.J ((E4.K E5).K E6)) O3 Km Kh (((E3.K E4).K E5).K E6) Kh ?_;rintro v1 w7 O4 E7 G1;refine Wnt<|WtaV 16 v1 Z Z trivial<|Yp Ki ?_;rotate_left
    refine Wh1 Z<|Vs Z (Xh (a:=.string _) Zq Z) (Rz _ _ Kk) ?_;rintro _ w5 ⟨rfl,E5⟩;have:=E5.Z;refine Wnt<|Yc 13 Z Ki Ki Z (fun _ _=>Yu (ps:=[(0,.int _ _),(2,.int _ _)]) (cs:=[_,_,_]) Xq Z Z) trivial ?_;refine Wha [3]<|Wh1 Z<|Wo Z (Xd Jp Z ((E4.K E5).cell hcell))<|Wnt<|Yc 4 Z Ki Ki Z (fun _ _=>Yu (ps:=[(0,.int _ _),(1,.string _)]) (cs:=[_,_,_]) Xq Z Z) trivial ?_;refine Wha [14]<|Wh1 Z<|Sf (a1:=⟨_,_,_⟩) (a2:=⟨_,_,_⟩) (a3:=⟨_,_,_⟩) Z Tc Z Z Z Ke Ke Ke ?_;rintro b3 w6 H3 E6 O3;have:=E6.Z
    refine Wnt<|Wha [15]<|Wh1 Z<|To Z Tc Z Z (O2.J ((E4.K E5).K E6)) O3 Km Kh (((E3.K E4).K E5).K E6) Kh ?_;rintro v1 w7 O4 E7 G1;refine Wnt<|WtaV 16 v1 Z Z trivial<|Yp Ki ?_;rotate_left;refine Wh1 Z<|Wo Z (Xd Jp Z (E4.cell hcell))<|Wnt<|Wha [3,7,12]<|Yg Z ?_ ?_;refine Wo Z (Xd Jp Z (E4.cell hcell))<|Wnt<|Yc 4 Z Ki Ki Z (fun _ _=>Yu (ps:=[(0,.int _ _),(1,.string _)]) (cs:=[_,_,_]) Xq Z Z) trivial ?_;refine Wha [7,12]<|Yg Z ?_ ?_
    refine Wo Z (Xd Jp Z (E4.cell hcell))<|Wnt<|Yc 8 Z Ki Ki Z (fun _ _=>Yu (ps:=[(0,.int _ _),(1,.string _)]) (cs:=[_,_,_]) Xq Z Z) trivial ?_;refine Wha [12]<|Wh1 Z<|Vs Z (Xh (a:=.string _) Zq Z) (Rz _ _ Kk) ?_;rintro _ w5 ⟨rfl,E5⟩;have:=E5.Z;refine Wnt<|Yc 13 Z Ki Ki Z (fun _ _=>Yu (ps:=[(0,.int _ _),(2,.int _ _)]) (cs:=[_,_,_]) Xq Z Z) trivial ?_;refine Wha [14]<|Wh1 Z<|Sf (a1:=⟨_,_,_⟩) (a2:=⟨_,_,_⟩) (a3:=⟨_,_,_⟩) Z Tc Z Z Z Ke Ke Ke ?_;rintro b3 w6 H3 E6 O3;have:=E6.Z
    refine Wnt<|Wha [15]<|Wh1 Z<|To Z Tc Z Z (O2.J ((E4.K E5).K E6)) O3 Km Kh (((E3.K E4).K E5).K E6) Kh ?_;rintro v1 w7 O4 E7 G1;refine Wnt<|WtaV 16 v1 Z Z trivial<|Yp Ki ?_;rotate_left;refine Wh1 Z<|Vs Z (Xh (a:=.string _) Zq Z) (Rz _ _ Kk) ?_;rintro _ w5 ⟨rfl,E5⟩;have:=E5.Z;refine Wnt<|Yc 13 Z Ki Ki Z (fun _ _=>Yu (ps:=[(0,.int _ _),(2,.int _ _)]) (cs:=[_,_,_]) Xq Z Z) trivial ?_;refine Wha [7]<|Wh1 Z<|Wo Z (Xd Jp Z ((E4.K E5).cell hcell))<|Wnt<|Yc 8 Z Ki Ki Z (fun _ _=>Yu (ps:=[(0,.int _ _),(1,.string _)]) (cs:=[_,_,_]) Xq Z Z) trivial ?_
    refine Wha [14]<|Wh1 Z<|Sf (a1:=⟨_,_,_⟩) (a2:=⟨_,_,_⟩) (a3:=⟨_,_,_⟩) Z Tc Z Z Z Ke Ke Ke ?_;rintro b3 w6 H3 E6 O3;have:=E6.Z;refine Wnt<|Wha [15]<|Wh1 Z<|To Z Tc Z Z (O2.J ((E4.K E5).K E6)) O3 Km Kh (((E3.K E4).K E5).K E6) Kh ?_;rintro v1 w7 O4 E7 G1;refine Wnt<|WtaV 16 v1 Z Z trivial<|Yp Ki ?_;rotate_left;refine Yg Z ?_ ?_;refine Wo Z (Xd Jp Z (E4.cell hcell))<|Wnt<|Yc 8 Z Ki Ki Z (fun _ _=>Yu (ps:=[(0,.int _ _),(1,.string _)]) (cs:=[_,_,_]) Xq Z Z) trivial ?_
    refine Wha [3,12]<|Yg Z ?_ ?_;refine Wo Z (Xd Jp Z (E4.cell hcell))<|Wnt<|Yc 4 Z Ki Ki Z (fun _ _=>Yu (ps:=[(0,.int _ _),(1,.string _)]) (cs:=[_,_,_]) Xq Z Z) trivial ?_;refine Wha [12]<|Wh1 Z<|Vs Z (Xh (a:=.string _) Zq Z) (Rz _ _ Kk) ?_;rintro _ w5 ⟨rfl,E5⟩;have:=E5.Z;refine Wnt<|Yc 13 Z Ki Ki Z (fun _ _=>Yu (ps:=[(0,.int _ _),(2,.int _ _)]) (cs:=[_,_,_]) Xq Z Z) trivial ?_;refine Wha [14]<|Wh1 Z<|Sf (a1:=⟨_,_,_⟩) (a2:=⟨_,_,_⟩) (a3:=⟨_,_,_⟩) Z Tc Z Z Z Ke Ke Ke ?_;rintro b3 w6 H3 E6 O3
    have:=E6.Z;refine Wnt<|Wha [15]<|Wh1 Z<|To Z Tc Z Z (O2.J ((E4.K E5).K E6)) O3 Km Kh (((E3.K E4).K E5).K E6) Kh ?_;rintro v1 w7 O4 E7 G1;refine Wnt<|WtaV 16 v1 Z Z trivial<|Yp Ki ?_;rotate_left;refine Wh1 Z<|Vs Z (Xh (a:=.string _) Zq Z) (Rz _ _ Kk) ?_;rintro _ w5 ⟨rfl,E5⟩;have:=E5.Z;refine Wnt<|Yc 13 Z Ki Ki Z (fun _ _=>Yu (ps:=[(0,.int _ _),(2,.int _ _)]) (cs:=[_,_,_]) Xq Z Z) trivial ?_
    refine Wha [3]<|Wh1 Z<|Wo Z (Xd Jp Z ((E4.K E5).cell hcell))<|Wnt<|Yc 4 Z Ki Ki Z (fun _ _=>Yu (ps:=[(0,.int _ _),(1,.string _)]) (cs:=[_,_,_]) Xq Z Z) trivial ?_;refine Wha [14]<|Wh1 Z<|Sf (a1:=⟨_,_,_⟩) (a2:=⟨_,_,_⟩) (a3:=⟨_,_,_⟩) Z Tc Z Z Z Ke Ke Ke ?_;rintro b3 w6 H3 E6 O3;have:=E6.Z;refine Wnt<|Wha [15]<|Wh1 Z<|To Z Tc Z Z (O2.J ((E4.K E5).K E6)) O3 Km Kh (((E3.K E4).K E5).K E6) Kh ?_;rintro v1 w7 O4 E7 G1;refine Wnt<|WtaV 16 v1 Z Z trivial<|Yp Ki ?_;rotate_left
    refine Wh1 Z<|Vs Z (Xh (a:=.string _) Zq Z) (Rz _ _ Kk) ?_;rintro _ w5 ⟨rfl,E5⟩;have:=E5.Z;refine Wnt<|Yc 13 Z Ki Ki Z (fun _ _=>Yu (ps:=[(0,.int _ _),(2,.int _ _)]) (cs:=[_,_,_]) Xq Z Z) trivial ?_;refine Wha [3,7]<|Yg Z ?_ ?_;refine Wo Z (Xd Jp Z ((E4.K E5).cell hcell))<|Wnt<|Yc 4 Z Ki Ki Z (fun _ _=>Yu (ps:=[(0,.int _ _),(1,.string _)]) (cs:=[_,_,_]) Xq Z Z) trivial ?_;refine Wha [7]<|Wh1 Z<|Wo Z (Xd Jp Z ((E4.K E5).cell hcell))<|Wnt<|Yc 8 Z Ki Ki Z (fun _ _=>Yu (ps:=[(0,.int _ _),(1,.string _)]) (cs:=[_,_,_]) Xq Z Z) trivial ?_
    refine Wha [14]<|Wh1 Z<|Sf (a1:=⟨_,_,_⟩) (a2:=⟨_,_,_⟩) (a3:=⟨_,_,_⟩) Z Tc Z Z Z Ke Ke Ke ?_;rintro b3 w6 H3 E6 O3;have:=E6.Z;refine Wnt<|Wha [15]<|Wh1 Z<|To Z Tc Z Z (O2.J ((E4.K E5).K E6)) O3 Km Kh (((E3.K E4).K E5).K E6) Kh ?_;rintro v1 w7 O4 E7 G1;refine Wnt<|WtaV 16 v1 Z Z trivial<|Yp Ki ?_;rotate_left;refine Wh1 Z<|Wo Z (Xd Jp Z ((E4.K E5).cell hcell))<|Wnt<|Yc 8 Z Ki Ki Z (fun _ _=>Yu (ps:=[(0,.int _ _),(1,.string _)]) (cs:=[_,_,_]) Xq Z Z) trivial ?_
    refine Wha [3]<|Wh1 Z<|Wo Z (Xd Jp Z ((E4.K E5).cell hcell))<|Wnt<|Yc 4 Z Ki Ki Z (fun _ _=>Yu (ps:=[(0,.int _ _),(1,.string _)]) (cs:=[_,_,_]) Xq Z Z) trivial ?_;refine Wha [14]<|Wh1 Z<|Sf (a1:=⟨_,_,_⟩) (a2:=⟨_,_,_⟩) (a3:=⟨_,_,_⟩) Z Tc Z Z Z Ke Ke Ke ?_;rintro b3 w6 H3 E6 O3;have:=E6.Z;refine Wnt<|Wha [15]<|Wh1 Z<|To Z Tc Z Z (O2.J ((E4.K E5).K E6)) O3 Km Kh (((E3.K E4).K E5).K E6) Kh ?_;rintro v1 w7 O4 E7 G1;refine Wnt<|WtaV 16 v1 Z Z trivial<|Yp Ki ?_;rotate_left
   all_goals exact ⟨_,⟨rfl,trivial⟩,Ko,Kk,Kk⟩
  ·have eL:L=[⟨0,[],0⟩,⟨4,[],0⟩]:=by rw [hL,rdL,if_neg h2];rfl
   focus
    refine Vv Z fun h1=>?_;refine Vw ?_
   subst eL
   exact ⟨_,⟨rfl,trivial⟩,Ko,Kk,Kk⟩
 rintro v ρm w4 ⟨E4,hOL⟩
 have hRL:=hOL.O
 clear hOL O1 hL hz
 focus
  refine Vt<|Vr<|Yx Z<|Vp<|Yb ?_
 refine Xt [3,6,31,32,33,34,35,36,37,38,39,40,41,42,43,44,45,46,47,48,49,50,51] (fun (k:Nat)=>[(6,.int .i64 (k:Nat))]) (fun k w'=>Ext w4 w'∧k≤L.length∧∀ (j:Nat) (h:j < L.length),j < k→s≠[]→dtV L[j]≠s) (fun k=>L.length - k) 0 Kn ?_ ?_
 ·exact ⟨Jf _,Ja _,fun j h h2=>Kh⟩
 rintro k ρj w5 ⟨E5,hk,hno⟩
 by_cases hkl:k < L.length
 ·have htk:=htx k hkl
  have kd : ∀ (w:World),Dz 108 [dv L[k]] w (Ret w (str (dtV L[k]))):=fun w=>Lb w _ _ _ htk
  focus
   refine Vt<|Vr<|Vz Z<|Yj v Z<|Wo Z (opv_lenD Vn Z hRL)<|Yy Z<|Vp<|Vu Z (fun h1=>?_) (fun h1=>?_);refine Vw<|Vt<|Yb<|Vr<|Yv Z<|Wo Z (Uo Z Z)<|Qv Z (fun h2=>?_) (fun h2=>?_);refine Yj v Z<|Vz Z<|Wo_getD Vn Js Gb Js Z (fun _=>Z) Z hRL E5 Z Km ?_;rintro _;refine Vs Z (Xh (a:=.agg _) Tryz.call108 Z) (kd _) ?_;rintro _ w6 ⟨rfl,E6⟩;refine Yv Z<|Wo Z (Yi Z Z)<|Xy Z<|Vp<|Vu Z (fun h3=>?_) (fun h3=>?_);refine Vr<|Yj v Z<|Vz Z<|Wo_getD Vn Js Gb Js Z (fun _=>Z) Z hRL exq Z Km ?_;rintro _
   refine Wo_st3 Z Js Z Z Kl Kl Kl (B1.J (((E2.K E4).K E5).K E6)) Kh ((((E1.K E2).K E4).K E5).K E6) ?_;rintro w7 E7 B1 K1 Z1;refine Ya Z<|Vp<|Vy ?_;rotate_left;refine Vw<|Ym<|Vz Z<|Xf Z<|Yx Z<|Vp ?_;rotate_left;refine Vq Z<|Vq Z<|Vq Z<|Vq Z<|Vq Z<|Vq Z<|Vq Z<|Xb Z<|Vp<|Vx Z ?_;refine Vw<|Ym<|Vz Z<|Xf Z<|Yx Z<|Vp ?_;rotate_left;exact Kt
  ·refine ⟨_,_,_,_,Z,Kk,?_,Kk⟩
   exact leaf_some (rdD_eq Kk Kk) rfl
  ·refine ⟨(k+1),Kn,Ko,?_,?_⟩
   ·refine ⟨by first | assumption | exact E5.K Kk,Kh,fun j h h2 P0=>?_⟩
    rcases Nat.lt_or_ge j k with h3 | h3
    ·exact hno j h h3 P0
    ·obtain rfl:j=k:=by omega
     assumption
   ·omega
  ·refine ⟨(k+1),Kn,Ko,?_,?_⟩
   ·exact ⟨by first | assumption | exact E5.K Kk,Kh,fun j h h2 P0=>absurd Kk P0⟩
   ·omega
 ·focus
   refine Vt<|Vr<|Vz Z<|Yj v Z<|Wo Z (opv_lenD Vn Z hRL)<|Yy Z<|Vp<|Vv Z fun h1=>?_;refine Xm ?_;refine Yn ?_;refine Vr<|Wo Z (Yu (ps:=[]) (cs:=[_,_,_]) Xq Z Z)<|Wo_st3 Z Js Z Z Kl Kl Kl (B1.J ((E2.K E4).K E5)) Kh (((E1.K E2).K E4).K E5) ?_;rintro w6 E6 B1 K1 Z1;refine Ya Z<|Vp<|Vy ?_
  refine ⟨_,_,_,_,Z,Kk,?_,Kk⟩
  refine leaf_none ?_ Z
  cases hr:rdD s with
  | none=>rfl
  | some a =>
    obtain ⟨j, hj, e⟩ := List.mem_iff_getElem.1 (hall a hr)
    have h9 := Mj hr
    exact absurd (e ▸ h9.1) (hno j hj Kh h9.2)
end Go.Proofs.YtbgpppaljpngmaaGreatDoor
set_option linter.unusedVariables false
set_option linter.unusedSimpArgs false
namespace Go.Hs
section
variable {e:TypeId} {lo:Nat} {w w' w0:World} {v:Value} {l m:List Deed} {b n c k:Nat} {u:Value}
end
section
variable {P:Program} {N:Env→World→Prop} {ρ : Env} {w w0:World} {all:Array Oper} {rest:List Oper} {d:Nat} {ty t el e:TypeId} {pos:String} {after:Array Edge} {g:Option (Nat × Bool)} {x y:Operand} {l:List Deed} {lo b n c k:Nat} {nn:Nat}
end
end Go.Hs
namespace Go.Proofs.YtbgpppaljpngmaaGreatDoor
open Go.Hs
set_option maxRecDepth 10000
set_option maxHeartbeats 4000000
set_option linter.unusedVariables false
set_option linter.unusedSimpArgs false
theorem rdD_text {s:List UInt8} {a:Deed} (h:rdD s=some a) {n:Nat} (hs:s.length≤n):a.text.length≤n:=by
 have h1:=(Mj h).1
 have ht:=rdD_told h
 cases ht with
 | single=>simp
 | back=>simp
 | into d hd=>simp
 | add p hp=>rw [Nl hp] at h1;rw [← h1] at hs;simp at hs ⊢;omega
 | drop p hp=>rw [Tm hp] at h1;rw [← h1] at hs;simp at hs ⊢;omega
end Go.Proofs.YtbgpppaljpngmaaGreatDoor
set_option linter.unusedVariables false
namespace Go.Hs
set_option linter.unusedVariables false
def RetDkT (w:World) (e0 e1 e2:TypeId) (now:List (List Int)) (past:List (List (List Int))) (t:List UInt8):Value→World→Prop:=fun v w'=>∃ u1 u2 m,v=.tuple #[.agg #[u1,u2],str t]∧Ext w w'∧OwnedB w.heap.size m (XSl e1 (XSl e2 XInt)) w' u1 now∧Owned m (XSl e0 (XSl e1 (XSl e2 XInt))) w' u2 past∧w.heap.size≤m∧m≤w'.heap.size
def RetDkRT (w:World) (now:List (List Int)) (past:List (List (List Int))) (t:List UInt8):Value→World→Prop:=fun v w'=>∃ u1 u2,v=.tuple #[.agg #[u1,u2],str t]∧Ext w w'∧OwnedB w.heap.size w'.heap.size (XRd (ESl Ints)) w' u1 now∧OwnedB w.heap.size w'.heap.size (XRd (ESl (ESl Ints))) w' u2 past∧isCell u1=true∧isCell u2=true
end Go.Hs
namespace Go.Proofs.YtbgpppaljpngmaaGreatDoor
open Go.Hs
set_option maxRecDepth 10000
set_option maxHeartbeats 4000000
set_option linter.unusedVariables false
set_option linter.unusedSimpArgs false
def okV (b:Bool):List UInt8:=if b then [111,107] else [110,111,116]
open Classical in
theorem deskLineD_ok (w:World) (hM:EMx gMx w (.bool true) ()) (u1 u2:Value) (d:Dsk) (h1:ESl Ints w u1 d.now) (h2:ESl (ESl Ints) w u2 d.past) (hd:DkOk d) (s:List UInt8) (hs:s.length≤1048576) (a:Deed) (ha:rdD s=some a) :
  Dz 59 [.agg #[u1,u2],str s] w (RetDkT w 23 88 3 (doV d a).1.now (doV d a).1.past (okV (doV d a).2)):=by
 have V1:isCell u1=true:=Qy h1
 have V2:isCell u2=true:=Qy h2
 have hat:a.text.length≤1048576:=rdD_text ha hs
 have k0 : ∀ (w:World),EMx gMx w (.bool true) ()→Dz 103 [str s] w (Ret w (.tuple #[.agg #[.int .i64 a.kind,str a.text,.int .i64 a.node],.bool true])):=fun w hM=>by
  have:=Ld w s hM hs
  rw [ha] at this;exact this
 have k1 : ∀ w,EMx gMx w (.bool true) ()→ESl Ints w u1 d.now→ESl (ESl Ints) w u2 d.past→Dz 92 [.agg #[u1,u2],.agg #[.int .i64 a.kind,str a.text,.int .i64 a.node]] w (RetDkB w 23 88 3 (doV d a).1.now (doV d a).1.past (doV d a).2):=fun w hM h1 h2=>deskDo_ok w hM u1 u2 d h1 h2 hd a.kind a.node a.text hat
 refine Tj Tryz.func59 Z Tryz.results59 Tryz.ntmps59 Z Jq Jj ?_
 have litown:True:=trivial
 cases hb:(doV d a).2 with
 | true =>
   rw [hb] at k1
   focus
     refine Vr<|Xu Z Z Z ?_; rintro b1 w1 H1 E1 B1; have := B1.lt; refine Xk Z Ug ?_; rintro b2 w2 H2 E2 B2; have := B2.lt; refine Xr Z<|Vp<|Vt<|Vr<|Yv Z<|Vs Z (Xh (a := .string _) Tryz.call103 Z) (k0 _ (Ku exq hM)) ?_; rintro _ w3 ⟨rfl, E3⟩; have := E3.Z; refine Ut Z<|Mu Z<|Uz Z<|Qd Z Xq ?_; rintro b3 w4 H3 E4 B3; have := B3.lt; refine Wo_st3 Z Js Z Z Kl Kl Kl B3 Kh (((E1.K E2).K E3).K E4) ?_; rintro w5 E5 B3 K1 Z1; have E6 := ((E2.K E3).K E4).A exq E5 K1 Z1 Kh; have := E6.Z; have B1 := (B1.J exq).Y (K1 _ Kh); have B2 := (B2.J exq).Y (K1 _ Kh)
     refine Ya Z<|Vp<|Vr<|Xp Z<|Vp<|Xe Z ?_; refine Vr<|Uh Jq Jj B1 Z<|Rk Gb Js B3 Z<|Vs Z (Xa (a := .agg _) (b := .agg _) Tryz.call92 Z Z) (k1 _ (Ku E5 hM) (Ku E5 h1) (Ku E5 h2)) ?_; rintro _ w6 ⟨u3, q1, m1, rfl, E9, O1, R1, J1, hn1⟩; have V3 := Kx O1; have N1 := Kx (Je R1); have := E9.Z; refine Ut Z<|Mu Z<|Uz Z<|Xk Z Ug ?_; rintro b4 w7 H4 E10 B4; have := B4.lt; refine Uw Jj B4 Z ((E5.K E9).K E10) ?_; rintro w8 E11 B4 K2 Z2; have B2 := (B2.J exq).Y (K2 _ Kh); have O1 := (O1.J E10).W K2 Kh; have R1 := (R1.toB.J E10).W K2 Kh
     refine Ya Z<|Vp<|Vt<|Vr<|Xp Z<|Xz Z<|Vp<|Uk Z fun h3 => ?_; refine Vw<|Vr<|Uh Jq Jj B4 Z<|Uw Jj B2 Z E11 ?_; rintro w9 E17 B2 K3 Z3; have O1 := O1.W K3 Kh; have R1 := R1.W K3 Kh; refine Xr Z<|Vp<|Vy ?_
   exact ⟨b2, u3, q1, rfl, B2, u3, q1, m1, rfl, by exact E17, O1.wide Kh (Kz _), R1.o, Kh, Kh⟩
 | false =>
   rw [hb] at k1
   focus
     refine Vr<|Xu Z Z Z ?_; rintro b1 w1 H1 E1 B1; have := B1.lt; refine Xk Z Ug ?_; rintro b2 w2 H2 E2 B2; have := B2.lt; refine Xr Z<|Vp<|Vt<|Vr<|Yv Z<|Vs Z (Xh (a := .string _) Tryz.call103 Z) (k0 _ (Ku exq hM)) ?_; rintro _ w3 ⟨rfl, E3⟩; have := E3.Z; refine Ut Z<|Mu Z<|Uz Z<|Qd Z Xq ?_; rintro b3 w4 H3 E4 B3; have := B3.lt; refine Wo_st3 Z Js Z Z Kl Kl Kl B3 Kh (((E1.K E2).K E3).K E4) ?_; rintro w5 E5 B3 K1 Z1; have E6 := ((E2.K E3).K E4).A exq E5 K1 Z1 Kh; have := E6.Z; have B1 := (B1.J exq).Y (K1 _ Kh); have B2 := (B2.J exq).Y (K1 _ Kh)
     refine Ya Z<|Vp<|Vr<|Xp Z<|Vp<|Xe Z ?_; refine Vr<|Uh Jq Jj B1 Z<|Rk Gb Js B3 Z<|Vs Z (Xa (a := .agg _) (b := .agg _) Tryz.call92 Z Z) (k1 _ (Ku E5 hM) (Ku E5 h1) (Ku E5 h2)) ?_; rintro _ w6 ⟨u3, q1, m1, rfl, E9, O1, R1, J1, hn1⟩; have V3 := Kx O1; have N1 := Kx (Je R1); have := E9.Z; refine Ut Z<|Mu Z<|Uz Z<|Xk Z Ug ?_; rintro b4 w7 H4 E10 B4; have := B4.lt; refine Uw Jj B4 Z ((E5.K E9).K E10) ?_; rintro w8 E11 B4 K2 Z2; have B2 := (B2.J exq).Y (K2 _ Kh); have O1 := (O1.J E10).W K2 Kh; have R1 := (R1.toB.J E10).W K2 Kh
     refine Ya Z<|Vp<|Vt<|Vr<|Xp Z<|Xz Z<|Vp<|Up Z (fun h3 => ?_) (fun h3 => ?_); refine Vr<|Uh Jq Jj B4 Z<|Uw Jj B2 Z E11 ?_; rintro w9 E17 B2 K3 Z3; have O1 := O1.W K3 Kh; have R1 := R1.W K3 Kh; refine Xr Z<|Vp<|Vy ?_; rotate_left; exact Ks
   exact ⟨b2, u3, q1, rfl, B2, u3, q1, m1, rfl, by exact E17, O1.wide Kh (Kz _), R1.o, Kh, Kh⟩
theorem manyIn_ok (w:World) (v:Value) (p:List (List Int)) (h:ESl Ints w v p) (hp:Pic p) (a:Nat) (ha:a < p.length):Dz 95 [v,.int .i64 (a:Int)] w (Ret w (.int .i64 (manyV p a:Int))):=by
 have I5:=hp.2.1
 have c0 : ∀ (w:World) (v:Value),ESl Ints w v p→Dz 144 [v] w (RetO w XI (ints (kndL p))):=fun w v h=>kindsOf_ok w v p h hp.gr
 have c1 : ∀ (w:World) (v:Value),ESl Ints w v p→Dz 130 [v,.int .i64 (a:Int)] w (RetO w XI (ints (arr p a))):=fun w v h=>Rf w v p h (a:Int) ⟨Kh,Kh⟩ (by rw [Xl Kh,hp.gr.row Kh];omega)
 have hal:=Lm hp.gr ha
 have hail:=Ul (arr p a)
 have hkl:=Ul (kndL p)
 have hkl2:(kndL p).length=p.length:=by simp [kndL]
 refine Yr Tryz.func95 Z Tryz.results95 Tryz.ntmps95 Z ?_
 focus
  refine Vr<|Yx Z<|Vp<|Vr<|Yj v Z<|Vs Z (Xh (a:=v) Tryz.call144 Z) (c0 _ _ (h)) ?_;rintro u1 w1 ⟨E1,O1⟩;refine Uc u1 Z<|Vp<|Vr<|Un XInt Z Rl Ji ?_;rintro b1 w2 H1 b1lt E2 O2;refine Uj Z<|Vp<|Vt<|Vr<|Yj v Z<|Vz Z<|Vs Z (Xa (a:=v) (b:=.int _ _) Gy Z Z) (c1 _ _ (Ku exq h)) ?_;rintro u2 w3 ⟨E3,O3⟩;have:=E3.Z;refine Ys Jl Z (Kv O3)<|Vz Z<|Vp<|Yb ?_
 have hS:Owned w1.heap.size XI w3 (.slice (some ⟨b1,0,none⟩) 0 0) (ints []):=(O2.J (by exact E3))
 have hBe:Besides (Value.ownBlock (.slice (some ⟨b1,0,none⟩) 0 0)) Ints w3 u2 (ints (arr p a)):=Besides.start O2 O3.above
 have hK:OwnedB w.heap.size w1.heap.size XI w3 u1 (ints (kndL p)):=O1.toB.J (by exact (E2.K E3))
 clear O1 O2 O3
 refine Xt [6,8,16,17,18,19,20,21,22,23,24,25,26,27,28,29,30,31,32,33,34] (fun ((k,u,L):Nat × Value × List Nat)=>[(16,.int .i64 (k:Nat)),(6,u)]) (fun (k,u,L) w'=>Ext w w'∧w3.heap.size≤w'.heap.size∧k≤(arr p a).length∧Owned w1.heap.size XI w' u (ints L)∧Besides u.ownBlock Ints w' u2 (ints (arr p a))∧OwnedB w.heap.size w1.heap.size XI w' u1 (ints (kndL p))∧L.length≤k∧Mny p ((arr p a).take k) L) (fun x=>(arr p a).length - x.1) (0,.slice (some ⟨b1,0,none⟩) 0 0,[]) Kn ?_ ?_
 ·exact ⟨by exact ((E1.K E2).K E3),Kh,Ja _,hS,hBe,hK,Kp,by simpa using Mny.zero⟩
 clear hS hBe hK
 rintro ⟨k,uk,L⟩ ρj w4 ⟨E4,hsz,hk,hS,hBe,hK,hL,hM⟩
 have hLil:=Ul L
 by_cases hlt:k < (arr p a).length
 ·have hm:=Qm hp.gr ha (List.getElem_mem hlt)
  have hgk:(ints (arr p a))[k]'Kh=((arr p a)[k]:Int):=Qh hlt
  have hgn:((ints (arr p a))[k]'Kh).toNat=(arr p a)[k]:=by rw [hgk];omega
  have hkk:(ints (kndL p))[((ints (arr p a))[k]'Kh).toNat]'(by rw [hgn];omega)=(knd p (arr p a)[k]:Int):=by
   simp only [hgn];exact Su Kh
  have hts:=Ua _ _ hlt
  by_cases hin:knd p (arr p a)[k] ∈ L
  ·have k1 : ∀ (w:World) (t:Value),Ints w t (ints L)→Dz 145 [t,.int .i64 ((ints (kndL p))[((ints (arr p a))[k]'Kh).toNat]'(by rw [hgn];omega))] w (Ret w (.bool true)):=fun w t h=>by
    have:=Sq w t _ h (knd p (arr p a)[k]:Int)
    rw [decide_eq_true (mem_ints.2 hin)] at this
    rw [hkk];exact this
   focus
    refine Vr<|Yy Z<|Vp<|Vt<|Vu Z (fun h1=>?_) (fun h1=>?_);refine Vw<|Vt<|Yb<|Vr<|Xv Jl Ji Jk Z (fun _=>Z) Z (Ky hBe) (Jf _) Z Km ?_;rintro _ _ rfl;refine Yx Z<|Vp<|Vr<|Yj uk Z<|Yj u1 Z<|Vz Z<|Ry Jl Ji Jk Z (fun _=>Z) Z (Kw hK) (Jf _) Z Km ?_;rintro _ _ rfl;refine Vs Z (Xa (a:=uk) (b:=.int _ _) Zs Z Z) (k1 _ _ (Kv hS)) ?_;rintro _ w5 ⟨rfl,E5⟩;have:=E5.Z;refine Xz Z<|Vp<|Uk Z fun h2=>?_;refine Vw<|Ym<|Xf Z<|Vz Z<|Vp ?_;rotate_left;exact Kt
   refine ⟨(k+1,uk,L),Kn,Ko,?_,?_⟩
   ·refine ⟨by exact (E4.K E5),Kh,Kh,by exact (Ku E5 hS),by exact (hBe.J E5),by exact (hK.J E5),Kh,?_⟩
    rw [hts];exact hM.skip hin
   ·simp only;omega
  ·have k1 : ∀ (w:World) (t:Value),Ints w t (ints L)→Dz 145 [t,.int .i64 ((ints (kndL p))[((ints (arr p a))[k]'Kh).toNat]'(by rw [hgn];omega))] w (Ret w (.bool false)):=fun w t h=>by
    have:=Sq w t _ h (knd p (arr p a)[k]:Int)
    rw [decide_eq_false (fun h=>hin (mem_ints.1 h))] at this
    rw [hkk];exact this
   focus
    have:=E1.Z;refine Vr<|Yy Z<|Vp<|Vt<|Vu Z (fun h1=>?_) (fun h1=>?_);refine Vw<|Vt<|Yb<|Vr<|Xv Jl Ji Jk Z (fun _=>Z) Z (Ky hBe) (Jf _) Z Km ?_;rintro _ _ rfl;refine Yx Z<|Vp<|Vr<|Yj uk Z<|Yj u1 Z<|Vz Z<|Ry Jl Ji Jk Z (fun _=>Z) Z (Kw hK) (Jf _) Z Km ?_;rintro _ _ rfl;refine Vs Z (Xa (a:=uk) (b:=.int _ _) Zs Z Z) (k1 _ _ (Kv hS)) ?_;rintro _ w5 ⟨rfl,E5⟩;have:=E5.Z;refine Xz Z<|Vp<|Up Z (fun h2=>?_) (fun h2=>?_)
    refine Ym<|Yj uk Z<|Yj u1 Z<|Vz Z<|Ry Jl Ji Jk Z (fun _=>Z) Z (Kw hK) E5 Z Km ?_;rintro _ _ rfl;refine Xg (ps:=[(0,.int _ _)]) (cs:=[_]) Z Jl Ji Gf Z Z Z Z ?_;rintro b2 w6 H2 E6 B1 Y2;have:=B1.lt;refine Ur Z Rl Z Z B1 (hS.toB.J (E5.K E6)) Owned.int (Kz _) Km Kh Kh ((E4.K E5).K E6) Kh ?_;have T1:=(hS.toB.J (E5.K E6));rintro v1 w7 hS E7 M1;have hBe:=(hBe.J exq).moves M1;have hK:=(hK.J exq).moves M1 T1 Kh;refine Uc v1 Z<|Vp<|Ym<|Xf Z<|Vz Z<|Vp ?_;rotate_left;exact Ks;exact Kt
   refine ⟨((k+1,v1,L++[knd p (arr p a)[k]])),Kn,Ko,?_,?_⟩
   ·have e:ints L++[(ints (kndL p))[((ints (arr p a))[k]'Kh).toNat]'(by rw [hgn];omega)]=ints (L++[knd p (arr p a)[k]]):=by rw [hkk];simp [ints]
    refine ⟨by exact E7,(by have:=M1.1.size;omega),Kh,by rw [← e];exact hS,hBe,hK,Kg,?_⟩
    rw [hts];exact hM.step hin
   ·simp only;omega
 ·obtain rfl:k=(arr p a).length:=by omega
  rw [List.take_length] at hM
  have:=hM.many hp.gr ha
  focus
   refine Vr<|Yy Z<|Vp<|Vt<|Vv Z fun h1=>?_;refine Xm ?_;refine Yn ?_;refine Vr<|Yj uk Z<|Ys Jl Z (Kv hS)<|Yx Z<|Vp<|Vy ?_;refine Yh (v:=.int _ _) Z ?_;refine ⟨congrArg (Value.int .i64) ?_,E4⟩
  rw [hLil,this]
open Classical in
theorem spec_HasSet_ok (w:World) (v u:Value) (p q:List (List Int)) (h:ESl Ints w v p) (h':ESl Ints w u q) (hp:Pic p) (hq:Pic q):Dz 67 [v,.int .i64 0,u,.int .i64 0] w (Ret w (.bool (hasV p 0 q 0))):=by
 have hN:Nod p 0:=⟨hp,Kj,by have:=hp.1;omega⟩
 have hN':Nod q 0:=⟨hq,Kj,by have:=hq.1;omega⟩
 have k1 : ∀ (w:World) (v:Value),ESl Ints w v p→Dz 118 [v,.int .i64 0] w (Ret w (.bool true)):=fun w v h=>by
  have:=Rq w v p h 0;rwa [decide_eq_true hN] at this
 have k2 : ∀ (w:World) (v:Value),ESl Ints w v q→Dz 118 [v,.int .i64 0] w (Ret w (.bool true)):=fun w v h=>by
  have:=Rq w v q h 0;rwa [decide_eq_true hN'] at this
 have k3 : ∀ (w:World) (v:Value),ESl Ints w v p→Dz 119 [v,.int .i64 0] w (RetO w XI (ints (arr p 0))):=fun w v h=>Tu w v p h hp.gr 0 hp.1
 have hal:=Lm hp.gr hp.1
 have hail:=Ul (arr p 0)
 have I5:=hp.2.1
 refine Yr Tryz.func67 Z Tryz.results67 Tryz.ntmps67 Z ?_
 focus
  refine Vr<|Ya Z<|Vp<|Vt<|Vr<|Yj v Z<|Vz Z<|Vs Z (Xa (a:=v) (b:=.int _ _) Zd Z Z) (k1 _ _ (h)) ?_;rintro _ w1 ⟨rfl,E1⟩;refine Xz Z<|Uf Z (Xj (v:=.bool _) Z) (fun h1=>?_) (fun h1=>?_);exact Ks;refine Yj u Z<|Vz Z<|Vs Z (Xa (a:=u) (b:=.int _ _) Zd Z Z) (k2 _ _ (Ku E1 h')) ?_;rintro _ w2 ⟨rfl,E2⟩;refine Xz Z<|Xb Z<|Vp<|Uk Z fun h2=>?_;refine Vw<|Vr<|Yj v Z<|Vz Z<|Vs Z (Xa (a:=v) (b:=.int _ _) Zt Z Z) (k3 _ _ (Ku exq h)) ?_;rintro u1 w3 ⟨E3,O1⟩;refine Uc u1 Z<|Vp<|Vt<|Vr<|Yx Z<|Vp<|Yb ?_
 refine Xt [8,10,24,25,26,27,28,29,30,31,32,33,34,35,36,37] (fun (k:Nat)=>[(10,.int .i64 (k:Nat))]) (fun k w'=>Ext w3 w'∧k≤(arr p 0).length∧((arr p 0).take k).any (fun v=>decide (Bis p v q 0))=false) (fun x=>(arr p 0).length - x) 0 Kn ?_ ?_
 ·exact ⟨by exact (Jf _),Ja _,Kp⟩
 rintro k ρj w4 ⟨E4,hk,hn⟩
 by_cases hlt:k < (arr p 0).length
 ·have hm:=Qm hp.gr hp.1 (List.getElem_mem hlt)
  have hgk:(ints (arr p 0))[k]'Kh=((arr p 0)[k]:Int):=Qh hlt
  have hnk:Nod p ((arr p 0)[k]:Nat):=⟨hp,Kh,Kh⟩
  have k4 : ∀ (w:World) (v u:Value),ESl Ints w v p→ESl Ints w u q→Dz 121 [v,.int .i64 ((ints (arr p 0))[k]'Kh),u,.int .i64 0] w (Ret w (.bool (decide (Bis p (arr p 0)[k] q 0)))):=fun w v u h h'=>by
   have:=Tq w v u p q h h' ((arr p 0)[k]:Nat) 0 hnk hN'
   rw [hgk];exact this
  by_cases hB:Bis p (arr p 0)[k] q 0
  ·rw [decide_eq_true hB] at k4
   focus
    refine Vt<|Vr<|Vz Z<|Yj u1 Z<|Ys Jl Z (Kv O1)<|Yy Z<|Vp<|Vu Z (fun h3=>?_) (fun h3=>?_);refine Vw<|Vt<|Yb<|Vr<|Yj v Z<|Yj u1 Z<|Vz Z<|Xv Jl Ji Jk Z (fun _=>Z) Z (Kv O1) E4 Z Km ?_;rintro _ _ rfl;refine Yj u Z<|Vz Z<|Vs Z (Ss (a:=v) (b:=.int _ _) (c:=u) (d:=.int _ _) Ve Z Z Z Z) (k4 _ _ _ (Ku exq h) (Ku exq h')) ?_;rintro _ w5 ⟨rfl,E5⟩;refine Vp<|Xe Z ?_;refine Vr<|Ya Z<|Vp<|Vy ?_;refine Yh (v:=.bool _) Z ?_;refine ⟨congrArg Value.bool ?_,exq⟩;rotate_left;exact Kt
   exact (List.any_eq_true.2 ⟨_,List.getElem_mem hlt,Jb hB⟩).symm
  ·rw [decide_eq_false hB] at k4
   focus
    refine Vt<|Vr<|Vz Z<|Yj u1 Z<|Ys Jl Z (Kv O1)<|Yy Z<|Vp<|Vu Z (fun h3=>?_) (fun h3=>?_);refine Vw<|Vt<|Yb<|Vr<|Yj v Z<|Yj u1 Z<|Vz Z<|Xv Jl Ji Jk Z (fun _=>Z) Z (Kv O1) E4 Z Km ?_;rintro _ _ rfl;refine Yj u Z<|Vz Z<|Vs Z (Ss (a:=v) (b:=.int _ _) (c:=u) (d:=.int _ _) Ve Z Z Z Z) (k4 _ _ _ (Ku exq h) (Ku exq h')) ?_;rintro _ w5 ⟨rfl,E5⟩;refine Vp<|Vx Z ?_;refine Vw<|Ym<|Vz Z<|Xf Z<|Yx Z<|Vp ?_;rotate_left;exact Kt
   refine ⟨(k+1),Kn,Ko,?_,?_⟩
   ·refine ⟨by exact (E4.K E5),Kh,?_⟩
    rw [Ua _ _ hlt,List.any_append,hn]
    simp [hB]
   ·omega
 ·obtain rfl:k=(arr p 0).length:=by omega
  rw [List.take_length] at hn
  focus
   refine Vt<|Vr<|Vz Z<|Yj u1 Z<|Ys Jl Z (Kv O1)<|Yy Z<|Vp<|Vv Z fun h3=>?_;refine Xm ?_;refine Yn ?_;refine Vr<|Ya Z<|Vp<|Vy ?_;refine Yh (v:=.bool _) Z ?_;refine ⟨congrArg Value.bool ?_,exq⟩
  exact hn.symm
theorem spec_ManyIn_ok (w:World) (v:Value) (p:List (List Int)) (h:ESl Ints w v p) (hp:Pic p):Dz 65 [v,.int .i64 0] w (Ret w (.int .i64 (manyV p 0:Int))):=by
 have hN:Nod p 0:=⟨hp,Kj,by have:=hp.1;omega⟩
 have k1 : ∀ (w:World) (v:Value),ESl Ints w v p→Dz 118 [v,.int .i64 0] w (Ret w (.bool true)):=fun w v h=>by
  have:=Rq w v p h 0;rwa [decide_eq_true hN] at this
 have k3 : ∀ (w:World) (v:Value),ESl Ints w v p→Dz 119 [v,.int .i64 0] w (RetO w XI (ints (arr p 0))):=fun w v h=>Tu w v p h hp.gr 0 hp.1
 have hal:=Lm hp.gr hp.1
 have hail:=Ul (arr p 0)
 have I5:=hp.2.1
 refine Yr Tryz.func65 Z Tryz.results65 Tryz.ntmps65 Z ?_
 focus
  refine Vr<|Yx Z<|Vp<|Vt<|Vr<|Yj v Z<|Vz Z<|Vs Z (Xa (a:=v) (b:=.int _ _) Zd Z Z) (k1 _ _ (h)) ?_;rintro _ w1 ⟨rfl,E1⟩;refine Xz Z<|Vp<|Uk Z fun h1=>?_;refine Vw<|Vr<|Yj v Z<|Vz Z<|Vs Z (Xa (a:=v) (b:=.int _ _) Zt Z Z) (k3 _ _ (Ku E1 h)) ?_;rintro u1 w2 ⟨E2,O1⟩;refine Uc u1 Z<|Vp<|Vt<|Ym<|Yx Z<|Vp<|Vt<|Vr<|Yx Z<|Vp<|Yb ?_
 refine Xt [6,7,8,9,17,18,19,20,21,22,23,24,25,26,27,28,29,30,31,32,33,34,35,36,37,38,39,40] (fun ((k,L):Nat × List Nat)=>[(7,.int .i64 (k:Nat)),(6,.int .i64 (L.length:Nat))]) (fun (k,L) w'=>Ext w2 w'∧k≤(arr p 0).length∧L.length≤k∧Mny p ((arr p 0).take k) L) (fun x=>(arr p 0).length - x.1) (0,[]) Kn ?_ ?_
 ·exact ⟨by exact (Jf _),Ja _,Kp,by simpa using Mny.zero⟩
 rintro ⟨k,L⟩ ρj w4 ⟨E4,hk,hL,hM⟩
 by_cases hlt:k < (arr p 0).length
 ·have hm:=Qm hp.gr hp.1 (List.getElem_mem hlt)
  have hgk:(ints (arr p 0))[k]'Kh=((arr p 0)[k]:Int):=Qh hlt
  focus
   refine Vt<|Vr<|Vz Z<|Yj u1 Z<|Ys Jl Z (Kv O1)<|Yy Z<|Vp<|Vu Z (fun h2=>?_) (fun h2=>?_);refine Vw<|Vt<|Yb<|Vr<|Yx Z<|Vp<|Vt<|Vr<|Yx Z<|Vp<|Yb ?_;rotate_left;exact Kt
  refine Xt [8,9,23,24,25,26,27,28,29,30,31,32,33,34,35,36,37] (fun ((j,f):Nat × Bool)=>[(9,.int .i64 (j:Nat)),(8,.int .i64 (if f then 1 else 0))]) (fun (j,f) w'=>Ext w2 w'∧j≤k∧f=decide (∀ x ∈ (arr p 0).take j,knd p x≠knd p (arr p 0)[k])) (fun x=>k - x.1) (0,true) Kn ?_ ?_
  ·exact ⟨by exact E4,Ja _,Kp⟩
  rintro ⟨j,f⟩ ρk w5 ⟨E5,hj,hf⟩
  by_cases hjk:j < k
  ·have hmj:=Qm hp.gr hp.1 (List.getElem_mem (show j < (arr p 0).length by omega))
   have hgj:(ints (arr p 0))[j]'Kh=((arr p 0)[j]:Int):=Qh Kh
   have k4 : ∀ (w:World) (v:Value),ESl Ints w v p→Dz 120 [v,.int .i64 ((ints (arr p 0))[j]'Kh),.int .i64 ((ints (arr p 0))[k]'Kh)] w (Ret w (.bool (decide (knd p (arr p 0)[j]=knd p (arr p 0)[k])))):=fun w v h=>by
    have:=spec_SameAt_ok w v p h ((arr p 0)[j]:Nat) ((arr p 0)[k]:Nat)
    rw [hgj,hgk]
    have e:smV p ((arr p 0)[j]:Nat) ((arr p 0)[k]:Nat)=decide (knd p (arr p 0)[j]=knd p (arr p 0)[k]):=by
     have h1:Nod p ((arr p 0)[j]:Nat):=⟨hp,Kh,Kh⟩
     have h2:Nod p ((arr p 0)[k]:Nat):=⟨hp,Kh,Kh⟩
     unfold smV
     rw [decide_eq_true h1,decide_eq_true h2,Bool.true_and,Bool.true_and,Int.toNat_natCast,Int.toNat_natCast,Bool.eq_iff_iff,decide_eq_true_iff,knd_eq_iff Kh Kh]
     rfl
    rw [← e];exact this
   by_cases hB:knd p (arr p 0)[j]=knd p (arr p 0)[k]
   ·rw [decide_eq_true hB] at k4
    focus
     refine Vt<|Vr<|Vz Z<|Vz Z<|Yy Z<|Vp<|Vu Z (fun h3=>?_) (fun h3=>?_);refine Vw<|Vt<|Yb<|Vt<|Qe mixed Ki Z ?_;refine Sb v Z<|Sb u1 Z<|Sv Z<|Qf Jl Ji Jk Z (fun _=>Z) Z (Kv O1) E5 Z Km ?_;rintro _ _ rfl;refine Sb u1 Z<|Sv Z<|Qf Jl Ji Jk Z (fun _=>Z) Z (Kv O1) E5 Z Km ?_;rintro _ _ rfl;refine Rb Z (fun _ _=>Qq (a:=v) (b:=.int _ _) (c:=.int _ _) Tryz.call120 Z Z Z) (fun w' hw'=>(k4 _ _ (Ku exq h))) ?_;refine Ux (fun w3 E3=>?_);refine Xe Z ?_;refine Ym<|Yx Z<|Vp<|Ym<|Vz Z<|Xf Z<|Yx Z<|Vp ?_
     rotate_left;exact Kt
    refine ⟨(j+1,false),Kn,Ko,?_,?_⟩
    ·refine ⟨by exact (E5.K E3),Kh,(Jc fun h=>?_).symm⟩
     rw [Ua _ _ Kh] at h
     exact h _ (Jg _ (List.mem_singleton.2 rfl)) hB
    ·simp only;omega
   ·rw [decide_eq_false hB] at k4
    focus
     refine Vt<|Vr<|Vz Z<|Vz Z<|Yy Z<|Vp<|Vu Z (fun h3=>?_) (fun h3=>?_);refine Vw<|Vt<|Yb<|Vt<|Qe mixed Ki Z ?_;refine Sb v Z<|Sb u1 Z<|Sv Z<|Qf Jl Ji Jk Z (fun _=>Z) Z (Kv O1) E5 Z Km ?_;rintro _ _ rfl;refine Sb u1 Z<|Sv Z<|Qf Jl Ji Jk Z (fun _=>Z) Z (Kv O1) E5 Z Km ?_;rintro _ _ rfl;refine Rb Z (fun _ _=>Qq (a:=v) (b:=.int _ _) (c:=.int _ _) Tryz.call120 Z Z Z) (fun w' hw'=>(k4 _ _ (Ku exq h))) ?_;refine Ux (fun w3 E3=>?_);refine Vx Z ?_;refine Vw<|Ym<|Vz Z<|Xf Z<|Yx Z<|Vp ?_;rotate_left
     exact Kt
    refine ⟨(j+1,f),Kn,Ko,?_,?_⟩
    ·refine ⟨by exact (E5.K E3),Kh,?_⟩
     rw [hf,Ua _ _ Kh,decide_eq_decide]
     constructor
     ·intro h x hx
      rcases List.mem_append.1 hx with hx | hx
      ·exact h x hx
      ·rw [List.mem_singleton.1 hx];exact hB
     ·exact fun h x hx=>h x (Jh _ hx)
    ·simp only;omega
  ·obtain rfl:j=k:=by omega
   cases f
   ·have hin:knd p (arr p 0)[j] ∈ L:=by
     have:=of_decide_eq_false hf.symm
     rw [hM.mem]
     refine Classical.byContradiction fun h=>this fun x hx e=>h ⟨x,hx,e⟩
    focus
     refine Vt<|Vr<|Vz Z<|Vz Z<|Yy Z<|Vp<|Vv Z fun h3=>?_;refine Xm ?_;refine Yn ?_;refine Ym<|Vz Z<|Vz Z<|Xf Z<|Yx Z<|Vp<|Ym<|Vz Z<|Xf Z<|Yx Z<|Vp ?_
    refine ⟨(j+1,L),⟨rfl,congrArg (Value.int .i64) Kp,trivial⟩,Ko,⟨by exact E5,Kh,Kh,?_⟩,Kq⟩
    rw [Ua _ _ hlt]
    exact hM.skip hin
   ·have hin:knd p (arr p 0)[j] ∉ L:=by
     have:=of_decide_eq_true hf.symm
     rw [hM.mem]
     rintro ⟨x,hx,e⟩
     exact this x hx e
    focus
     refine Vt<|Vr<|Vz Z<|Vz Z<|Yy Z<|Vp<|Vv Z fun h3=>?_;refine Xm ?_;refine Yn ?_;refine Ym<|Vz Z<|Vz Z<|Xf Z<|Yx Z<|Vp<|Ym<|Vz Z<|Xf Z<|Yx Z<|Vp ?_
    refine ⟨(j+1,L++[knd p (arr p 0)[j]]),⟨rfl,congrArg (Value.int .i64) Kp,trivial⟩,Ko,⟨by exact E5,Kh,Kg,?_⟩,Kq⟩
    rw [Ua _ _ hlt]
    exact hM.step hin
 ·obtain rfl:k=(arr p 0).length:=by omega
  rw [List.take_length] at hM
  have:=hM.many hp.gr hp.1
  focus
   refine Vt<|Vr<|Vz Z<|Yj u1 Z<|Ys Jl Z (Kv O1)<|Yy Z<|Vp<|Vv Z fun h2=>?_;refine Xm ?_;refine Yn ?_;refine Vr<|Vz Z<|Yx Z<|Vp<|Vy ?_;refine Yh (v:=.int _ _) Z ?_;refine ⟨congrArg (Value.int .i64) ?_,exq⟩
  rw [this]
end Go.Proofs.YtbgpppaljpngmaaGreatDoor
namespace Go.Hs
inductive Fm where
 | t
 | neg (f:Fm)
 | S (f:Fm)
 | A (f:Fm)
 | and (f g:Fm)
 | or (f g:Fm)
 deriving DecidableEq,Inhabited
namespace Fm
def enc:Fm→List UInt8
 | t=>[116]
 | neg f=>33::enc f
 | S f=>83::enc f
 | A f=>65::enc f
 | and f g=>40::(enc f++38::(enc g++[41]))
 | or f g=>40::(enc f++124::(enc g++[41]))
theorem enc_pos (f:Fm):0 < f.enc.length:=by cases f <;> simp [enc]
theorem enc_inj : ∀ (f g:Fm) (r r':List UInt8),f.enc++r=g.enc++r'→f=g∧r=r':=by
 intro f
 induction f with
 | t=>intro g r r' h;cases g <;> simp_all [enc]
 | neg f ih=>intro g r r' h;cases g <;> simp [enc] at h;obtain ⟨rfl,rfl⟩:=ih _ _ _ h;exact ⟨rfl,rfl⟩
 | S f ih=>intro g r r' h;cases g <;> simp [enc] at h;obtain ⟨rfl,rfl⟩:=ih _ _ _ h;exact ⟨rfl,rfl⟩
 | A f ih=>intro g r r' h;cases g <;> simp [enc] at h;obtain ⟨rfl,rfl⟩:=ih _ _ _ h;exact ⟨rfl,rfl⟩
 | and f1 f2 ih1 ih2 =>
   intro g r r' h
   cases g <;> simp [enc] at h
   · obtain ⟨rfl, h⟩ := ih1 _ _ _ h
     simp at h
     obtain ⟨rfl, h⟩ := ih2 _ _ _ h
     simp at h
     exact ⟨rfl, h⟩
   · obtain ⟨rfl, h⟩ := ih1 _ _ _ h
     simp at h
 | or f1 f2 ih1 ih2 =>
   intro g r r' h
   cases g <;> simp [enc] at h
   · obtain ⟨rfl, h⟩ := ih1 _ _ _ h
     simp at h
   · obtain ⟨rfl, h⟩ := ih1 _ _ _ h
     simp at h
     obtain ⟨rfl, h⟩ := ih2 _ _ _ h
     simp at h
     exact ⟨rfl, h⟩
end Fm
open Classical in
noncomputable def pre (l:List UInt8):Option (Fm × List UInt8) :=
 if h : ∃ p:Fm × List UInt8,l=p.1.enc++p.2 then some (Classical.choose h) else none
theorem Ts {l:List UInt8} {f:Fm} {r:List UInt8} (h:l=f.enc++r):pre l=some (f,r):=by
 have hx : ∃ p:Fm × List UInt8,l=p.1.enc++p.2:=⟨(f,r),h⟩
 unfold pre
 rw [dif_pos hx]
 have hs:=Classical.choose_spec hx
 generalize Classical.choose hx=p at hs
 obtain ⟨g,r'⟩:=p
 obtain ⟨rfl,rfl⟩:=Fm.enc_inj _ _ _ _ (h.symm.trans hs)
 rfl
theorem Ro {l:List UInt8} {f:Fm} {r:List UInt8} (h:pre l=some (f,r)):l=f.enc++r:=by
 unfold pre at h
 split at h
 ·rename_i hx
  have hs:=Classical.choose_spec hx
  simp only [Option.some.injEq] at h
  rw [h] at hs
  exact hs
 ·cases h
theorem Mo {l:List UInt8} (h : ∀ f r,l≠Fm.enc f++r):pre l=none:=by
 unfold pre
 rw [dif_neg]
 rintro ⟨⟨f,r⟩,e⟩
 exact h f r e
theorem Tv {l:List UInt8} (h:pre l=none) (f:Fm) (r:List UInt8):l≠f.enc++r:=fun e=>by rw [Ts e] at h;cases h
theorem pre_nil:pre []=none:=Mo fun f r h=>by have:=congrArg List.length h;have:=f.enc_pos;simp at *;omega
theorem pre_t (r:List UInt8):pre (116::r)=some (.t,r):=Ts rfl
theorem pre_neg {r r':List UInt8} {f:Fm} (h:pre r=some (f,r')):pre (33::r)=some (.neg f,r'):=Ts (by rw [Ro h];rfl)
theorem pre_S {r r':List UInt8} {f:Fm} (h:pre r=some (f,r')):pre (83::r)=some (.S f,r'):=Ts (by rw [Ro h];rfl)
theorem pre_A {r r':List UInt8} {f:Fm} (h:pre r=some (f,r')):pre (65::r)=some (.A f,r'):=Ts (by rw [Ro h];rfl)
theorem pre_un_none {c:UInt8} {r:List UInt8} (h:pre r=none) (hc:c=33∨c=83∨c=65):pre (c::r)=none:=Mo fun f r' e=>by
 cases f <;> simp [Fm.enc] at e
 ·obtain ⟨rfl,_⟩:=e;simp at hc
 ·exact Tv h _ _ e.2
 ·exact Tv h _ _ e.2
 ·exact Tv h _ _ e.2
 ·obtain ⟨rfl,_⟩:=e;simp at hc
 ·obtain ⟨rfl,_⟩:=e;simp at hc
theorem pre_other {c:UInt8} {r:List UInt8} (h:c≠116∧c≠33∧c≠83∧c≠65∧c≠40):pre (c::r)=none:=Mo fun f r' e=>by
 cases f <;> simp [Fm.enc] at e <;> simp_all
theorem pre_and {r r2 r3:List UInt8} {f g:Fm} (h1:pre r=some (f,38::r2)) (h2:pre r2=some (g,41::r3)):pre (40::r)=some (.and f g,r3) :=
 Ts (by rw [Ro h1,Ro h2];simp [Fm.enc])
theorem pre_or {r r2 r3:List UInt8} {f g:Fm} (h1:pre r=some (f,124::r2)) (h2:pre r2=some (g,41::r3)):pre (40::r)=some (.or f g,r3) :=
 Ts (by rw [Ro h1,Ro h2];simp [Fm.enc])
theorem pre_br1 {r:List UInt8} (h:pre r=none):pre (40::r)=none:=Mo fun f r' e=>by
 cases f <;> simp [Fm.enc] at e
 ·exact Tv h _ _ e
 ·exact Tv h _ _ e
theorem pre_br2 {r r1:List UInt8} {f:Fm} (h:pre r=some (f,r1)) (h1 : ∀ c r2,r1=c::r2→c≠38∧c≠124):pre (40::r)=none:=Mo fun g r' e=>by
 cases g <;> simp [Fm.enc] at e
 ·rw [Ts e] at h
  simp at h
  obtain ⟨_,rfl⟩:=h
  exact (h1 _ _ rfl).1 rfl
 ·rw [Ts e] at h
  simp at h
  obtain ⟨_,rfl⟩:=h
  exact (h1 _ _ rfl).2 rfl
theorem pre_br3 {r r2:List UInt8} {f:Fm} {c:UInt8} (h:pre r=some (f,c::r2)) (h2:pre r2=none):pre (40::r)=none:=Mo fun g r' e=>by
 cases g <;> simp [Fm.enc] at e
 all_goals
  rw [Ts e] at h
  simp at h
  obtain ⟨_,_,rfl⟩:=h
  exact Tv h2 _ _ rfl
theorem pre_br4 {r r2 r3:List UInt8} {f g:Fm} {c:UInt8} (h:pre r=some (f,c::r2)) (h2:pre r2=some (g,r3)) (h3 : ∀ r4,r3≠41::r4):pre (40::r)=none:=Mo fun k r' e=>by
 cases k <;> simp [Fm.enc] at e
 all_goals
  rw [Ts e] at h
  simp at h
  obtain ⟨_,_,rfl⟩:=h
  rw [Ts rfl] at h2
  simp at h2
  exact h3 _ h2.2.symm
noncomputable def theF (s:List UInt8):Option Fm :=
 if s.length≤60 then match pre s with
  | some (f,[])=>some f
  | _=>none
 else none
theorem theF_some {s:List UInt8} {f:Fm} : theF s=some f↔s=f.enc∧s.length≤60:=by
 unfold theF
 split
 ·rename_i hl
  constructor
  ·intro h
   split at h
   ·rename_i g hp
    simp at h
    subst h
    have:=Ro hp
    simp at this
    exact ⟨this,hl⟩
   ·cases h
  ·rintro ⟨rfl,_⟩
   rw [Ts (f:=f) (r:=[]) Kp]
 ·rename_i hl
  constructor
  ·intro h;cases h
  ·intro h;exact absurd h.2 hl
theorem theF_long {s:List UInt8} (h:60 < s.length):theF s=none:=by unfold theF;rw [if_neg Kh]
noncomputable def endV (l:List UInt8) (n:Nat):Int:=match pre l with
 | some (_,r)=>((n - r.length:Nat):Int)
 | none=>-1
end Go.Hs
