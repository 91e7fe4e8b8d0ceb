/- Lemmas for FnDeskLine. -/
import Derived.Test.YtbgpppaljpngmaaGreatDoorMFnDeskLine3
namespace Go.Proofs.YtbgpppaljpngmaaGreatDoor
open Go.Hs
set_option maxRecDepth 10000
set_option maxHeartbeats 4000000
set_option linter.unusedVariables false
set_option linter.unusedSimpArgs false
theorem arr_lt5 {p:List (List Int)} (hp:Pic p) {i:Nat} (hi:i < p.length):(arr p i).length≤5:=by
 have h8:=Mn (p.getD i [])
 rw [Xl Kh,hp.row Kh] at h8
 have:=hp.2.1
 unfold arr;rw [Xl Kh];omega
theorem ints_any (l:List Nat) (g:Int→Bool):(ints l).any g=l.any fun x=>g (x:Int):=by
 unfold ints;rw [List.any_map];rfl
theorem onLoop_ok (w:World) (v:Value) (p:List (List Int)) (h:ESl Ints w v p) (hp:Pic p) (i:Nat) (hi:i < p.length):Dz 213 [v,.int .i64 (i:Int)] w (Ret w (.bool (onl p i))):=by
 have I5:=hp.2.1
 obtain ⟨pa,pc,rfl,_⟩:=id h
 have harr : ∀ (w1:World) (pv:Value),ESl Ints w1 pv p→Dz 130 [pv,.int .i64 (i:Int)] w1 (RetO w1 XI (ints (arr p i))):=fun w1 pv h1 =>
  Rf w1 pv p h1 (i:Int) ⟨Kh,Kh⟩ (by rw [Xl Kh,hp.row Kh];omega)
 have hcl : ∀ (w1:World) (b3 b4:Nat) (x:Nat),Ext w w1→Blk w1 b3 [.slice pa p.length pc]→Blk w1 b4 [.int .i64 (i:Int)]→x < p.length→Dz 229 [.int .i64 (x:Int),.pointer (some ⟨b3,0,none⟩),.pointer (some ⟨b4,0,none⟩)] w1 (Ret w1 (.bool ((rf p x).contains i))):=by
  intro w1 b3 b4 x E0 B3 B4 hx
  have hE:ESl Ints w1 (.slice pa p.length pc) p:=Ku E0 h
  have hrf : ∀ (w2:World) (pv:Value),ESl Ints w2 pv p→Dz 210 [pv,.int .i64 (x:Int)] w2 (RetO w2 XI (ints (rf p x))):=fun w2 pv h2=>reachedFrom_ok w2 pv p h2 hp x hx
  refine Yr Tryz.func229 Z Tryz.results229 Tryz.ntmps229 Z ?_
  focus
   refine Vr<|Ya Z<|Vp<|Vt<|Rm (fun _=>True) mixed Z Ki ?_;intro w2 E1 K1 Z1;refine Mb 1 Z Z trivial<|Wha [0,3]<|Yg Z ?_ ?_;refine Rg Ju (B3.J E1) Z<|Wnt<|Wha [2,3]<|Yg Z ?_ ?_;refine Vs Z (Xa (a:=.slice _ _ _) (b:=.int _ _) Tryz.call210 Z Z) (hrf _ _ (Ku E1 hE)) ?_;rintro u1 w3 ⟨E2,O1⟩;refine Wnt<|Wha [3]<|Wh1 Z<|Xx Jk (B4.J exq) Z<|Wnt<|Wha [4]<|Wh1 Z<|Vs Z (Xa (a:=u1) (b:=.int _ _) Zs Z Z) (Sq _ _ _ (Kv O1) _) ?_;rintro _ w4 ⟨rfl,E3⟩;refine Wnt<|WtaB 5 Z Z trivial<|Yp Ki ?_;refine Vy ?_;refine Yh (v:=.bool _) Z ?_;refine ⟨congrArg Value.bool ?_,exq⟩;rotate_left
   refine Wh1 Z<|Xx Jk (B4.J E1) Z<|Wnt<|Wha [2]<|Wh1 Z<|Vs Z (Xa (a:=.slice _ _ _) (b:=.int _ _) Tryz.call210 Z Z) (hrf _ _ (Ku E1 hE)) ?_;rintro u1 w3 ⟨E2,O1⟩;refine Wnt<|Wha [4]<|Wh1 Z<|Vs Z (Xa (a:=u1) (b:=.int _ _) Zs Z Z) (Sq _ _ _ (Kv O1) _) ?_;rintro _ w4 ⟨rfl,E3⟩;refine Wnt<|WtaB 5 Z Z trivial<|Yp Ki ?_;refine Vy ?_;refine Yh (v:=.bool _) Z ?_;refine ⟨congrArg Value.bool ?_,exq⟩;rotate_left;refine Wh1 Z<|Xx Jk (B4.J E1) Z<|Wnt<|Wha [0]<|Wh1 Z<|Rg Ju (B3.J E1) Z<|Wnt<|Wha [2]<|Wh1 Z<|Vs Z (Xa (a:=.slice _ _ _) (b:=.int _ _) Tryz.call210 Z Z) (hrf _ _ (Ku E1 hE)) ?_;rintro u1 w3 ⟨E2,O1⟩
   refine Wnt<|Wha [4]<|Wh1 Z<|Vs Z (Xa (a:=u1) (b:=.int _ _) Zs Z Z) (Sq _ _ _ (Kv O1) _) ?_;rintro _ w4 ⟨rfl,E3⟩;refine Wnt<|WtaB 5 Z Z trivial<|Yp Ki ?_;refine Vy ?_;refine Yh (v:=.bool _) Z ?_;refine ⟨congrArg Value.bool ?_,exq⟩;rotate_left
  all_goals exact contains_ints
 have hcon : ∀ (w1:World) (u:Value) (b3 b4:Nat),Ext w w1→Blk w1 b3 [.slice pa p.length pc]→Blk w1 b4 [.int .i64 (i:Int)]→Ints w1 u (ints (arr p i))→Dz 146 [u,.func (.func 229) [].toArray [.pointer (some ⟨b3,0,none⟩),.pointer (some ⟨b4,0,none⟩)].toArray] w1 (Ret w1 (.bool (onl p i))):=by
  intro w1 u b3 b4 E0 B3 B4 hu
  have:=Sg w1 u _ hu 229 [.pointer (some ⟨b3,0,none⟩),.pointer (some ⟨b4,0,none⟩)] (fun x=>(rf p x.toNat).contains i) Tryz.call229 (fun x w' hx e=>by
   simp only [ints,List.mem_map] at hx
   obtain ⟨j,hj,rfl⟩:=hx
   exact hcl w' b3 b4 j (E0.K e) (B3.J e) (B4.J e) ((Rc hp hi).1 hj).1)
  rw [ints_any] at this
  exact this
 refine Yr Tryz.func213 Z Tryz.results213 Tryz.ntmps213 Z ?_
 focus
  refine Vr<|Xu Z Z Z ?_;rintro b1 w1 H1 E1 B1;refine Xu Z Z Z ?_;rintro b2 w2 H2 E2 B2;refine Ya Z<|Vp<|Vr<|Rg Ju (B1.J E2) Z<|Xx Jk B2 Z<|Vs Z (Xa (a:=.slice _ _ _) (b:=.int _ _) Gy Z Z) (harr _ _ (Ku exq h)) ?_;rintro u1 w3 ⟨E3,O1⟩;refine Wo Z (Rt Z Z)<|Vs Z (Xa (a:=u1) (b:=.func _ _ _) Vc Z Z) (hcon _ _ _ _ exq (B1.J exq) (B2.J E3) (Kv O1)) ?_;rintro _ w4 ⟨rfl,E4⟩;refine Ya Z<|Vp<|Vy ?_;exact ⟨rfl,exq⟩
theorem Mc (w:World) (v:Value) (p:List (List Int)) (h:ESl Ints w v p) (hp:Pic p) (i:Nat) (hi:i < p.length):Dz 187 [v,.int .i64 (i:Int)] w (Ret w (.bool (cback p i))):=by
 obtain ⟨pa,pc,rfl,_⟩:=id h
 have hrf : ∀ (w2:World) (pv:Value),ESl Ints w2 pv p→Dz 210 [pv,.int .i64 (i:Int)] w2 (RetO w2 XI (ints (rf p i))):=fun w2 pv h2=>reachedFrom_ok w2 pv p h2 hp i hi
 have hcl : ∀ (w1:World) (b3 x:Nat),Ext w w1→Blk w1 b3 [.slice pa p.length pc]→x < p.length→Dz 212 [.int .i64 (x:Int),.pointer (some ⟨b3,0,none⟩)] w1 (Ret w1 (.bool (onl p x))):=by
  intro w1 b3 x E0 B3 hx
  have hE:ESl Ints w1 (.slice pa p.length pc) p:=Ku E0 h
  have hon : ∀ (w2:World) (pv:Value),ESl Ints w2 pv p→Dz 213 [pv,.int .i64 (x:Int)] w2 (Ret w2 (.bool (onl p x))):=fun w2 pv h2=>onLoop_ok w2 pv p h2 hp x hx
  refine Yr Tryz.func212 Z Tryz.results212 Tryz.ntmps212 Z ?_
  focus
   refine Vr<|Ya Z<|Vp<|Vr<|Rg Ju B3 Z<|Vz Z<|Vs Z (Xa (a:=.slice _ _ _) (b:=.int _ _) Tryz.call213 Z Z) (hon _ _ (hE)) ?_;rintro _ w2 ⟨rfl,E1⟩;refine Ya Z<|Vp<|Vy ?_;exact ⟨rfl,E1⟩
 have hcon : ∀ (w1:World) (u:Value) (b3:Nat),Ext w w1→Blk w1 b3 [.slice pa p.length pc]→Ints w1 u (ints (rf p i))→Dz 146 [u,.func (.func 212) [].toArray [.pointer (some ⟨b3,0,none⟩)].toArray] w1 (Ret w1 (.bool (cback p i))):=by
  intro w1 u b3 E0 B3 hu
  have:=Sg w1 u _ hu 212 [.pointer (some ⟨b3,0,none⟩)] (fun x=>onl p x.toNat) Tryz.call212 (fun x w' hx e=>by
   simp only [ints,List.mem_map] at hx
   obtain ⟨j,hj,rfl⟩:=hx
   exact hcl w' b3 j (E0.K e) (B3.J e) (((Sd hp hi).1 hj).lt hp hi))
  rw [ints_any] at this
  exact this
 refine Yr Tryz.func187 Z Tryz.results187 Tryz.ntmps187 Z ?_
 focus
  refine Vr<|Xu Z Z Z ?_;rintro b1 w1 H1 E1 B1;refine Ya Z<|Vp<|Vt<|Ym<|Rg Ju B1 Z<|Vz Z<|Vs Z (Xa (a:=.slice _ _ _) (b:=.int _ _) Tryz.call210 Z Z) (hrf _ _ (Ku E1 h)) ?_;rintro u1 w2 ⟨E2,O1⟩;refine Wo Z (Rt Z Z)<|Vs Z (Xa (a:=u1) (b:=.func _ _ _) Vc Z Z) (hcon _ _ _ exq (B1.J E2) (Kv O1)) ?_;rintro _ w3 ⟨rfl,E3⟩;refine Ya Z<|Vp<|Vy ?_;exact ⟨rfl,exq⟩
theorem Nb (w:World) (v:Value) (p:List (List Int)) (h:ESl Ints w v p) (hp:Pic p) (i:Nat) (hi:i < p.length):Dz 117 [v,.int .i64 (i:Int)] w (Ret w (.bool (cback p i))):=by
 have hle:=h.le
 have I5:=hp.2.1
 have hrf : ∀ (w2:World) (pv:Value) (x:Int),ESl Ints w2 pv p→0≤x∧x < p.length→Dz 161 [pv,.int .i64 x] w2 (RetO w2 XI (ints (rf p x.toNat))):=fun w2 pv x h2 hx=>by
  have:=Tk w2 pv p x h2
  rw [show rfV p x=rf p x.toNat from if_pos ⟨hp,hx⟩] at this
  exact this
 have hlen:=fun x=>Ul (rf p x)
 have hle5:=fun x=>Lq (p:=p) (i:=x)
 refine Yr Tryz.func117 Z Tryz.results117 Tryz.ntmps117 Z ?_
 focus
  refine Vr<|Ya Z<|Vp<|Vr<|Yj v Z<|Vz Z<|Vs Z (Xa (a:=v) (b:=.int _ _) Tryz.call161 Z Z) (hrf _ _ _ (h) Kh) ?_;rintro u1 w1 ⟨E1,O1⟩;refine Uc u1 Z<|Vp<|Vt<|Vr<|Yx Z<|Vp<|Yb ?_
 change Owned _ XI w1 u1 (ints (rf p i)) at O1
 refine Xt [4,6,7,8,9,13,14,15,16,17,18,19,20,21,22,23,24,25,26,27,28,29,30,31,32,33,34,35,36,37,38,39,40,41,42,43,44,45,46,47,48,49,50,51,52,53] (fun (k:Nat)=>[(6,.int .i64 (k:Nat))]) (fun k w'=>Ext w1 w'∧k≤(rf p i).length∧((rf p i).take k).any (onl p)=false) (fun x=>(rf p i).length - x) 0 Kn ?_ ?_
 ·exact ⟨Jf _,Ja _,Kp⟩
 rintro k ρj w2 ⟨E2,hk,hg⟩
 have hli:=hlen i
 have hli5:=hle5 i
 by_cases hkl:k < (rf p i).length
 ·have hum:=List.getElem_mem hkl
  have hgu:=Qh hkl
  have hts:=Ua _ _ hkl
  generalize (rf p i)[k]=u at hum hgu hts
  have hul:=((Sd hp hi).1 hum).lt hp hi
  have hut:((ints (rf p i))[k]'Kh).toNat=u:=Kh
  have hrow':=hp.row (show ((ints (rf p i))[k]'Kh).toNat < p.length by omega)
  have hrow:=hp.row hul
  have hge : ∀ j (hj:j < p[((ints (rf p i))[k]'Kh).toNat].length),(p[((ints (rf p i))[k]'Kh).toNat])[j]=(p[u]).getD j 0:=fun j hj=>by
   simp only [hut]
   rw [Xl Kh]
  have hya:onl p u=(List.range p.length).any fun j=>decide (p[u].getD j 0=1) && (rf p j).contains u:=arr_any hp hul _
  focus
   refine Vt<|Vr<|Vz Z<|Yj u1 Z<|Ys Jl Z (Kv O1)<|Yy Z<|Vp<|Vu Z (fun h1=>?_) (fun h1=>?_);refine Vw<|Vt<|Yb<|Vr<|Yx Z<|Vp<|Yb ?_;rotate_left;exact Kt
  refine Xt [4,7,8,9,19,20,21,22,23,24,25,26,27,28,29,30,31,32,33,34,35,36,37,38,39,40,41,42,43,44,45,46,47,48,49,50,51,52,53] (fun (j:Nat)=>[(7,.int .i64 (j:Nat))]) (fun j w'=>Ext w2 w'∧j≤p.length∧((List.range j).any fun j=>decide (p[u].getD j 0=1) && (rf p j).contains u)=false) (fun x=>p.length - x) 0 Kn ?_ ?_
  ·exact ⟨Jf _,Ja _,Kp⟩
  rintro j ρk w3 ⟨E3,hj,hgj⟩
  by_cases hjl:j < p.length
  ·have hgj1:=hge j Kh
   have hsu:=Mp (fun j=>decide (p[u].getD j 0=1) && (rf p j).contains u) j
   rw [hgj,Bool.false_or] at hsu
   have hlj:=hlen j
   have hlj5:=hle5 j
   focus
    refine Vt<|Vr<|Vz Z<|Yj v Z<|Ys Jm Z h<|Yy Z<|Vp<|Vu Z (fun h2=>?_) (fun h2=>?_);refine Vw<|Vt<|Yb<|Vt<|Vr<|Yj v Z<|Yj u1 Z<|Vz Z<|Xv Jl Ji Jk Z (fun _=>Z) Z (Kv O1) exq Z Km ?_;rintro _ _ rfl;refine Ry Jm Jw Jz Z (fun _=>Z) Z h exq Z Km ?_;rintro _ u2 C1;refine Vz Z<|Xv Jl Ji Jk Z (fun _=>Z) Z C1 exq Z Km ?_;rintro _ _ rfl;refine Qg Z<|Vp<|Xn Z (fun h3=>?_) (fun h3=>?_);refine Xm ?_;refine Yn ?_;refine Ym<|Vz Z<|Xf Z<|Yx Z<|Vp ?_
    rotate_left;refine Vw<|Vr<|Yj v Z<|Vz Z<|Vs Z (Xa (a:=v) (b:=.int _ _) Tryz.call161 Z Z) (hrf _ _ _ (Ku exq h) Kh) ?_;rintro u3 w4 ⟨E4,O2⟩;refine Uc u3 Z<|Vp<|Vr<|Yx Z<|Vp<|Yb ?_;rotate_left;exact Kt
   ·have hb : ¬p[u].getD j 0=1:=by rw [← hgj1];assumption
    refine ⟨(j+1),Kn,Ko,?_,?_⟩
    ·refine ⟨E3,Kh,?_⟩
     rw [hsu,decide_eq_false hb];rfl
    ·omega
   ·have hb:p[u].getD j 0=1:=by rw [← hgj1];assumption
    change Owned _ XI w4 u3 (ints (rf p j)) at O2
    refine Xt [4,9,39,40,41,42,43,44,45,46,47,48,49,50,51,52,53] (fun (m:Nat)=>[(9,.int .i64 (m:Nat))]) (fun m w'=>Ext w4 w'∧m≤(rf p j).length∧u ∉ (rf p j).take m) (fun x=>(rf p j).length - x) 0 Kn ?_ ?_
    ·exact ⟨Jf _,Ja _,Kp⟩
    rintro m ρm w5 ⟨E5,hm,hgm⟩
    by_cases hml:m < (rf p j).length
    ·have hgj2:=Qh hml
     have htm:=Ua _ _ hml
     have hmm:=List.getElem_mem hml
     focus
      have:=E5.Z;have:=E4.Z;have:=E3.Z;have:=E2.Z;have:=E1.Z;refine Vt<|Vr<|Vz Z<|Yj u3 Z<|Ys Jl Z (Kv O2)<|Yy Z<|Vp<|Vu Z (fun h4=>?_) (fun h4=>?_);refine Vw<|Vt<|Yb<|Vt<|Qe mixed Ki Z ?_;refine Sb u3 Z<|Sv Z<|Qf Jl Ji Jk Z (fun _=>Z) Z (Kv O2) E5 Z Km ?_;rintro _ _ rfl;refine Sb u1 Z<|Sv Z<|Qf Jl Ji Jk Z (fun _=>Z) Z (Kv O1) exq Z Km ?_;rintro _ _ rfl;refine St Z<|Ux (fun w6 E6=>?_);have:=E6.Z;refine Vu Z (fun h5=>?_) (fun h5=>?_);refine Vr<|Ya Z<|Vp<|Vy ?_
      refine Yh (v:=.bool _) Z ?_;refine ⟨congrArg Value.bool ?_,exq⟩;rotate_left;refine Vw<|Ym<|Vz Z<|Xf Z<|Yx Z<|Vp ?_;rotate_left;exact Kt
     ·have e:(rf p j)[m]=u:=by omega
      rw [e] at hmm
      have ho:onl p u=true:=by
       rw [hya]
       refine List.any_eq_true.2 ⟨j,List.mem_range.2 hjl,?_⟩
       rw [hb,List.contains_iff_mem.2 hmm];rfl
      exact (List.any_eq_true.2 ⟨u,hum,ho⟩).symm
     ·have e : ¬(rf p j)[m]=u:=by omega
      refine ⟨(m+1),Kn,Ko,?_,?_⟩
      ·refine ⟨by first | exact E5 | exact E5.K E6,Kh,?_⟩
       rw [htm,List.mem_append]
       rintro (h9 | h9)
       ·exact hgm h9
       ·exact e (List.mem_singleton.1 h9).symm
      ·omega
    ·obtain rfl:m=(rf p j).length:=by omega
     rw [List.take_length] at hgm
     focus
      refine Vt<|Vr<|Vz Z<|Yj u3 Z<|Ys Jl Z (Kv O2)<|Yy Z<|Vp<|Vv Z fun h4=>?_;refine Xm ?_;refine Yn ?_;refine Ym<|Vz Z<|Xf Z<|Yx Z<|Vp ?_
     refine ⟨(j+1),Kn,Ko,?_,?_⟩
     ·refine ⟨E3.K (E4.K E5),Kh,?_⟩
      rw [hsu]
      cases hq:(rf p j).contains u with
      | true=>exact absurd (List.contains_iff_mem.1 hq) hgm
      | false=>rw [Bool.and_false]
     ·omega
  ·obtain rfl:j=p.length:=by omega
   focus
    refine Vt<|Vr<|Vz Z<|Yj v Z<|Ys Jm Z h<|Yy Z<|Vp<|Vv Z fun h2=>?_;refine Xm ?_;refine Yn ?_;refine Ym<|Vz Z<|Xf Z<|Yx Z<|Vp ?_
   refine ⟨(k+1),Kn,Ko,?_,?_⟩
   ·refine ⟨E2.K E3,Kh,?_⟩
    rw [hts,List.any_append,hg,Bool.false_or,List.any_cons,List.any_nil,Bool.or_false,hya]
    exact hgj
   ·omega
 ·obtain rfl:k=(rf p i).length:=by omega
  focus
   have:=E2.Z;have:=E1.Z;refine Vt<|Vr<|Vz Z<|Yj u1 Z<|Ys Jl Z (Kv O1)<|Yy Z<|Vp<|Vv Z fun h1=>?_;refine Xm ?_;refine Yn ?_;refine Vr<|Ya Z<|Vp<|Vy ?_;refine Yh (v:=.bool _) Z ?_;refine ⟨congrArg Value.bool ?_,exq⟩
  rw [List.take_length] at hg
  exact hg.symm
noncomputable def faV (p:List (List Int)):List Nat:=if Pic p then (List.range p.length).filter (fun k=>!(cback p k)) else []
theorem spec_FoundedAll_ok (w:World) (v:Value) (p:List (List Int)) (h:ESl Ints w v p):Dz 69 [v] w (RetO w XI (ints (faV p))):=by
 have hle:=h.le
 refine Yr Tryz.func69 Z Tryz.results69 Tryz.ntmps69 Z ?_
 by_cases hp:Pic p
 ·have hpic : ∀ (w:World) (pv:Value),ESl Ints w pv p→Dz 115 [pv] w (Ret w (.bool true)):=fun w pv h=>by
   have:=Ql w pv p h
   rw [decide_eq_true hp] at this;exact this
  have I5:=hp.2.1
  have hV:faV p=(List.range p.length).filter (fun k=>!(cback p k)):=if_pos hp
  rw [hV]
  focus
   refine Vr<|Uj Z<|Vp<|Vr<|Un XInt Z Rl Ji ?_;rintro b1 w1 H1 b1lt E1 O1;refine Uj Z<|Vp<|Vt<|Vr<|Yx Z<|Vp<|Yb ?_
  refine Xt [3,4,6,7,8,9,10,11,12,13,14,15,16,17,18,19,20,21,22,23] (fun (k,u)=>[(4,.int .i64 (k:Nat)),(3,u)]) (fun (k,u) w'=>Ext w w'∧k≤p.length∧Owned w.heap.size XI w' u (ints ((List.range k).filter (fun k=>!(cback p k))))) (fun x=>p.length - x.1) (0,.slice (some ⟨b1,0,none⟩) 0 0) Kn ?_ ?_
  ·exact ⟨Kk,Ja _,by simpa [ints] using O1⟩
  rintro ⟨k,u⟩ ρj w2 ⟨E2,hk,O2⟩
  have hfs:=Qb (fun k=>!(cback p k)) k
  have hll:(ints ((List.range k).filter (fun k=>!(cback p k)))).length≤k:=by
   rw [Ul];exact Jd (List.length_filter_le _ _) Kp
  by_cases hlt:k < p.length
  ·have hcb : ∀ (w:World) (pv:Value),ESl Ints w pv p→Dz 117 [pv,.int .i64 (k:Int)] w (Ret w (.bool (cback p k))):=fun w pv h=>Nb w pv p h hp k hlt
   focus
    have:=E2.Z;refine Vt<|Vr<|Vz Z<|Yj v Z<|Ys Jm Z h<|Yy Z<|Xi Z (fun h1=>?_) (fun h1=>?_);refine Yj v Z<|Vs Z (Xh (a:=v) Gu Z) (hpic _ _ (Ku E2 h)) ?_;rintro _ w3 ⟨rfl,E3⟩;have:=E3.Z;refine Xy Z<|Vp<|Xe Z ?_;refine Vw<|Vt<|Yb<|Vr<|Yj v Z<|Vz Z<|Vs Z (Xa (a:=v) (b:=.int _ _) Tryz.call117 Z Z) (hcb _ _ (Ku exq h)) ?_;rintro _ w4 ⟨rfl,E4⟩;have:=E4.Z;refine Xz Z<|Vp<|Up Z (fun h2=>?_) (fun h2=>?_);refine Ym<|Yj u Z<|Vz Z<|Xg (ps:=[(0,.int _ _)]) (cs:=[_]) Z Jl Ji Gf Z Z Z Z ?_;rintro b2 w5 H2 E5 B1 Y2;have:=E5.Z
    refine Ur Z Rl Z Z B1 (O2.toB.J ((E3.K E4).K E5)) Owned.int (Kz _) Km Kh Kh (((E2.K E3).K E4).K E5) Kh ?_;rintro v1 w6 O2 E6 M1;refine Uc v1 Z<|Vp<|Ym<|Vz Z<|Xf Z<|Yx Z<|Vp ?_;rotate_left;refine Vw<|Ym<|Vz Z<|Xf Z<|Yx Z<|Vp ?_;rotate_left;exact Kt
   ·have hc:(!(cback p k))=true:=by assumption
    refine ⟨(k+1,v1),Kn,Ko,?_,?_⟩
    ·refine ⟨Kk,Kh,?_⟩
     rw [hfs,if_pos hc,ints_append]
     assumption
    ·simp only;omega
   ·have hc:(!(cback p k))=false:=by assumption
    refine ⟨(k+1,u),Kn,Ko,?_,?_⟩
    ·refine ⟨E2.K (E3.K E4),Kh,?_⟩
     rw [hfs,if_neg (by rw [hc];exact Bool.false_ne_true),List.append_nil]
     exact O2.J (E3.K E4)
    ·simp only;omega
  ·obtain rfl:k=p.length:=by omega
   focus
    refine Vt<|Vr<|Vz Z<|Yj v Z<|Ys Jm Z h<|Yy Z<|Qw Z fun h1=>?_;refine Vq Z<|Vq Z<|Xb Z<|Vp<|Vx Z ?_;refine Xm ?_;refine Yn ?_;refine Vr<|Yj u Z<|Uc u Z<|Vp<|Vy ?_;exact ⟨E2,O2.toB.o.mono Kh⟩
 ·have hpic : ∀ (w:World) (pv:Value),ESl Ints w pv p→Dz 115 [pv] w (Ret w (.bool false)):=fun w pv h=>by
   have:=Ql w pv p h
   rw [decide_eq_false hp] at this;exact this
  have hV:faV p=[]:=if_neg hp
  rw [hV,show ints []=([]:List Int) from rfl]
  focus
   refine Vr<|Uj Z<|Vp<|Vr<|Un XInt Z Rl Ji ?_;rintro b1 w1 H1 b1lt E1 O1;refine Uj Z<|Vp<|Vt<|Vr<|Yx Z<|Vp<|Yb ?_
  refine Xt [3,4,6,7,8,9,10,11,12,13,14,15,16,17,18,19,20,21,22,23] (fun (k:Nat)=>[(4,.int .i64 (k:Nat)),(3,.slice (some ⟨b1,0,none⟩) 0 0)]) (fun k w'=>Ext w w'∧k=0∧Owned w.heap.size XI w' (.slice (some ⟨b1,0,none⟩) 0 0) []) (fun x=>0) 0 Kn ?_ ?_
  ·exact ⟨Kk,rfl,O1⟩
  rintro k ρj w2 ⟨E2,rfl,O2⟩
  focus
   refine Vt<|Vr<|Vz Z<|Yj v Z<|Ys Jm Z h<|Yy Z<|Xi Z (fun h1=>?_) (fun h1=>?_);refine Yj v Z<|Vs Z (Xh (a:=v) Gu Z) (hpic _ _ (Ku E2 h)) ?_;rintro _ w3 ⟨rfl,E3⟩;refine Xy Z<|Vp<|Vx Z ?_;refine Xm ?_;refine Yn ?_;refine Vr<|Ri Z<|Uj Z<|Vp<|Vy ?_;exact ⟨exq,(O2.toB.J E3).o.mono Kh⟩;refine Vq Z<|Vq Z<|Xb Z<|Vp<|Vx Z ?_;refine Xm ?_;refine Yn ?_;refine Vr<|Ri Z<|Uj Z<|Vp<|Vy ?_;exact ⟨E2,O2.toB.o.mono Kh⟩
theorem foundedAll_ok (w:World) (v:Value) (p:List (List Int)) (h:ESl Ints w v p) (hp:Pic p):Dz 158 [v] w (RetO w XI (ints (faV p))):=by
 have hle:=h.le
 have I5:=hp.2.1
 have hV:faV p=(List.range p.length).filter (fun k=>!(cback p k)):=if_pos hp
 rw [hV]
 refine Yr Tryz.func158 Z Tryz.results158 Tryz.ntmps158 Z ?_
 focus
  refine Vr<|Uj Z<|Vp<|Vr<|Un XInt Z Rl Ji ?_;rintro b1 w1 H1 b1lt E1 O1;refine Uj Z<|Vp<|Vt<|Vr<|Yj v Z<|Ys Jm Z h<|Vz Z<|Vp<|Yb ?_
 refine Xt [3,4,8,9,10,11,12,13,14,15,16,17,18,19] (fun (k,u)=>[(8,.int .i64 (k:Nat)),(3,u)]) (fun (k,u) w'=>Ext w w'∧k≤p.length∧Owned w.heap.size XI w' u (ints ((List.range k).filter (fun k=>!(cback p k))))) (fun x=>p.length - x.1) (0,.slice (some ⟨b1,0,none⟩) 0 0) Kn ?_ ?_
 ·exact ⟨Kk,Ja _,by simpa [ints] using O1⟩
 rintro ⟨k,u⟩ ρj w2 ⟨E2,hk,O2⟩
 have hfs:=Qb (fun k=>!(cback p k)) k
 have hll:(ints ((List.range k).filter (fun k=>!(cback p k)))).length≤k:=by
  rw [Ul];exact Jd (List.length_filter_le _ _) Kp
 by_cases hlt:k < p.length
 ·have hcb : ∀ (w:World) (pv:Value),ESl Ints w pv p→Dz 187 [pv,.int .i64 (k:Int)] w (Ret w (.bool (cback p k))):=fun w pv h=>Mc w pv p h hp k hlt
  focus
   have:=E2.Z;refine Vr<|Yy Z<|Vp<|Vt<|Vu Z (fun h1=>?_) (fun h1=>?_);refine Vw<|Vt<|Yb<|Vr<|Vz Z<|Yx Z<|Vp<|Vt<|Ym<|Yj v Z<|Vz Z<|Vs Z (Xa (a:=v) (b:=.int _ _) Vk Z Z) (hcb _ _ (Ku E2 h)) ?_;rintro _ w3 ⟨rfl,E3⟩;have:=E3.Z;refine Xz Z<|Vp<|Up Z (fun h2=>?_) (fun h2=>?_);refine Ym<|Yj u Z<|Vz Z<|Xg (ps:=[(0,.int _ _)]) (cs:=[_]) Z Jl Ji Gf Z Z Z Z ?_;rintro b2 w4 H2 E4 B1 Y2;have:=E4.Z;refine Ur Z Rl Z Z B1 (O2.toB.J (E3.K E4)) Owned.int (Kz _) Km Kh Kh ((E2.K E3).K E4) Kh ?_;rintro v1 w5 O2 E5 M1
   refine Uc v1 Z<|Vp<|Ym<|Xf Z<|Vz Z<|Vp ?_;rotate_left;refine Vw<|Ym<|Xf Z<|Vz Z<|Vp ?_;rotate_left;exact Kt
  ·have hc:(!(cback p k))=true:=by assumption
   refine ⟨(k+1,v1),Kn,Ko,?_,?_⟩
   ·refine ⟨Kk,Kh,?_⟩
    rw [hfs,if_pos hc,ints_append]
    assumption
   ·simp only;omega
  ·have hc:(!(cback p k))=false:=by assumption
   refine ⟨(k+1,u),Kn,Ko,?_,?_⟩
   ·refine ⟨E2.K E3,Kh,?_⟩
    rw [hfs,if_neg (by rw [hc];exact Bool.false_ne_true),List.append_nil]
    exact O2.J E3
   ·simp only;omega
 ·obtain rfl:k=p.length:=by omega
  focus
   refine Vr<|Yy Z<|Vp<|Vt<|Vv Z fun h1=>?_;refine Xm ?_;refine Yn ?_;refine Vr<|Yj u Z<|Uc u Z<|Vp<|Vy ?_;exact ⟨E2,O2.toB.o.mono Kh⟩
end Go.Proofs.YtbgpppaljpngmaaGreatDoor
set_option linter.unusedVariables false
namespace Go.Hs
variable {p:List (List Int)} {l L:List Nat} {a j:Nat}
structure Mny (p:List (List Int)) (l L:List Nat):Prop where
 nd:L.Nodup
 mem : ∀ x,x ∈ L↔∃ k ∈ l,knd p k=x
theorem Mny.zero:Mny p [] []:=⟨Kp,fun x=>Kp⟩
theorem Mny.skip (h:Mny p l L) (hj:knd p j ∈ L):Mny p (l++[j]) L:=⟨h.nd,fun x=>by
 rw [h.mem]
 constructor
 ·rintro ⟨k,hk,e⟩;exact ⟨k,Jh _ hk,e⟩
 ·rintro ⟨k,hk,rfl⟩
  rcases List.mem_append.1 hk with hk | hk
  ·exact ⟨k,hk,rfl⟩
  ·rw [List.mem_singleton.1 hk];exact (h.mem _).1 hj⟩
theorem Mny.step (h:Mny p l L) (hj:knd p j ∉ L):Mny p (l++[j]) (L++[knd p j]):=⟨by
  rw [List.nodup_append]
  exact ⟨h.nd,Kp,fun x hx y hy=>by rw [List.mem_singleton.1 hy];rintro rfl;exact hj hx⟩,fun x=>by
 rw [List.mem_append,h.mem]
 constructor
 ·rintro (⟨k,hk,e⟩ | hx)
  ·exact ⟨k,Jh _ hk,e⟩
  ·exact ⟨j,Kp,(List.mem_singleton.1 hx).symm⟩
 ·rintro ⟨k,hk,rfl⟩
  rcases List.mem_append.1 hk with hk | hk
  ·exact .inl ⟨k,hk,rfl⟩
  ·rw [List.mem_singleton.1 hk];exact .inr Kp⟩
theorem Mny.many (hp:Gr p) (ha:a < p.length) (h:Mny p (arr p a) L):L.length=manyV p a:=by
 have e:((List.range p.length).filter fun x=>decide (∃ k ∈ arr p a,knd p k=x)).Perm L:=by
  refine (List.perm_ext_iff_of_nodup (pw_nodup (Ta _ _)) h.nd).2 fun x=>?_
  simp only [List.mem_filter,List.mem_range,decide_eq_true_eq,h.mem]
  constructor
  ·rintro ⟨_,hx⟩;exact hx
  ·rintro ⟨k,hk,rfl⟩
   exact ⟨Ln (Qm hp ha hk),k,hk,rfl⟩
 unfold manyV
 rw [e.length_eq]
end Go.Hs
namespace Go.Proofs.YtbgpppaljpngmaaGreatDoor
open Go.Hs
set_option maxRecDepth 10000
set_option maxHeartbeats 4000000
set_option linter.unusedVariables false
set_option linter.unusedSimpArgs false
theorem impl_PairOf_ok (w:World) (v u:Value) (p q:List (List Int)) (h:ESl Ints w v p) (h':ESl Ints w u q) (a b:Nat) (ha:Nod p a) (hb:Nod q b):Dz 172 [v,.int .i64 (a:Int),u,.int .i64 (b:Int)] w (RetOB w XR (og (pairV p a q b)) (pairV p a q b).isSome):=by
 have la:a < p.length:=by have:=ha.2;omega
 have lb:b < q.length:=by have:=hb.2;omega
 have hle:=h.le
 have hle':=h'.le
 have hG:=ha.1.bes5 hb.1
 have hbl:=bes_len (p:=p) (q:=q)
 have n1 : ∀ (w:World) (v:Value),ESl Ints w v p→Dz 94 [v,.int .i64 (a:Int)] w (Ret w (.bool true)):=fun w v h=>by
  have:=Sj w v p h (a:Int);rwa [decide_eq_true ha] at this
 have n2 : ∀ (w:World) (v:Value),ESl Ints w v q→Dz 94 [v,.int .i64 (b:Int)] w (Ret w (.bool true)):=fun w v h=>by
  have:=Sj w v q h (b:Int);rwa [decide_eq_true hb] at this
 have k1 : ∀ (w:World) (v u:Value),ESl Ints w v p→ESl Ints w u q→Dz 180 [v,u] w (RetO w XR (bes p q)):=fun w v u h h'=>beside_ok w v u p q h h' ha.1 hb.1
 have k2 : ∀ (w:World) (v u:Value),ESl Ints w v (bes p q)→Ints w u [(a:Int),(p.length:Int)+(b:Int)]→Dz 199 [v,u] w (RetOB w XR (og (pairV p a q b)) (pairV p a q b).isSome):=fun w v u h1 h2 =>
  Mm w v u (bes p q) [a,p.length+b] h1 h2 hG.1 hG.2 (fun x hx=>by
   rw [hbl]
   rcases List.mem_cons.1 hx with rfl | hx
   ·omega
   ·rw [List.mem_singleton.1 hx];omega) Kp
 refine Uy Tryz.func172 Z Tryz.results172 Tryz.ntmps172 Z ?_
 focus
  refine Vr<|Uj Z<|Ya Z<|Vp<|Vt<|Vr<|Yj v Z<|Vz Z<|Vs Z (Xa (a:=v) (b:=.int _ _) Zf Z Z) (n1 _ _ (h)) ?_;rintro _ w1 ⟨rfl,E1⟩;have:=E1.Z;refine Xz Z<|Uf Z (Xj (v:=.bool _) Z) (fun h1=>?_) (fun h1=>?_);exact Ks;refine Yj u Z<|Vz Z<|Vs Z (Xa (a:=u) (b:=.int _ _) Zf Z Z) (n2 _ _ (Ku E1 h')) ?_;rintro _ w2 ⟨rfl,E2⟩;have:=E2.Z;refine Xz Z<|Xb Z<|Vp<|Uk Z fun h2=>?_;refine Vw<|Vr<|Yj v Z<|Yj u Z<|Vs Z (Xa (a:=v) (b:=u) Tryz.call180 Z Z) (k1 _ _ _ (Ku exq h) (Ku exq h')) ?_;rintro u1 w3 ⟨E3,O1⟩;have:=E3.Z
  refine Uc u1 Z<|Vp<|Vr<|Yj u1 Z<|Vz Z<|Yj v Z<|Ys Jm Z h<|Vz Z<|Xf Z<|Xg (ps:=[(0,.int _ _),(1,.int _ _)]) (cs:=[_,_]) Z Jl Ji Gf Z Z Z Z ?_;rintro b1 w4 H1 E4 B1 Y1;have hLb1:=own_lit2 Y1 H1;clear Y1;have:=E4.Z;refine Vs Z (Xa (a:=u1) (b:=.slice _ _ _) Tryz.call199 Z Z) (k2 _ _ _ ((Ku E4 (Kv O1))) (Kv hLb1)) ?_;rintro _ w5 ⟨u2,rfl,E5,O2⟩;refine Ra u2 Z<|Uz Z<|Uc u2 Z<|Ya Z<|Vp<|Vy ?_;refine Yh (v:=.tuple #[u2,.bool _]) Z ?_;exact ⟨_,rfl,exq,O2.toB.o.mono Kh⟩
theorem impl_TogetherOf_ok (w:World) (v u:Value) (p q:List (List Int)) (h:ESl Ints w v p) (h':ESl Ints w u q) (a b:Nat) (ha:Nod p a) (hb:Nod q b):Dz 173 [v,.int .i64 (a:Int),u,.int .i64 (b:Int)] w (RetOB w XR (og (togV p a q b)) (togV p a q b).isSome):=by
 have la:a < p.length:=by have:=ha.2;omega
 have lb:b < q.length:=by have:=hb.2;omega
 have hle:=h.le
 have hG:=ha.1.bes5 hb.1
 have hbl:=bes_len (p:=p) (q:=q)
 have n1 : ∀ (w:World) (v:Value),ESl Ints w v p→Dz 94 [v,.int .i64 (a:Int)] w (Ret w (.bool true)):=fun w v h=>by
  have:=Sj w v p h (a:Int);rwa [decide_eq_true ha] at this
 have n2 : ∀ (w:World) (v:Value),ESl Ints w v q→Dz 94 [v,.int .i64 (b:Int)] w (Ret w (.bool true)):=fun w v h=>by
  have:=Sj w v q h (b:Int);rwa [decide_eq_true hb] at this
 have k1 : ∀ (w:World) (v u:Value),ESl Ints w v p→ESl Ints w u q→Dz 180 [v,u] w (RetO w XR (bes p q)):=fun w v u h h'=>beside_ok w v u p q h h' ha.1 hb.1
 have c1 : ∀ (w:World) (v:Value),ESl Ints w v (bes p q)→Dz 130 [v,.int .i64 (a:Int)] w (RetO w XI (ints (arr (bes p q) a))):=fun w v h=>Rf w v (bes p q) h (a:Int) ⟨Kh,Kh⟩ (by rw [Xl Kh,hG.1.row Kh];omega)
 have c2 : ∀ (w:World) (v:Value),ESl Ints w v (bes p q)→Dz 130 [v,.int .i64 ((p.length:Int)+(b:Int))] w (RetO w XI (ints (arr (bes p q) (p.length+b)))):=fun w v h=>by
  have:=Rf w v (bes p q) h ((p.length:Int)+(b:Int)) ⟨Kh,Kh⟩ (by rw [Xl Kh,hG.1.row Kh];omega)
  rwa [show ((p.length:Int)+(b:Int)).toNat=p.length+b by omega] at this
 have l1:=Lm hG.1 (a:=a) Kh
 have l2:=Lm hG.1 (a:=p.length+b) Kh
 have i1:=Ul (arr (bes p q) a)
 have i2:=Ul (arr (bes p q) (p.length+b))
 have hapi:ints (arr (bes p q) a)++ints (arr (bes p q) (p.length+b))=ints (arr (bes p q) a++arr (bes p q) (p.length+b)):=by simp [ints]
 have k2 : ∀ (w:World) (v u:Value),ESl Ints w v (bes p q)→Ints w u (ints (arr (bes p q) a)++ints (arr (bes p q) (p.length+b)))→Dz 199 [v,u] w (RetOB w XR (og (togV p a q b)) (togV p a q b).isSome):=fun w v u h1 h2 =>
  Mm w v u (bes p q) (arr (bes p q) a++arr (bes p q) (p.length+b)) h1 (by rw [← hapi];exact h2) hG.1 hG.2 (fun x hx=>by
   rcases List.mem_append.1 hx with hx | hx
   ·exact Qm hG.1 Kh hx
   ·exact Qm hG.1 Kh hx) (by rw [List.length_append];have:=hG.2;omega)
 refine Uy Tryz.func173 Z Tryz.results173 Tryz.ntmps173 Z ?_
 focus
  refine Vr<|Uj Z<|Ya Z<|Vp<|Vt<|Vr<|Yj v Z<|Vz Z<|Vs Z (Xa (a:=v) (b:=.int _ _) Zf Z Z) (n1 _ _ (h)) ?_;rintro _ w1 ⟨rfl,E1⟩;have:=E1.Z;refine Xz Z<|Uf Z (Xj (v:=.bool _) Z) (fun h1=>?_) (fun h1=>?_);exact Ks;refine Yj u Z<|Vz Z<|Vs Z (Xa (a:=u) (b:=.int _ _) Zf Z Z) (n2 _ _ (Ku E1 h')) ?_;rintro _ w2 ⟨rfl,E2⟩;have:=E2.Z;refine Xz Z<|Xb Z<|Vp<|Uk Z fun h2=>?_;refine Vw<|Vr<|Yj v Z<|Yj u Z<|Vs Z (Xa (a:=v) (b:=u) Tryz.call180 Z Z) (k1 _ _ _ (Ku exq h) (Ku exq h')) ?_;rintro u1 w3 ⟨E3,O1⟩;have:=E3.Z
  refine Uc u1 Z<|Vp<|Vr<|Yj u1 Z<|Yj u1 Z<|Vz Z<|Vs Z (Xa (a:=u1) (b:=.int _ _) Gy Z Z) (c1 _ _ (Kv O1)) ?_;rintro u2 w4 ⟨E4,O2⟩;have:=E4.Z;refine Yj u1 Z<|Yj v Z<|Ys Jm Z h<|Vz Z<|Xf Z<|Vs Z (Xa (a:=u1) (b:=.int _ _) Gy Z Z) (c2 _ _ ((Ku E4 (Kv O1)))) ?_;rintro u3 w5 ⟨E5,O3⟩;have:=E5.Z;refine Wo_appS Z Rl Z Z (Kv O3) (O2.toB.J E5) Km Kh Kh ((((E1.K E2).K E3).K E4).K E5) Kh ?_;have T1:=(O2.toB.J E5);rintro v1 w6 O2 E6 M1;have O1:=(O1.toB.J exq).moves M1 T1 Kh;have:=E6.Z;refine Vs Z (Xa (a:=u1) (b:=v1) Tryz.call199 Z Z) (k2 _ _ _ (Kw O1) (Kv O2)) ?_
  rintro _ w7 ⟨u4,rfl,E10,O4⟩;refine Ra u4 Z<|Uz Z<|Uc u4 Z<|Ya Z<|Vp<|Vy ?_;refine Yh (v:=.tuple #[u4,.bool _]) Z ?_;exact ⟨_,rfl,exq,O4.toB.o.mono Kh⟩
open Classical in
theorem hasSet1_ok (w:World) (v u:Value) (p q:List (List Int)) (h:ESl Ints w v p) (h':ESl Ints w u q) (hp:Pic p) (hq:Pic q) (x b:Nat) (hx:x < p.length) (hb:b < q.length) (b1 b2 b3:Nat) (B1:Blk w b1 [v]) (B2:Blk w b2 [u]) (B3:Blk w b3 [.int .i64 (b:Int)]) :
  Dz 147 [.int .i64 (x:Int),.pointer (some ⟨b1,0,none⟩),.pointer (some ⟨b2,0,none⟩),.pointer (some ⟨b3,0,none⟩)] w (Ret w (.bool (decide (Bis p x q b)))):=by
 have k1 : ∀ (w:World) (v u:Value),ESl Ints w v p→ESl Ints w u q→Dz 148 [v,.int .i64 (x:Int),u,.int .i64 (b:Int)] w (Ret w (.bool (decide (Bis p x q b)))):=fun w v u h h'=>by
  have:=sameSet_ok w v u p q h h' hp hq (x:Int) (b:Int) ⟨Kh,Kh⟩ ⟨Kh,Kh⟩
  simpa only [Int.toNat_natCast] using this
 obtain ⟨pa,pc,rfl,_⟩:=id h
 obtain ⟨qa,qc,rfl,_⟩:=id h'
 refine Yr Tryz.func147 Z Tryz.results147 Tryz.ntmps147 Z ?_
 focus
  refine Vr<|Ya Z<|Vp<|Vr<|Rg Ju B1 Z<|Vz Z<|Rg Ju B2 Z<|Xx Jk B3 Z<|Vs Z (Ss (a:=.slice _ _ _) (b:=.int _ _) (c:=.slice _ _ _) (d:=.int _ _) Tryz.call148 Z Z Z Z) (k1 _ _ _ (h) (h')) ?_;rintro _ w1 ⟨rfl,E1⟩;refine Ya Z<|Vp<|Vy ?_;exact ⟨rfl,E1⟩
open Classical in
theorem hasSet_ok (w:World) (v u:Value) (p q:List (List Int)) (h:ESl Ints w v p) (h':ESl Ints w u q) (hp:Pic p) (hq:Pic q) (a b:Nat) (ha:a < p.length) (hb:b < q.length):Dz 96 [v,.int .i64 (a:Int),u,.int .i64 (b:Int)] w (Ret w (.bool (hasV p a q b))):=by
 obtain ⟨pa,pc,rfl,_⟩:=id h
 obtain ⟨qa,qc,rfl,_⟩:=id h'
 have c1 : ∀ (w:World) (v:Value),ESl Ints w v p→Dz 130 [v,.int .i64 (a:Int)] w (RetO w XI (ints (arr p a))):=fun w v h=>Rf w v p h (a:Int) ⟨Kh,Kh⟩ (by rw [Xl Kh,hp.gr.row Kh];have:=hp.2.1;omega)
 have hcon : ∀ (w1:World) (t:Value) (b1 b2 b3:Nat),Ext w w1→Blk w1 b1 [.slice pa p.length pc]→Blk w1 b2 [.slice qa q.length qc]→Blk w1 b3 [.int .i64 (b:Int)]→Ints w1 t (ints (arr p a))→Dz 146 [t,.func (.func 147) [].toArray [.pointer (some ⟨b1,0,none⟩),.pointer (some ⟨b2,0,none⟩),.pointer (some ⟨b3,0,none⟩)].toArray] w1 (Ret w1 (.bool (hasV p a q b))):=by
  intro w1 t b1 b2 b3 E0 B1 B2 B3 ht
  have:=Sg w1 t _ ht 147 [.pointer (some ⟨b1,0,none⟩),.pointer (some ⟨b2,0,none⟩),.pointer (some ⟨b3,0,none⟩)] (fun x=>decide (Bis p x.toNat q b)) Tryz.call147 (fun x w' hx e=>by
   simp only [ints,List.mem_map] at hx
   obtain ⟨j,hj,rfl⟩:=hx
   exact hasSet1_ok w' _ _ p q (Ku (E0.K e) h) (Ku (E0.K e) h') hp hq j b (Qm hp.gr ha hj) hb b1 b2 b3 (B1.J e) (B2.J e) (B3.J e))
  rw [ints_any] at this
  exact this
 refine Yr Tryz.func96 Z Tryz.results96 Tryz.ntmps96 Z ?_
 focus
  refine Vr<|Xu Z Z Z ?_;rintro b1 w1 H1 E1 B1;refine Xu Z Z Z ?_;rintro b2 w2 H2 E2 B2;refine Xu Z Z Z ?_;rintro b3 w3 H3 E3 B3;refine Ya Z<|Vp<|Vr<|Rg Ju (B1.J exq) Z<|Vz Z<|Vs Z (Xa (a:=.slice _ _ _) (b:=.int _ _) Gy Z Z) (c1 _ _ (Ku exq h)) ?_;rintro u1 w4 ⟨E4,O1⟩;refine Wo Z (Rt Z Z)<|Vs Z (Xa (a:=u1) (b:=.func _ _ _) Vc Z Z) (hcon _ _ _ _ _ exq (B1.J exq) (B2.J exq) (B3.J E4) (Kv O1)) ?_;rintro _ w5 ⟨rfl,E5⟩;refine Ya Z<|Vp<|Vy ?_;exact ⟨rfl,exq⟩
open Classical in
theorem impl_WithoutSet_ok (w:World) (v u:Value) (p q:List (List Int)) (h:ESl Ints w v p) (h':ESl Ints w u q) (a b:Nat) (ha:Nod p a) (hb:Nod q b):Dz 174 [v,.int .i64 (a:Int),u,.int .i64 (b:Int)] w (RetOB w XR (og (wosV p a q b)) (wosV p a q b).isSome):=by
 have la:a < p.length:=by have:=ha.2;omega
 have lb:b < q.length:=by have:=hb.2;omega
 have hle:=h.le
 have hp:=ha.1
 have hq:=hb.1
 obtain ⟨pa,pc,rfl,_⟩:=id h
 obtain ⟨qa,qc,rfl,_⟩:=id h'
 have n1 : ∀ (w:World) (v:Value),ESl Ints w v p→Dz 94 [v,.int .i64 (a:Int)] w (Ret w (.bool true)):=fun w v h=>by
  have:=Sj w v p h (a:Int);rwa [decide_eq_true ha] at this
 have n2 : ∀ (w:World) (v:Value),ESl Ints w v q→Dz 94 [v,.int .i64 (b:Int)] w (Ret w (.bool true)):=fun w v h=>by
  have:=Sj w v q h (b:Int);rwa [decide_eq_true hb] at this
 have c1 : ∀ (w:World) (v:Value),ESl Ints w v p→Dz 130 [v,.int .i64 (a:Int)] w (RetO w XI (ints (arr p a))):=fun w v h=>Rf w v p h (a:Int) ⟨Kh,Kh⟩ (by rw [Xl Kh,hp.gr.row Kh];have:=hp.2.1;omega)
 have hfl:(ints (arr p a)).filter (fun x=>!decide (Bis p x.toNat q b))=ints ((arr p a).filter fun v=>!decide (Bis p v q b)):=by
  unfold ints
  rw [List.filter_map];rfl
 have hdel : ∀ (w0 w1:World) (t:Value) (lo hi:Nat) (b1 b2 b3:Nat),Ext w w0→Ext w0 w1→w0.heap.size≤lo→lo≤hi→hi≤w1.heap.size→Blk w0 b1 [.slice pa p.length pc]→Blk w0 b2 [.slice qa q.length qc]→Blk w0 b3 [.int .i64 (b:Int)]→OwnedB lo hi XI w1 t (ints (arr p a))→Dz 200 [t,.func (.func 201) [].toArray [.pointer (some ⟨b1,0,none⟩),.pointer (some ⟨b2,0,none⟩),.pointer (some ⟨b3,0,none⟩)].toArray] w1 (RetS lo hi w1 (fun y:Value=>y) (fun y w'=>Ints w' y (ints ((arr p a).filter fun v=>!decide (Bis p v q b))))):=by
  intro w0 w1 t lo hi b1 b2 b3 Ew E0 hlo hlh hhi B1 B2 B3 ht
  have:=DeleteFunc_ok w1 t (ints (arr p a)) ht E0 hlo hlh hhi 201 [.pointer (some ⟨b1,0,none⟩),.pointer (some ⟨b2,0,none⟩),.pointer (some ⟨b3,0,none⟩)] (fun x=>decide (Bis p x.toNat q b)) Tryz.call201 (fun x w' hx e=>by
   simp only [ints,List.mem_map] at hx
   obtain ⟨j,hj,rfl⟩:=hx
   have hjl:=Qm hp.gr la hj
   have hp':ESl Ints w' (.slice pa p.length pc) p:=Ku (Ew.trans e) h
   have hq':ESl Ints w' (.slice qa q.length qc) q:=Ku (Ew.trans e) h'
   have B1:=B1.J e
   have B2:=B2.J e
   have B3:=B3.J e
   have k1 : ∀ (w:World) (v u:Value),ESl Ints w v p→ESl Ints w u q→Dz 148 [v,.int .i64 (j:Int),u,.int .i64 (b:Int)] w (Ret w (.bool (decide (Bis p j q b)))):=fun w v u h h'=>by
    have:=sameSet_ok w v u p q h h' hp hq (j:Int) (b:Int) ⟨Kh,Kh⟩ ⟨Kh,Kh⟩
    simpa only [Int.toNat_natCast] using this
   refine Yr Tryz.func201 Z Tryz.results201 Tryz.ntmps201 Z ?_
   focus
    refine Vr<|Ya Z<|Vp<|Vr<|Rg Ju B1 Z<|Vz Z<|Rg Ju B2 Z<|Xx Jk B3 Z<|Vs Z (Ss (a:=.slice _ _ _) (b:=.int _ _) (c:=.slice _ _ _) (d:=.int _ _) Tryz.call148 Z Z Z Z) (k1 _ _ _ (hp') (hq')) ?_
    rintro _ w2 ⟨rfl,E1⟩;refine Ya Z<|Vp<|Vy ?_;exact ⟨rfl,E1⟩)
  rw [hfl] at this
  exact this
 have k2 : ∀ (w:World) (v u:Value),ESl Ints w v p→Ints w u (ints ((arr p a).filter fun v=>!decide (Bis p v q b)))→Dz 199 [v,u] w (RetOB w XR (og (wosV p a q b)) (wosV p a q b).isSome):=fun w v u h1 h2 =>
  Mm w v u p _ h1 h2 hp.gr (by have:=hp.2.1;omega) (fun x hx=>Qm hp.gr la (List.mem_filter.1 hx).1) (Jd (List.length_filter_le _ _) (by have:=Lm hp.gr la;have:=hp.2.1;omega))
 refine Uy Tryz.func174 Z Tryz.results174 Tryz.ntmps174 Z ?_
 have stop3:True:=trivial
 focus
  refine Vr<|Xu Z Z Z ?_;rintro b1 w1 H1 E1 B1;have:=B1.lt;refine Xu Z Z Z ?_;rintro b2 w2 H2 E2 B2;have:=B2.lt;refine Xu Z Z Z ?_;rintro b3 w3 H3 E3 B3;have:=B3.lt;refine Uj Z<|Ya Z<|Vp<|Vt<|Vr<|Rg Ju (B1.J exq) Z<|Vz Z<|Vs Z (Xa (a:=.slice _ _ _) (b:=.int _ _) Zf Z Z) (n1 _ _ (Ku exq h)) ?_;rintro _ w4 ⟨rfl,E4⟩;have:=E4.Z;refine Xz Z<|Uf Z (Xj (v:=.bool _) Z) (fun h1=>?_) (fun h1=>?_);exact Ks;refine Rg Ju (B2.J exq) Z<|Xx Jk (B3.J E4) Z<|Vs Z (Xa (a:=.slice _ _ _) (b:=.int _ _) Zf Z Z) (n2 _ _ (Ku exq h')) ?_;rintro _ w5 ⟨rfl,E5⟩;have:=E5.Z;refine Xz Z<|Xb Z<|Vp<|Uk Z fun h2=>?_
  refine Vw<|Vt ?_
 clear stop3
 have hdl : ∀ (w1:World) (t:Value),Ext w5 w1→OwnedB w5.heap.size w1.heap.size XI w1 t (ints (arr p a))→Dz 200 [t,.func (.func 201) [].toArray [.pointer (some ⟨b1,0,none⟩),.pointer (some ⟨b2,0,none⟩),.pointer (some ⟨b3,0,none⟩)].toArray] w1 (RetS w5.heap.size w1.heap.size w1 (fun y:Value=>y) (fun y w'=>Ints w' y (ints ((arr p a).filter fun v=>!decide (Bis p v q b))))):=fun w1 t e ho=>hdel w5 w1 t _ _ b1 b2 b3 (by exact ((((E1.K E2).K E3).K E4).K E5)) e (Kz _) e.size (Kz _) (by exact (B1.J (((E2.K E3).K E4).K E5))) (by exact (B2.J ((E3.K E4).K E5))) (by exact (B3.J (E4.K E5))) ho
 clear hdel
 focus
  refine Ym<|Rg Ju (B1.J exq) Z<|Vz Z<|Vs Z (Xa (a:=.slice _ _ _) (b:=.int _ _) Gy Z Z) (c1 _ _ (Ku exq h)) ?_;rintro u1 w6 ⟨E6,O1⟩;refine Wo Z (Rt Z Z)<|Vs Z (Xa (a:=u1) (b:=.func _ _ _) Tryz.call200 Z Z) (hdl _ _ (E6) (O1.toB)) ?_;rintro _ w7 ⟨y1,rfl,E7,L1⟩;have B1:=(B1.J ((((E2.K E3).K E4).K E5).K E6)).span E7 Kh;have E8:=(((((E1.K E2).K E3).K E4).K E5).K E6).span E7 Kh;have E9:=(((((E2.K E3).K E4).K E5).K E6)).span E7 Kh;have:=E9.Z;refine Uc _ Z<|Vp<|Vr<|Rg Ju B1 Z<|Yj _ Z<|Vs Z (Xa (a:=.slice _ _ _) Tryz.call199 Z Z) (k2 _ _ _ (Ku E8 h) (L1)) ?_;rintro _ w8 ⟨u2,rfl,E14,O2⟩
  refine Ra u2 Z<|Uz Z<|Uc u2 Z<|Ya Z<|Vp<|Vy ?_;refine Yh (v:=.tuple #[u2,.bool _]) Z ?_;exact ⟨_,rfl,exq,O2.toB.o.mono Kh⟩
open Classical in
theorem nextSet_ok (w:World) (hM:EMx gMx w (.bool true) ()) (v:Value) (p:List (List Int)) (h:ESl Ints w v p) (hp:Pic p) (k n:Int) (t:List UInt8) (ht:t.length≤1048576) (hk1:k=1∨k=2∨t=[]) (hk2:k=3∨n=0) :
  Dz 138 [v,.agg #[.int .i64 k,str t,.int .i64 n]] w (RetOB w XR (og (madeV p ⟨k,t,n⟩)) (madeV p ⟨k,t,n⟩).isSome):=by
 have hle:=h.le
 have I1:=hp.1
 have I5:=hp.2.1
 have hN:Nod p (0:Nat):=⟨hp,Kj,Kh⟩
 obtain ⟨Q,hQ⟩ : ∃ Q,Q=(rdP t).getD []:=⟨_,rfl⟩
 obtain ⟨B,hB⟩ : ∃ B,B=(rdP t).isSome:=⟨_,rfl⟩
 obtain ⟨M,hMd⟩ : ∃ M,M=madeV p ⟨k,t,n⟩:=⟨_,rfl⟩
 rw [← hMd]
 have k0 : ∀ w,EMx gMx w (.bool true) ()→Dz 150 [str t] w (RetOB w XR Q B):=fun w hM=>hQ ▸ hB ▸ Mk w t hM ht
 refine Uy Tryz.func138 Z Tryz.results138 Tryz.ntmps138 Z ?_
 by_cases e0:k=0
 ·subst e0
  have et:t=[]:=by rcases hk1 with h | h | h;exact absurd h Kj;exact absurd h Kj;exact h
  have en:n=0:=by rcases hk2 with h | h;exact absurd h Kj;exact h
  subst et en
  have hm:M=pairV p 0 p 0:=hMd.trans (by simp [madeV])
  rw [hm]
  have k1 : ∀ (w:World) (v u:Value),ESl Ints w v p→ESl Ints w u p→Dz 172 [v,.int .i64 0,u,.int .i64 0] w (RetOB w XR (og (pairV p 0 p 0)) (pairV p 0 p 0).isSome):=fun w v u h1 h2=>impl_PairOf_ok w v u p p h1 h2 0 0 hN hN
  focus
   refine Vr<|Xu Z Z Z ?_;rintro b1 w1 H1 E1 B1;have:=E1.Z;refine Uj Z<|Ya Z<|Vp<|Vt<|Vr<|Yl Jn Ji Z<|Xx Jk B1 Z<|Vp<|Yb<|Vr<|Yo Z<|Ya Z<|Vp<|Vu Z (fun h1=>?_) (fun h1=>?_);refine Vr<|Yj v Z<|Yj v Z<|Vs Z (Ss (a:=v) (b:=.int _ _) (c:=v) (d:=.int _ _) Tryz.call172 Z Z Z Z) (k1 _ _ _ (Ku E1 h) (Ku E1 h)) ?_;rintro _ w2 ⟨u1,rfl,E2,O1⟩;refine Ra u1 Z<|Uz Z<|Uc u1 Z<|Ya Z<|Vp<|Vy ?_;refine Yh (v:=.tuple #[u1,.bool _]) Z ?_;exact ⟨_,rfl,exq,O1.toB.o.mono Kh⟩;exact Ks
 by_cases e1:k=1
 ·subst e1
  have en:n=0:=by rcases hk2 with h | h;exact absurd h Kj;exact h
  subst en
  have hm:M=(rdP t).bind fun q=>(pairV q 0 q 0).bind fun s=>togV p 0 s 0:=hMd.trans (by simp only [madeV];rw [if_neg (fun h=>absurd h.1 Kj),if_pos Kp])
  cases hr:rdP t with
  | none =>
    rw [hr] at hm hB hQ
    rw [hm, show og (none.bind fun q => (pairV q 0 q 0).bind fun s => togV p 0 s 0) = [] from rfl, show (none.bind fun q => (pairV q 0 q 0).bind fun s => togV p 0 s 0).isSome = false from rfl]
    rw [hB, show (none : Option (List (List Int))).isSome = false from rfl] at k0
    focus
      refine Vr<|Xu Z Z Z ?_; rintro b1 w1 H1 E1 B1; refine Uj Z<|Ya Z<|Vp<|Vt<|Vr<|Yl Jn Ji Z<|Xx Jk B1 Z<|Vp<|Yb<|Vr<|Yo Z<|Ya Z<|Vp<|Yt Z fun h1 => ?_; refine Vr<|Yo Z<|Ya Z<|Vp<|Yt Z fun h2 => ?_; refine Vr<|Yo Z<|Ya Z<|Vp<|Vu Z (fun h3 => ?_) (fun h3 => ?_); refine Vr<|Yl Jn Jo Z<|Qx Jp B1 Z<|Vs Z (Xh (a := .string _) Za Z) (k0 _ (Ku E1 hM)) ?_; rintro _ w2 ⟨u1, rfl, E2, O1⟩; refine Ut Z<|Ra u1 Z<|Uz Z<|Uc u1 Z<|Ya Z<|Vp<|Vt<|Vr<|Xp Z<|Xz Z<|Vp<|Up Z (fun h4 => ?_) (fun h4 => ?_)
      refine Vt<|Ym<|Uj Z<|Ya Z<|Vp<|Vy ?_; refine Yh (v := .tuple #[.slice _ _ _, .bool _]) Z ?_; exact ⟨_, rfl, exq, Owned.nil⟩; exact Ks; exact Ks
  | some q =>
    rw [hr] at hm hB hQ
    rw [hB, hQ, show (some q).isSome = true from rfl, show (some q).getD [] = q from rfl] at k0
    have hq := (Tn hr).1
    have hNq : Nod q (0 : Nat) := ⟨hq, Kj, by have := hq.1; omega⟩
    have k1 : ∀ (w : World) (v u : Value), ESl Ints w v q → ESl Ints w u q → Dz 172 [v, .int .i64 0, u, .int .i64 0] w (RetOB w XR (og (pairV q 0 q 0)) (pairV q 0 q 0).isSome) := fun w v u h1 h2 => impl_PairOf_ok w v u q q h1 h2 0 0 hNq hNq
    rw [hm, show ((some q).bind fun q => (pairV q 0 q 0).bind fun s => togV p 0 s 0) = (pairV q 0 q 0).bind fun s => togV p 0 s 0 from rfl]
    cases hs : pairV q 0 q 0 with
    | none =>
      rw [hs] at k1
      rw [show (none.bind fun s => togV p 0 s 0) = none from rfl]
      rw [show og none = [] from rfl, show (none : Option (List (List Int))).isSome = false from rfl] at k1 ⊢
      focus
        refine Vr<|Xu Z Z Z ?_; rintro b1 w1 H1 E1 B1; refine Uj Z<|Ya Z<|Vp<|Vt<|Vr<|Yl Jn Ji Z<|Xx Jk B1 Z<|Vp<|Yb<|Vr<|Yo Z<|Ya Z<|Vp<|Yt Z fun h1 => ?_; refine Vr<|Yo Z<|Ya Z<|Vp<|Yt Z fun h2 => ?_; refine Vr<|Yo Z<|Ya Z<|Vp<|Vu Z (fun h3 => ?_) (fun h3 => ?_); refine Vr<|Yl Jn Jo Z<|Qx Jp B1 Z<|Vs Z (Xh (a := .string _) Za Z) (k0 _ (Ku E1 hM)) ?_; rintro _ w2 ⟨u1, rfl, E2, O1⟩; refine Ut Z<|Ra u1 Z<|Uz Z<|Uc u1 Z<|Ya Z<|Vp<|Vt<|Vr<|Xp Z<|Xz Z<|Vp<|Uk Z fun h4 => ?_
        refine Vw<|Vr<|Yj u1 Z<|Yj u1 Z<|Vs Z (Ss (a := u1) (b := .int _ _) (c := u1) (d := .int _ _) Tryz.call172 Z Z Z Z) (k1 _ _ _ (Kv O1) (Kv O1)) ?_; rintro _ w3 ⟨u2, rfl, E3, O2⟩; refine Ut Z<|Ra u2 Z<|Uz Z<|Uc u2 Z<|Ya Z<|Vp<|Vt<|Vr<|Xp Z<|Xz Z<|Vp<|Up Z (fun h5 => ?_) (fun h5 => ?_); refine Vr<|Uj Z<|Ya Z<|Vp<|Vy ?_; refine Yh (v := .tuple #[.slice _ _ _, .bool _]) Z ?_; exact ⟨_, rfl, exq, Owned.nil⟩; exact Ks; exact Ks
    | some s =>
      rw [hs] at k1
      rw [show ((some s).bind fun s => togV p 0 s 0) = togV p 0 s 0 from rfl]
      rw [show og (some s) = s from rfl, show (some s).isSome = true from rfl] at k1
      have hsp := (Lr hq hq hs).1
      have hNs : Nod s (0 : Nat) := ⟨hsp, Kj, by have := hsp.1; omega⟩
      have k2 : ∀ (w : World) (v u : Value), ESl Ints w v p → ESl Ints w u s → Dz 173 [v, .int .i64 0, u, .int .i64 0] w (RetOB w XR (og (togV p 0 s 0)) (togV p 0 s 0).isSome) := fun w v u h1 h2 => impl_TogetherOf_ok w v u p s h1 h2 0 0 hN hNs
      focus
        refine Vr<|Xu Z Z Z ?_; rintro b1 w1 H1 E1 B1; have := B1.lt; refine Uj Z<|Ya Z<|Vp<|Vt<|Vr<|Yl Jn Ji Z<|Xx Jk B1 Z<|Vp<|Yb<|Vr<|Yo Z<|Ya Z<|Vp<|Yt Z fun h1 => ?_; refine Vr<|Yo Z<|Ya Z<|Vp<|Yt Z fun h2 => ?_; refine Vr<|Yo Z<|Ya Z<|Vp<|Vu Z (fun h3 => ?_) (fun h3 => ?_); refine Vr<|Yl Jn Jo Z<|Qx Jp B1 Z<|Vs Z (Xh (a := .string _) Za Z) (k0 _ (Ku E1 hM)) ?_; rintro _ w2 ⟨u1, rfl, E2, O1⟩; have := E2.Z; refine Ut Z<|Ra u1 Z<|Uz Z<|Uc u1 Z<|Ya Z<|Vp<|Vt<|Vr<|Xp Z<|Xz Z<|Vp<|Uk Z fun h4 => ?_
        refine Vw<|Vr<|Yj u1 Z<|Yj u1 Z<|Vs Z (Ss (a := u1) (b := .int _ _) (c := u1) (d := .int _ _) Tryz.call172 Z Z Z Z) (k1 _ _ _ (Kv O1) (Kv O1)) ?_; rintro _ w3 ⟨u2, rfl, E3, O2⟩; have := E3.Z; refine Ut Z<|Ra u2 Z<|Uz Z<|Uc u2 Z<|Ya Z<|Vp<|Vt<|Vr<|Xp Z<|Xz Z<|Vp<|Uk Z fun h5 => ?_; refine Vw<|Vr<|Yj v Z<|Yj u2 Z<|Vs Z (Ss (a := v) (b := .int _ _) (c := u2) (d := .int _ _) Tryz.call173 Z Z Z Z) (k2 _ _ _ (Ku exq h) (Kv O2)) ?_; rintro _ w4 ⟨u3, rfl, E4, O3⟩; refine Ra u3 Z<|Uz Z<|Uc u3 Z<|Ya Z<|Vp<|Vy ?_; refine Yh (v := .tuple #[u3, .bool _]) Z ?_; exact ⟨_, rfl, exq, O3.toB.o.mono Kh⟩; exact Ks
 by_cases e2:k=2
 ·subst e2
  have en:n=0:=by rcases hk2 with h | h;exact absurd h Kj;exact h
  subst en
  have hm:M=(rdP t).bind fun q=>wosV p 0 q 0:=hMd.trans (by simp only [madeV];rw [if_neg (fun h=>absurd h.1 Kj),if_neg (fun h=>absurd h.1 Kj),if_pos Kp])
  cases hr:rdP t with
  | none =>
    rw [hr] at hm hB hQ
    rw [hm, show og (none.bind fun q => wosV p 0 q 0) = [] from rfl, show (none.bind fun q => wosV p 0 q 0).isSome = false from rfl]
    rw [hB, show (none : Option (List (List Int))).isSome = false from rfl] at k0
    focus
      refine Vr<|Xu Z Z Z ?_; rintro b1 w1 H1 E1 B1; refine Uj Z<|Ya Z<|Vp<|Vt<|Vr<|Yl Jn Ji Z<|Xx Jk B1 Z<|Vp<|Yb<|Vr<|Yo Z<|Ya Z<|Vp<|Yt Z fun h1 => ?_; refine Vr<|Yo Z<|Ya Z<|Vp<|Yt Z fun h2 => ?_; refine Vr<|Yo Z<|Ya Z<|Vp<|Yt Z fun h3 => ?_; refine Vr<|Yo Z<|Ya Z<|Vp<|Vu Z (fun h4 => ?_) (fun h4 => ?_); refine Vr<|Yl Jn Jo Z<|Qx Jp B1 Z<|Vs Z (Xh (a := .string _) Za Z) (k0 _ (Ku E1 hM)) ?_; rintro _ w2 ⟨u1, rfl, E2, O1⟩
      refine Ut Z<|Ra u1 Z<|Uz Z<|Uc u1 Z<|Ya Z<|Vp<|Vt<|Vr<|Xp Z<|Xz Z<|Vp<|Up Z (fun h5 => ?_) (fun h5 => ?_); refine Vt<|Ym<|Uj Z<|Ya Z<|Vp<|Vy ?_; refine Yh (v := .tuple #[.slice _ _ _, .bool _]) Z ?_; exact ⟨_, rfl, exq, Owned.nil⟩; exact Ks; exact Ks
  | some q =>
    rw [hr] at hm hB hQ
    rw [hB, hQ, show (some q).isSome = true from rfl, show (some q).getD [] = q from rfl] at k0
    have hq := (Tn hr).1
    have hNq : Nod q (0 : Nat) := ⟨hq, Kj, by have := hq.1; omega⟩
    have k1 : ∀ (w : World) (v u : Value), ESl Ints w v p → ESl Ints w u q → Dz 174 [v, .int .i64 0, u, .int .i64 0] w (RetOB w XR (og (wosV p 0 q 0)) (wosV p 0 q 0).isSome) := fun w v u h1 h2 => impl_WithoutSet_ok w v u p q h1 h2 0 0 hN hNq
    rw [hm, show ((some q).bind fun q => wosV p 0 q 0) = wosV p 0 q 0 from rfl]
    focus
      refine Vr<|Xu Z Z Z ?_; rintro b1 w1 H1 E1 B1; have := B1.lt; refine Uj Z<|Ya Z<|Vp<|Vt<|Vr<|Yl Jn Ji Z<|Xx Jk B1 Z<|Vp<|Yb<|Vr<|Yo Z<|Ya Z<|Vp<|Yt Z fun h1 => ?_; refine Vr<|Yo Z<|Ya Z<|Vp<|Yt Z fun h2 => ?_; refine Vr<|Yo Z<|Ya Z<|Vp<|Yt Z fun h3 => ?_; refine Vr<|Yo Z<|Ya Z<|Vp<|Vu Z (fun h4 => ?_) (fun h4 => ?_); refine Vr<|Yl Jn Jo Z<|Qx Jp B1 Z<|Vs Z (Xh (a := .string _) Za Z) (k0 _ (Ku E1 hM)) ?_; rintro _ w2 ⟨u1, rfl, E2, O1⟩; have := E2.Z
      refine Ut Z<|Ra u1 Z<|Uz Z<|Uc u1 Z<|Ya Z<|Vp<|Vt<|Vr<|Xp Z<|Xz Z<|Vp<|Uk Z fun h5 => ?_; refine Vw<|Vr<|Yj v Z<|Yj u1 Z<|Vs Z (Ss (a := v) (b := .int _ _) (c := u1) (d := .int _ _) Tryz.call174 Z Z Z Z) (k1 _ _ _ (Ku exq h) (Kv O1)) ?_; rintro _ w3 ⟨u2, rfl, E3, O2⟩; refine Ra u2 Z<|Uz Z<|Uc u2 Z<|Ya Z<|Vp<|Vy ?_; refine Yh (v := .tuple #[u2, .bool _]) Z ?_; exact ⟨_, rfl, exq, O2.toB.o.mono Kh⟩; exact Ks
 by_cases e3:k=3
 ·subst e3
  have et:t=[]:=by rcases hk1 with h | h | h;exact absurd h Kj;exact absurd h Kj;exact h
  subst et
  by_cases en:Nod p n
  ·have k2 : ∀ (w:World) (v:Value),ESl Ints w v p→Dz 94 [v,.int .i64 n] w (Ret w (.bool true)):=fun w v h=>by
    have:=Sj w v p h n;rwa [decide_eq_true en] at this
   have hrow:p[0].length=p.length:=hp.row I1
   have en2:=en.2
   obtain ⟨i,rfl⟩ : ∃ i:Nat,n=i:=⟨n.toNat,Kh⟩
   have hil:i < p.length:=Kh
   have hbit:bit p 0 i=p[0][i]:=by unfold bit;rw [Xl I1,Xl (show i < p[0].length by omega)]
   have h01:p[0][i]=0∨p[0][i]=1:=(hp.2.2 _ (List.getElem_mem I1)).2 _ (List.getElem_mem Kh)
   by_cases eb:p[0][i]=1
   ·have hm:M=some (lst p i):=hMd.trans (by simp only [madeV];rw [if_neg (fun h=>absurd h.1 Kj),if_neg (fun h=>absurd h.1 Kj),if_neg (fun h=>absurd h.1 Kj),if_pos ⟨trivial,trivial,Kh,Kh,by rw [Int.toNat_natCast,hbit,eb]⟩,Int.toNat_natCast])
    have hl:=lst_pic hp (a:=i) hil
    have k3 : ∀ (w:World) (v:Value),ESl Ints w v p→Dz 153 [v,.int .i64 (i:Int)] w (RetOB w XR (lst p i) true):=fun w v h=>by
     have:=leastOf_ok w v p h hp.gr i hil
     rwa [if_pos hl.2.1,decide_eq_true hl.2.1] at this
    have eb0 : ¬p[0][i]=0:=by rw [eb];decide
    rw [hm,show og (some (lst p i))=lst p i from rfl,show (some (lst p i)).isSome=true from rfl]
    focus
     refine Vr<|Xu Z Z Z ?_;rintro b1 w1 H1 E1 B1;have:=B1.lt;refine Uj Z<|Ya Z<|Vp<|Vt<|Vr<|Yl Jn Ji Z<|Xx Jk B1 Z<|Vp<|Yb<|Vr<|Yo Z<|Ya Z<|Vp<|Yt Z fun h1=>?_;refine Vr<|Yo Z<|Ya Z<|Vp<|Vu Z (fun h2=>?_) (fun h2=>?_);refine Vt<|Vt<|Qe mixed Ki Z ?_;refine Sb v Z<|Qu Jn Ji Z<|Uq (v:=.int _ _) Z (fun w' hw'=>Xd Jk Z ((B1.J hw').cell Z)) ?_;refine Rb Z (fun _ _=>Xa (a:=v) (b:=.int _ _) Zf Z Z) (fun w' hw'=>(k2 _ _ (Ku exq h))) ?_;refine Mi Z<|Sp Z (fun _ _=>Xj (v:=.bool _) Z) (fun h3=>?_) (fun h3=>?_);exact Ks
     refine Sb v Z<|Qf (k:=0) Jm Jw Jz Z (fun _=>Z) Z h E1 Z Km ?_;rintro _ u1 C1;refine Qu Jn Ji Z<|Uq (v:=.int _ _) Z (fun w' hw'=>Xd Jk Z ((B1.J hw').cell Z)) ?_;refine Qf Jl Ji Jk Z (fun _=>Z) Z C1 E1 Z Km ?_;rintro _ _ rfl;refine St Z<|Sl Z<|Ux (fun w2 E2=>?_);have:=E2.Z;refine Yt Z fun h4=>?_;refine Vw<|Vt<|Ym<|Yj v Z<|Yl Jn Ji Z<|Xx Jk (B1.J E2) Z<|Vs Z (Xa (a:=v) (b:=.int _ _) Tryz.call153 Z Z) (k3 _ _ (Ku exq h)) ?_;rintro _ w3 ⟨u2,rfl,E3,O1⟩
     refine Ra u2 Z<|Uz Z<|Uc u2 Z<|Ya Z<|Vp<|Vy ?_;refine Yh (v:=.tuple #[u2,.bool _]) Z ?_;exact ⟨_,rfl,exq,O1.toB.o.mono Kh⟩;exact Ks
   ·have eb0:p[0][i]=0:=by omega
    have hm:M=none:=hMd.trans (by simp only [madeV];rw [if_neg (fun h=>absurd h.1 Kj),if_neg (fun h=>absurd h.1 Kj),if_neg (fun h=>absurd h.1 Kj),if_neg (fun h=>eb (by have:=h.2.2.2.2;rwa [Int.toNat_natCast,hbit] at this))])
    rw [hm,show og none=[] from rfl,show (none:Option (List (List Int))).isSome=false from rfl]
    focus
     refine Vr<|Xu Z Z Z ?_;rintro b1 w1 H1 E1 B1;refine Uj Z<|Ya Z<|Vp<|Vt<|Vr<|Yl Jn Ji Z<|Xx Jk B1 Z<|Vp<|Yb<|Vr<|Yo Z<|Ya Z<|Vp<|Yt Z fun h1=>?_;refine Vr<|Yo Z<|Ya Z<|Vp<|Vu Z (fun h2=>?_) (fun h2=>?_);refine Vt<|Vt<|Qe mixed Ki Z ?_;refine Sb v Z<|Qu Jn Ji Z<|Uq (v:=.int _ _) Z (fun w' hw'=>Xd Jk Z ((B1.J hw').cell Z)) ?_;refine Rb Z (fun _ _=>Xa (a:=v) (b:=.int _ _) Zf Z Z) (fun w' hw'=>(k2 _ _ (Ku exq h))) ?_;refine Mi Z<|Sp Z (fun _ _=>Xj (v:=.bool _) Z) (fun h3=>?_) (fun h3=>?_);exact Ks
     refine Sb v Z<|Qf (k:=0) Jm Jw Jz Z (fun _=>Z) Z h E1 Z Km ?_;rintro _ u1 C1;refine Qu Jn Ji Z<|Uq (v:=.int _ _) Z (fun w' hw'=>Xd Jk Z ((B1.J hw').cell Z)) ?_;refine Qf Jl Ji Jk Z (fun _=>Z) Z C1 E1 Z Km ?_;rintro _ _ rfl;refine St Z<|Sl Z<|Ux (fun w2 E2=>?_);refine Vu Z (fun h4=>?_) (fun h4=>?_);refine Vr<|Uj Z<|Ya Z<|Vp<|Vy ?_;refine Yh (v:=.tuple #[.slice _ _ _,.bool _]) Z ?_;exact ⟨_,rfl,exq,Owned.nil⟩;exact Ks;exact Ks
  ·have k2 : ∀ (w:World) (v:Value),ESl Ints w v p→Dz 94 [v,.int .i64 n] w (Ret w (.bool false)):=fun w v h=>by
    have:=Sj w v p h n;rwa [decide_eq_false en] at this
   have hm:M=none:=hMd.trans (by simp only [madeV];rw [if_neg (fun h=>absurd h.1 Kj),if_neg (fun h=>absurd h.1 Kj),if_neg (fun h=>absurd h.1 Kj),if_neg (fun h=>en ⟨hp,h.2.2.1,by have:=h.2.2.2.1;omega⟩)])
   rw [hm,show og none=[] from rfl,show (none:Option (List (List Int))).isSome=false from rfl]
   focus
    refine Vr<|Xu Z Z Z ?_;rintro b1 w1 H1 E1 B1;refine Uj Z<|Ya Z<|Vp<|Vt<|Vr<|Yl Jn Ji Z<|Xx Jk B1 Z<|Vp<|Yb<|Vr<|Yo Z<|Ya Z<|Vp<|Yt Z fun h1=>?_;refine Vr<|Yo Z<|Ya Z<|Vp<|Vu Z (fun h2=>?_) (fun h2=>?_);refine Vt<|Vt<|Qe mixed Ki Z ?_;refine Sb v Z<|Qu Jn Ji Z<|Uq (v:=.int _ _) Z (fun w' hw'=>Xd Jk Z ((B1.J hw').cell Z)) ?_;refine Rb Z (fun _ _=>Xa (a:=v) (b:=.int _ _) Zf Z Z) (fun w' hw'=>(k2 _ _ (Ku exq h))) ?_;refine Mi Z<|Sp Z (fun _ _=>Xj (v:=.bool _) Z) (fun h3=>?_) (fun h3=>?_)
    refine Yd Z<|Yd Z<|Yd Z<|Yd Z<|Yd Z<|Yd Z<|Yd Z<|Yd Z<|Md Z<|Ux (fun w2 E2=>?_);refine Xe Z ?_;refine Vt<|Ym<|Uj Z<|Ya Z<|Vp<|Vy ?_;refine Yh (v:=.tuple #[.slice _ _ _,.bool _]) Z ?_;exact ⟨_,rfl,exq,Owned.nil⟩;exact Ks;exact Ks
 have hm:M=none:=hMd.trans (by simp only [madeV];rw [if_neg (fun h=>e0 h.1),if_neg (fun h=>e1 h.1),if_neg (fun h=>e2 h.1),if_neg (fun h=>e3 h.1)])
 rw [hm,show og none=[] from rfl,show (none:Option (List (List Int))).isSome=false from rfl]
 focus
  refine Vr<|Xu Z Z Z ?_;rintro b1 w1 H1 E1 B1;refine Uj Z<|Ya Z<|Vp<|Vt<|Vr<|Yl Jn Ji Z<|Xx Jk B1 Z<|Vp<|Yb<|Vr<|Yo Z<|Ya Z<|Vp<|Yt Z fun h1=>?_;refine Vr<|Yo Z<|Ya Z<|Vp<|Yt Z fun h2=>?_;refine Vr<|Yo Z<|Ya Z<|Vp<|Yt Z fun h3=>?_;refine Vr<|Yo Z<|Ya Z<|Vp<|Yt Z fun h4=>?_;refine Vw<|Vr<|Uj Z<|Ya Z<|Vp<|Vy ?_;refine Yh (v:=.tuple #[.slice _ _ _,.bool _]) Z ?_;exact ⟨_,rfl,E1,Owned.nil⟩
theorem sameRows_ok (w:World) (v u:Value) (p q:List (List Int)) (h:ESl Ints w v p) (h':ESl Ints w u q):Dz 72 [v,u] w (Ret w (.bool (decide (p=q)))):=by
 have hle:=h.le
 have hle':=h'.le
 refine Yr Tryz.func72 Z Tryz.results72 Tryz.ntmps72 Z ?_
 focus
  refine Vr<|Ya Z<|Vp<|Vt<|Vr<|Yj v Z<|Ys Jm Z h<|Yj u Z<|Ys Jm Z h'<|Qg Z<|Vp<|Xn Z (fun h1=>?_) (fun h1=>?_);refine Vr<|Ya Z<|Vp<|Vy ?_;refine Yh (v:=.bool _) Z ?_;refine ⟨congrArg Value.bool ?_,(Jf _)⟩;rotate_left;refine Vw<|Vt<|Vr<|Yx Z<|Vp<|Yb ?_;rotate_left
 ·exact (Jc (fun e=>by subst e;omega)).symm
 refine Xt [4,5,11,12,13,14,15,16,17,18,19,20,21,22,23,24,25,26] (fun (k:Nat)=>[(5,.int .i64 (k:Nat))]) (fun k w'=>Ext w w'∧k≤p.length∧p.take k=q.take k) (fun x=>p.length - x) 0 Kn ?_ ?_
 ·exact ⟨Jf _,Ja _,Kp⟩
 rintro k ρj w1 ⟨E1,hk,he⟩
 focus
  refine Vt<|Vr<|Vz Z<|Yj v Z<|Ys Jm Z h<|Yy Z<|Vp<|Vu Z (fun h2=>?_) (fun h2=>?_);refine Vw<|Vt<|Yb<|Vt<|Qe mixed Ki Z ?_;refine Sb v Z<|Sv Z<|Qf Jm Jw Jz Z (fun _=>Z) Z h E1 Z Km ?_;rintro _ u1 C1;refine Sb u Z<|Sv Z<|Qf Jm Jw Jz Z (fun _=>Z) Z h' E1 Z Km ?_;rintro _ u2 C2;refine Rb Z (fun _ _=>Xa (a:=u1) (b:=u2) Tryz.call125 Z Z) (fun w' hw'=>(sameInts_ok _ _ _ _ _ (Ku exq C1) (Ku exq C2))) ?_;refine Mi Z<|Ux (fun w2 E2=>?_);refine Xn Z (fun h3=>?_) (fun h3=>?_);refine Vr<|Ya Z<|Vp<|Vy ?_
  refine Yh (v:=.bool _) Z ?_;refine ⟨congrArg Value.bool ?_,exq⟩;rotate_left;refine Vw<|Ym<|Vz Z<|Xf Z<|Yx Z<|Vp ?_;rotate_left;refine Xm ?_;refine Yn ?_;refine Vr<|Ya Z<|Vp<|Vy ?_;refine Yh (v:=.bool _) Z ?_;refine ⟨congrArg Value.bool ?_,E1⟩;rotate_left
 ·exact (Jc (ne_at (k:=k) Kh Kh Kk)).symm
 ·refine ⟨(k+1),Kn,Ko,?_,?_⟩
  ·exact ⟨E1.K E2,Kh,(Tz Kh Kh).2 ⟨he,Kk⟩⟩
  ·omega
 ·obtain rfl:k=p.length:=by omega
  exact (Jb (ext_take Kh he)).symm
end Go.Proofs.YtbgpppaljpngmaaGreatDoor
set_option linter.unusedVariables false
namespace Go.Hs
section
variable {β : Type} {P:Program} {n d:Nat} {N:Env→World→Prop} {ρ : Env} {w:World} {all:Array Oper} {rest:List Oper} {t e ty:TypeId} {pos:String} {after:Array Edge} {g:Option (Nat × Bool)} {x:Operand} {k:IntKind}
end
theorem opc_val2 {P:Program} {ρ : Env} {w:World} {ty:TypeId} {f:FuncId} {cap:List Value} {x x0 x1:Operand} {ts:Array TypeId} {a b:Value} (hc : ∀ args w,Sem.run P (callFunc f args) w=.ok (.enter f args) w)
  (hx:evalE ρ x=.func (.func f) [].toArray cap.toArray) (h0:evalE ρ x0=a) (h1:evalE ρ x1=b) :
  OpC P (.call { callee:=.value x,args:=#[x0,x1],argTypes:=ts }) ty ρ w f (a::b::cap):=opc_val (first:=[]) (vs:=[a,b]) hc hx (by simp [h0,h1])
end Go.Hs
namespace Go.Proofs.YtbgpppaljpngmaaGreatDoor
open Go.Hs
set_option maxRecDepth 10000
set_option maxHeartbeats 4000000
set_option linter.unusedVariables false
set_option linter.unusedSimpArgs false
def ptR (p:List (List Int)) (K:List Int) (x:Int) (j:Nat) (y:Int):Int:=b01 ((List.range j).any (ptF p K x y))
def ptM (p:List (List Int)) (K L:List Int) (x:Int) (j m:Nat):List Int:=(L.take m).map (ptR p K x (j+1))++(L.drop m).map (ptR p K x j)
theorem ptM_len {p:List (List Int)} {K L:List Int} {x:Int} {j m:Nat} : (ptM p K L x j m).length=L.length:=by
 unfold ptM
 rw [List.length_append,List.length_map,List.length_map,← List.length_append,List.take_append_drop]
theorem ptR_succ {p:List (List Int)} {K:List Int} {x y:Int} {j:Nat} : ptR p K x (j+1) y=if ptF p K x y j then 1 else ptR p K x j y:=by
 unfold ptR
 rw [any_range_succ']
 cases ptF p K x y j <;> cases (List.range j).any (ptF p K x y) <;> rfl
theorem ptM_yes {p:List (List Int)} {K L:List Int} {x:Int} {j m:Nat} (hm:m < L.length) (hf:ptF p K x L[m] j=true):(ptM p K L x j m).set m 1=ptM p K L x j (m+1):=by
 have hl:((L.take m).map (ptR p K x (j+1))).length=m:=Kg
 unfold ptM
 rw [List.set_append_right _ _ Kh,hl,Nat.sub_self,List.drop_eq_getElem_cons hm,List.map_cons,List.set_cons_zero,Ua _ _ hm,List.map_append,List.append_assoc]
 congr 1
 rw [List.map_cons,List.map_nil,ptR_succ,hf]
 rfl
theorem ptM_no {p:List (List Int)} {K L:List Int} {x:Int} {j m:Nat} (hm:m < L.length) (hf:ptF p K x L[m] j=false):ptM p K L x j m=ptM p K L x j (m+1):=by
 unfold ptM
 rw [List.drop_eq_getElem_cons hm,List.map_cons,Ua _ _ hm,List.map_append,List.append_assoc]
 congr 1
 rw [List.map_cons,List.map_nil,ptR_succ,hf]
 rfl
theorem ptM_zero {p:List (List Int)} {K L:List Int} {x:Int} {j:Nat} : ptM p K L x j 0=L.map (ptR p K x j):=by simp [ptM]
theorem ptM_all {p:List (List Int)} {K L:List Int} {x:Int} {j:Nat} : ptM p K L x j L.length=L.map (ptR p K x (j+1)):=by simp [ptM]
theorem ptR_none {p:List (List Int)} {K L:List Int} {x:Int} : L.map (ptR p K x 0)=List.replicate L.length 0:=by
 rw [← List.map_const']
 exact List.map_congr_left fun y _=>rfl
theorem l4Part_ok (w:World) (v u t:Value) (p:List (List Int)) (K L:List Int) (h:ESl Ints w v p) (hK:Ints w u K) (hL:Ints w t L) (hp:Gr p) (hk:K.length=p.length) (hl : ∀ x ∈ L,0≤x∧x < p.length) (hn:L.length≤1000) :
  Dz 195 [v,u,t] w (RetO w XR (ptV p K L)):=by
 have I5:=hp.2.1
 have hpl:=ptV_len (p:=p) (K:=K) (L:=L)
 refine Yr Tryz.func195 Z Tryz.results195 Tryz.ntmps195 Z ?_
 focus
  refine Vr<|Uj Z<|Vp<|Vr<|Un (XSl 3 XInt) Z Sk Jw ?_;rintro b1 w1 H1 b1lt E1 O1;refine Uj Z<|Vp<|Vt<|Vr<|Yx Z<|Vp<|Yb ?_
 refine Xt [7,8,9,10,11,13,14,15,16,17,18,19,20,21,22,23,24,25,26,27,28,29,30,31,32,33,34,35,36,37,38,39,40,41,42,43,44,45,46,47,48,49,50,51,52,53,54,55,56,57,58,59,60,61,62,63,64,65] (fun ((k,o):Nat × Value)=>[(8,.int .i64 (k:Nat)),(7,o)]) (fun (k,o) w'=>Ext w w'∧k≤L.length∧Owned w.heap.size XR w' o ((ptV p K L).take k)) (fun x=>L.length - x.1) (0,.slice (some ⟨b1,0,none⟩) 0 0) Kn ?_ ?_
 ·exact ⟨Kk,Ja _,by simpa using O1⟩
 clear O1
 rintro ⟨k,o⟩ ρj w2 ⟨E2,hkl,O1⟩
 by_cases hlt:k < L.length
 ·have hLk:=hl L[k] (List.getElem_mem hlt)
  have hrow:=hp.row (i:=L[k].toNat) Kh
  have htl:((ptV p K L).take k).length=k:=Kg
  focus
   have:=E2.Z;refine Vt<|Vr<|Vz Z<|Yj t Z<|Ys Jl Z hL<|Yy Z<|Vp<|Vu Z (fun h1=>?_) (fun h1=>?_);refine Vw<|Vt<|Yb<|Vt<|Ym<|Yj t Z<|Ys Jl Z hL<|Mh Z Rl Z Kh ?_;rintro b2 w3 H2 b2lt E3 O2;refine Uj Z<|Vp<|Vt<|Vr<|Yx Z<|Vp<|Yb ?_;rotate_left;exact Kt
  refine Xt [10,11,22,23,24,25,26,27,28,29,30,31,32,33,34,35,36,37,38,39,40,41,42,43,44,45,46,47,48,49,50,51,52,53,54,55,56,57,58,59,60,61] (fun (j:Nat)=>[(10,.int .i64 (j:Nat))]) (fun j w'=>Ext w w'∧w2.heap.size≤w'.heap.size∧j≤p.length∧OwnedB w.heap.size w2.heap.size XR w' o ((ptV p K L).take k)∧Owned w2.heap.size XI w' (.slice (some ⟨b2,0,none⟩) L.length L.length) (L.map (ptR p K L[k] j))) (fun j=>p.length - j) 0 Kn ?_ ?_
  ·exact ⟨E2.K E3,E3.Z,Ja _,O1.toB.J E3,by rw [ptR_none];exact O2⟩
  clear O1 O2
  rintro j ρk w4 ⟨E4,P4,hj,O1,O2⟩
  by_cases hjl:j < p.length
  ·focus
    refine Vt<|Vr<|Vz Z<|Yj v Z<|Ys Jm Z h<|Yy Z<|Vp<|Vu Z (fun h2=>?_) (fun h2=>?_);refine Vw<|Vt<|Yb<|Vr<|Yx Z<|Vp<|Yb ?_;rotate_left;exact Kt
   refine Xt [11,28,29,30,31,32,33,34,35,36,37,38,39,40,41,42,43,44,45,46,47,48,49,50,51,52,53,54,55,56,57,58,59,60,61] (fun (m:Nat)=>[(11,.int .i64 (m:Nat))]) (fun m w'=>Ext w w'∧w2.heap.size≤w'.heap.size∧m≤L.length∧OwnedB w.heap.size w2.heap.size XR w' o ((ptV p K L).take k)∧Owned w2.heap.size XI w' (.slice (some ⟨b2,0,none⟩) L.length L.length) (ptM p K L L[k] j m)) (fun m=>L.length - m) 0 Kn ?_ ?_
   ·exact ⟨E4,P4,Ja _,O1,by rw [ptM_zero];exact O2⟩
   clear O1 O2
   rintro m ρl w5 ⟨E5,P5,hm,O1,O2⟩
   have hpm:=ptM_len (p:=p) (K:=K) (L:=L) (x:=L[k]) (j:=j) (m:=m)
   by_cases hml:m < L.length
   ·have hLm:=hl L[m] (List.getElem_mem hml)
    have eF:ptF p K L[k] L[m] j=(decide (p[L[k].toNat][j]=1) && decide (K[j]=K[L[m].toNat])):=by
     unfold ptF
     rw [Xl (show L[k].toNat < p.length by omega),Xl (show j < p[L[k].toNat].length by omega),Xl (show j < K.length by omega),Xl (show L[m].toNat < K.length by omega)]
    by_cases c1:p[L[k].toNat][j]=1
    ·by_cases c2:K[j]=K[L[m].toNat]
     ·focus
       refine Vt<|Vr<|Vz Z<|Yj t Z<|Ys Jl Z hL<|Yy Z<|Vp<|Vu Z (fun h3=>?_) (fun h3=>?_);refine Vw<|Vt<|Yb<|Vt<|Qe mixed Ki Z ?_;refine Sb v Z<|Sb t Z<|Sv Z<|Qf Jl Ji Jk Z (fun _=>Z) Z hL E5 Z Km ?_;rintro _ _ rfl;refine Nc Jm Jw Jz Z (fun _=>Z) Z h E5 Z Km ?_;rintro _ u1 C1;refine Sv Z<|Qf Jl Ji Jk Z (fun _=>Z) Z C1 E5 Z Km ?_;rintro _ _ rfl;refine St Z<|Rh Z (fun h4=>?_) (fun h4=>?_)
       refine Sb u Z<|Sv Z<|Qf Jl Ji Jk Z (fun _=>Z) Z hK E5 Z Km ?_;rintro _ _ rfl;refine Sb u Z<|Sb t Z<|Sv Z<|Qf Jl Ji Jk Z (fun _=>Z) Z hL E5 Z Km ?_;rintro _ _ rfl;refine Nc Jl Ji Jk Z (fun _=>Z) Z hK E5 Z Km ?_;rintro _ _ rfl;refine St Z<|Md Z<|Ux (fun w6 E6=>?_);have:=E6.Z;refine Vu Z (fun h5=>?_) (fun h5=>?_);refine Ym<|Ri Z<|Vz Z<|Wo Z (Yk Jl Ji Z Z Kh) ?_;refine Wo_set Z Ji Z Z (O2.toB.J E6) Km Owned.int (Kz _) Kh ?_
       rintro w7 O2 On1 K1 Z1;have E7:=On1.ext1 (E5.K E6) Kh;have O1:=(O1.J E6).W K1 Kh;refine Vp<|Ym<|Vz Z<|Xf Z<|Yx Z<|Vp ?_;rotate_left;exact Ks;exact Ks;exact Kt
      refine ⟨(m+1),Kn,Ko,?_,?_⟩
      ·refine ⟨Kk,Kh,Kh,Kk,?_⟩
       rw [← ptM_yes hml (by rw [eF,decide_eq_true c1,decide_eq_true c2];rfl)]
       assumption
      ·omega
     ·focus
       refine Vt<|Vr<|Vz Z<|Yj t Z<|Ys Jl Z hL<|Yy Z<|Vp<|Vu Z (fun h3=>?_) (fun h3=>?_);refine Vw<|Vt<|Yb<|Vt<|Qe mixed Ki Z ?_;refine Sb v Z<|Sb t Z<|Sv Z<|Qf Jl Ji Jk Z (fun _=>Z) Z hL E5 Z Km ?_;rintro _ _ rfl;refine Nc Jm Jw Jz Z (fun _=>Z) Z h E5 Z Km ?_;rintro _ u1 C1;refine Sv Z<|Qf Jl Ji Jk Z (fun _=>Z) Z C1 E5 Z Km ?_;rintro _ _ rfl;refine St Z<|Rh Z (fun h4=>?_) (fun h4=>?_)
       refine Sb u Z<|Sv Z<|Qf Jl Ji Jk Z (fun _=>Z) Z hK E5 Z Km ?_;rintro _ _ rfl;refine Sb u Z<|Sb t Z<|Sv Z<|Qf Jl Ji Jk Z (fun _=>Z) Z hL E5 Z Km ?_;rintro _ _ rfl;refine Nc Jl Ji Jk Z (fun _=>Z) Z hK E5 Z Km ?_;rintro _ _ rfl;refine St Z<|Md Z<|Ux (fun w6 E6=>?_);have:=E6.Z;refine Yt Z fun h5=>?_;refine Vw<|Ym<|Vz Z<|Xf Z<|Yx Z<|Vp ?_;rotate_left;exact Ks;exact Kt
      refine ⟨(m+1),Kn,Ko,?_,?_⟩
      ·refine ⟨by first | assumption | exact E5.K Kk,Kh,Kh,by first | assumption | exact O1.J Kk,?_⟩
       rw [← ptM_no hml (by rw [eF,decide_eq_false c2];simp)]
       first | assumption | exact O2.J Kk
      ·omega
    ·focus
      refine Vt<|Vr<|Vz Z<|Yj t Z<|Ys Jl Z hL<|Yy Z<|Vp<|Vu Z (fun h3=>?_) (fun h3=>?_);refine Vw<|Vt<|Yb<|Vt<|Qe mixed Ki Z ?_;refine Sb v Z<|Sb t Z<|Sv Z<|Qf Jl Ji Jk Z (fun _=>Z) Z hL E5 Z Km ?_;rintro _ _ rfl;refine Nc Jm Jw Jz Z (fun _=>Z) Z h E5 Z Km ?_;rintro _ u1 C1;refine Sv Z<|Qf Jl Ji Jk Z (fun _=>Z) Z C1 E5 Z Km ?_;rintro _ _ rfl;refine St Z<|Rh Z (fun h4=>?_) (fun h4=>?_);exact Ks
      refine Yd Z<|Yd Z<|Yd Z<|Yd Z<|Yd Z<|Yd Z<|Yd Z<|Yd Z<|Yd Z<|Yd Z<|Yd Z<|Yd Z<|Sl Z<|Ux (fun w6 E6=>?_);have:=E6.Z;refine Vx Z ?_;refine Vw<|Ym<|Vz Z<|Xf Z<|Yx Z<|Vp ?_;rotate_left;exact Kt
     refine ⟨(m+1),Kn,Ko,?_,?_⟩
     ·refine ⟨by first | assumption | exact E5.K Kk,Kh,Kh,by first | assumption | exact O1.J Kk,?_⟩
      rw [← ptM_no hml (by rw [eF,decide_eq_false c1];simp)]
      first | assumption | exact O2.J Kk
     ·omega
   ·obtain rfl:m=L.length:=by omega
    focus
     refine Vt<|Vr<|Vz Z<|Yj t Z<|Ys Jl Z hL<|Yy Z<|Vp<|Vv Z fun h3=>?_;refine Xm ?_;refine Yn ?_;refine Ym<|Vz Z<|Xf Z<|Yx Z<|Vp ?_
    refine ⟨(j+1),Kn,Ko,?_,?_⟩
    ·refine ⟨Kk,Kh,Kh,Kk,?_⟩
     rw [← ptM_all];assumption
    ·omega
  ·obtain rfl:j=p.length:=by omega
   have hrl:(L.map (ptR p K L[k] p.length)).length=L.length:=Kp
   focus
    have:=E4.Z;have:=E2.Z;refine Vt<|Vr<|Vz Z<|Yj v Z<|Ys Jm Z h<|Yy Z<|Vp<|Vv Z fun h2=>?_;refine Xm ?_;refine Yn ?_;refine Ym<|Yj o Z<|Ri Z<|Xc (ps:=[(0,.slice _ _ _)]) (cs:=[_]) Z Jm Jw Gq Z Z Z Z ?_;rintro b3 w5 H3 E5 B1;have:=E5.Z;refine Ur Z Sk Z Z B1 (O1.J E5) (O2.toB.J E5).o Kh Km Kh Kh (E4.K E5) Kh ?_;rintro v1 w6 O1 E6 M1;refine Uc v1 Z<|Vp<|Ym<|Vz Z<|Xf Z<|Yx Z<|Vp ?_
   refine ⟨(k+1,v1),Kn,Ko,?_,?_⟩
   ·refine ⟨Kk,Kh,?_⟩
    rw [Ua _ _ Kh]
    have e:(ptV p K L)[k]'Kh=L.map (ptR p K L[k] p.length):=by simp only [ptV,List.getElem_map];rfl
    rw [e]
    assumption
   ·simp only;omega
 ·obtain rfl:k=L.length:=by omega
  focus
   refine Vt<|Vr<|Vz Z<|Yj t Z<|Ys Jl Z hL<|Yy Z<|Vp<|Vv Z fun h1=>?_;refine Xm ?_;refine Yn ?_;refine Vr<|Yj o Z<|Uc o Z<|Vp<|Vy ?_;refine ⟨E2,(congrArg (Owned _ _ _ _) ?_).mp (O1.toB.o.mono Kh)⟩
  rw [List.take_of_length_le Kh]
theorem JoinedOf_ok (w:World) (v:Value) (p:List (List Int)) (h:ESl Ints w v p) (z:Int):Dz 165 [v,.int .i64 z] w (RetDX w XR (fun c=>(Nod p z→Cand p z.toNat c)∧(¬Nod p z→c=[]))):=by
 by_cases hz:Nod p z
 ·obtain ⟨hp,Z0,Z1⟩:=id hz
  obtain ⟨i,rfl⟩:=Int.eq_ofNat_of_zero_le Z0
  have hi:i < p.length:=Kh
  have I5:=hp.2.1
  have k1 : ∀ (w:World) (v:Value),ESl Ints w v p→Dz 161 [v,.int .i64 (i:Int)] w (RetO w XI (ints (rf p i))):=fun w v h=>by
   have:=Tk w v p i h
   rw [show rfV p (i:Int)=rf p i from if_pos hz] at this;exact this
  have k2 : ∀ (w:World) (v:Value),ESl Ints w v p→Dz 194 [v] w (RetO w XI (ints (kndL p))):=fun w v h=>by
   have:=spec_KindsOf_ok w v p h
   rw [if_pos hp] at this;exact this
  have hrl:=Lq (p:=p) (i:=i)
  have hril:=Ul (rf p i)
  have Q0:0 < (rf p i).length:=List.length_pos_iff.2 fun e=>by
   have:=(Sd hp.gr hi).2 (Rch.refl i)
   rw [e] at this;cases this
  have hkl:=Ni (p:=p)
  have k4 : ∀ (w:World) (v u t:Value) (L:List Nat),ESl Ints w v p→Ints w u (ints (kndL p))→Ints w t (ints L)→(∀ x ∈ L,x < p.length)→L.length≤p.length→Dz 195 [v,u,t] w (RetO w XR (qp p (L.map (knd p)))):=fun w v u t L h1 h2 h3 h4 h5=>by
   rw [← ptV_qp hp.gr h4]
   refine l4Part_ok w v u t p _ _ h1 h2 h3 hp.gr hkl (fun x hx=>?_) (by rw [Ul];omega)
   obtain ⟨y,hy,rfl⟩:=List.mem_map.1 hx
   have:=h4 y hy
   omega
  refine Yr Tryz.func165 Z Tryz.results165 Tryz.ntmps165 Z ?_
  focus
   refine Vr<|Uj Z<|Vp<|Vr<|Yj v Z<|Vz Z<|Vs Z (Xa (a:=v) (b:=.int _ _) Tryz.call161 Z Z) (k1 _ _ (h)) ?_;rintro u1 w1 ⟨E1,O1⟩;have:=E1.Z;refine Uc u1 Z<|Vp<|Vr<|Yj v Z<|Vs Z (Xh (a:=v) Tryz.call194 Z) (k2 _ _ (Ku E1 h)) ?_;rintro u2 w2 ⟨E2,O2⟩;have:=E2.Z;refine Uc u2 Z<|Vp<|Vt<|Vr<|Yj u1 Z<|Ys Jl Z (Kv O1)<|Yo Z<|Vp<|Vv Z fun h1=>?_;refine Vw<|Vr<|Vz Z<|Xg (ps:=[(0,.int _ _)]) (cs:=[_]) Z Jl Ji Gf Z Z Z Z ?_;rintro b1 w3 H1 E3 B1 Y1;refine Uj Z<|Vp<|Vt<|Vr<|Yx Z<|Vp<|Yb ?_
  have O3:Owned w2.heap.size XI w3 (.slice (some ⟨b1,0,none⟩) 1 1) (ints [i]):=Owned.block Y1 H1 rfl Kj ⟨⟨rfl,rfl⟩,trivial⟩
  have r1:=O1.O
  have r2:=O2.O
  clear Y1 B1 O1 O2
  refine Xt [7,8,9,10,22,23,24,25,26,27,28,29,30,31,32,33,34,35,36,37,38,39,40,41,42,43,44,45,46,47,48,49,50,51,52,53,54,55,56,57,58,59] (fun ((k,u,L):Nat × Value × List Nat)=>[(8,.int .i64 (k:Nat)),(7,u)]) (fun (k,u,L) w'=>Ext w2 w'∧Owned w2.heap.size XI w' u (ints L)∧k≤(rf p i).length∧Fnd p i k L) (fun x=>(rf p i).length - x.1) (0,.slice (some ⟨b1,0,none⟩) 1 1,[i]) Kn ?_ ?_
  ·exact ⟨Kk,O3,Ja _,Fnd.zero⟩
  clear O3
  rintro ⟨k,u,L⟩ ρj w4 ⟨E4,O3,hk,hF⟩
  have hLl:=hF.len hp.gr hi
  have hLil:=Ul L
  by_cases hlt:k < (rf p i).length
  ·have hrk:=(Sd hp.gr hi).1 (List.getElem_mem hlt) |>.lt hp.gr hi
   have hgk:(ints (rf p i))[k]'Kh=((rf p i)[k]:Int):=Qh hlt
   focus
    have:=E4.Z;refine Vt<|Vr<|Vz Z<|Yj u1 Z<|Ys Jl Z r1<|Yy Z<|Vp<|Vu Z (fun h2=>?_) (fun h2=>?_);refine Vw<|Vt<|Yb<|Vr<|Ya Z<|Vp<|Vt<|Vr<|Yx Z<|Vp<|Yb ?_;rotate_left;exact Kt
   refine Xt [9,10,28,29,30,31,32,33,34,35,36,37,38,39,40,41,42,43,44,45,46,47,48,49,50,51] (fun ((j,f):Nat × Bool)=>[(10,.int .i64 (j:Nat)),(9,.bool f)]) (fun (j,f) w'=>Ext w4 w'∧j≤L.length∧(f=true↔knd p (rf p i)[k] ∉ (L.take j).map (knd p))) (fun x=>L.length - x.1) (0,true) Kn ?_ ?_
   ·exact ⟨Jf _,Ja _,Kp⟩
   rintro ⟨j,f⟩ ρk w5 ⟨E5,hj,hf⟩
   by_cases hjl:j < L.length
   ·have hLj:=hF.lt hp.gr hi (List.getElem_mem hjl)
    have hgj:(ints L)[j]'Kh=(L[j]:Int):=Qh hjl
    have hkj:(ints (kndL p))[((ints L)[j]'Kh).toNat]'Kh=(knd p L[j]:Int):=by
     simp only [hgj,Int.toNat_natCast];exact Su _
    have hkk:(ints (kndL p))[((ints (rf p i))[k]'Kh).toNat]'Kh=(knd p (rf p i)[k]:Int):=by
     simp only [hgk,Int.toNat_natCast];exact Su _
    have hts:=Ua _ _ hjl
    have bj:((ints L)[j]'Kh).toNat < (ints (kndL p)).length:=by rw [hkl,hgj];omega
    have bk:((ints (rf p i))[k]'Kh).toNat < (ints (kndL p)).length:=by rw [hkl,hgk];omega
    cases f
    ·focus
      refine Vt<|Vr<|Vz Z<|Yj u Z<|Ys Jl Z (Kv O3)<|Yy Z<|Vp<|Vu Z (fun h3=>?_) (fun h3=>?_);refine Vw<|Vt<|Yb<|Qe mixed Ki Z ?_;refine Tb Z<|Tb Z<|Yd Z<|Yd Z<|Yd Z<|Yd Z<|Yd Z<|Yd Z<|Yd Z<|Yd Z<|Yd Z<|Yd Z<|Yd Z<|Yd Z<|Yd Z<|Yd Z<|Yd Z<|Sl Z<|Nx Z<|Ux (fun w6 E6=>?_);refine Ym<|Vz Z<|Xf Z<|Yx Z<|Vp ?_;rotate_left;exact Kt
     refine ⟨(j+1,false),Kn,Ko,?_,?_⟩
     ·refine ⟨by exact (E5.K E6),Kh,⟨fun h=>(by cases h),fun h=>?_⟩⟩
      rw [hts,List.map_append,List.mem_append,not_or] at h
      exact absurd (hf.2 h.1) Kp
     ·simp only;omega
    ·focus
      refine Vt<|Vr<|Vz Z<|Yj u Z<|Ys Jl Z (Kv O3)<|Yy Z<|Vp<|Vu Z (fun h3=>?_) (fun h3=>?_);refine Vw<|Vt<|Yb<|Qe mixed Ki Z ?_;refine Tb Z<|Tb Z<|Sb u2 Z<|Sb u Z<|Sv Z<|Qf Jl Ji Jk Z (fun _=>Z) Z (Kv O3) E5 Z Km ?_;rintro _ _ rfl;refine Nc Jl Ji Jk Z (fun _=>Z) Z r2 exq Z Km ?_;rintro _ _ rfl;refine Sb u2 Z<|Sb u1 Z<|Sv Z<|Qf Jl Ji Jk Z (fun _=>Z) Z r1 exq Z Km ?_;rintro _ _ rfl
      refine Nc Jl Ji Jk Z (fun _=>Z) Z r2 exq Z Km ?_;rintro _ _ rfl;refine Wqneq Z<|Md Z<|Nx Z<|Ux (fun w6 E6=>?_);refine Ym<|Vz Z<|Xf Z<|Yx Z<|Vp ?_;rotate_left;exact Kt
     refine ⟨((j+1,!decide ((ints (kndL p))[((ints L)[j]'Kh).toNat]'bj=(ints (kndL p))[((ints (rf p i))[k]'Kh).toNat]'bk))),Kn,Ko,?_,?_⟩
     ·refine ⟨by exact (E5.K E6),Kh,?_⟩
      rw [hkj,hkk,hts,List.map_append,List.mem_append,not_or]
      have hf':=hf.1 rfl
      simp only [List.map_cons,List.map_nil,List.mem_singleton,Bool.not_eq_true',decide_eq_false_iff_not]
      constructor
      ·intro h;exact ⟨hf',fun e=>h (by rw [e])⟩
      ·intro h e;exact h.2 Kh
     ·simp only;omega
   ·obtain rfl:j=L.length:=by omega
    rw [List.take_length] at hf
    cases f
    ·focus
      refine Vt<|Vr<|Vz Z<|Yj u Z<|Ys Jl Z (Kv O3)<|Yy Z<|Vp<|Vv Z fun h3=>?_;refine Xm ?_;refine Yn ?_;refine Vr<|Xp Z<|Vp<|Vx Z ?_;refine Vw<|Ym<|Vz Z<|Xf Z<|Yx Z<|Vp ?_
     refine ⟨(k+1,u,L),Kn,Ko,?_,?_⟩
     ·refine ⟨by exact (E4.K E5),by exact (Ku E5 O3),Kh,hF.skip hlt ?_⟩
      exact Classical.byContradiction fun h=>absurd (hf.2 h) Kp
     ·simp only;omega
    ·focus
      have:=E5.Z;have:=E4.Z;refine Vt<|Vr<|Vz Z<|Yj u Z<|Ys Jl Z (Kv O3)<|Yy Z<|Vp<|Vv Z fun h3=>?_;refine Xm ?_;refine Yn ?_;refine Vr<|Xp Z<|Vp<|Xe Z ?_;refine Ym<|Yj u Z<|Yj u1 Z<|Vz Z<|Xv Jl Ji Jk Z (fun _=>Z) Z r1 exq Z Km ?_;rintro _ _ rfl;refine Xg (ps:=[(0,.int _ _)]) (cs:=[_]) Z Jl Ji Gf Z Z Z Z ?_;rintro b2 w6 H2 E6 B1 Y2;have:=E6.Z;refine Ur Z Rl Z Z B1 (O3.toB.J (E5.K E6)) Owned.int (Kz _) Km Kh Kh ((((E1.K E2).K E4).K E5).K E6) Kh ?_
      have T1:=(O3.toB.J (E5.K E6));rintro v1 w7 O3 E7 M1;have E9:=M1.J T1 ((E4.K E5).K E6) Kh;refine Uc v1 Z<|Vp<|Ym<|Vz Z<|Xf Z<|Yx Z<|Vp ?_
     refine ⟨((k+1,v1,L++[(rf p i)[k]])),Kn,Ko,?_,?_⟩
     ·refine ⟨Kk,?_,Kh,hF.step hp.gr hi hlt (hf.1 Z)⟩
      rw [ints_append,show ints [(rf p i)[k]]=[(ints (rf p i))[k]'Kh] by rw [hgk];rfl]
      assumption
     ·simp only;omega
  ·have hK:=hF.kds hp.gr hi Kh
   have hLt : ∀ x ∈ L,x < p.length:=fun x hx=>hF.lt hp.gr hi hx
   focus
    have:=E4.Z;refine Vt<|Vr<|Vz Z<|Yj u1 Z<|Ys Jl Z r1<|Yy Z<|Vp<|Vv Z fun h2=>?_;refine Xm ?_;refine Yn ?_;refine Vr<|Yj v Z<|Yj u2 Z<|Yj u Z<|Vs Z (Qq (a:=v) (b:=u2) (c:=u) Tryz.call195 Z Z Z) (k4 _ _ _ _ _ (Ku exq h) (Ku E4 r2) (Kv O3) Kk Kk) ?_;rintro u3 w5 ⟨E5,O1⟩;refine Uc u3 Z<|Vp<|Vy ?_;refine Yh (v:=u3) Z ?_
   refine ⟨_,by exact (((E1.K E2).K E4).K E5),O1.mono Kh,fun _=>⟨_,hK,Z⟩,fun h=>absurd hz h⟩
 ·have k1 : ∀ (w:World) (v:Value),ESl Ints w v p→Dz 161 [v,.int .i64 z] w (RetO w XI []):=fun w v h=>by
   have:=Tk w v p z h
   rw [show rfV p z=[] from if_neg hz] at this;exact this
  have k2 : ∀ (w:World) (v:Value),ESl Ints w v p→Dz 194 [v] w (RetO w XI (if Pic p then ints (kndL p) else [])):=fun w v h=>spec_KindsOf_ok w v p h
  have hnil:(([]:List Int).length:Int)=0:=rfl
  refine Yr Tryz.func165 Z Tryz.results165 Tryz.ntmps165 Z ?_
  focus
   refine Vr<|Uj Z<|Vp<|Vr<|Yj v Z<|Vz Z<|Vs Z (Xa (a:=v) (b:=.int _ _) Tryz.call161 Z Z) (k1 _ _ (h)) ?_;rintro u1 w1 ⟨E1,O1⟩;have:=E1.Z;refine Uc u1 Z<|Vp<|Vr<|Yj v Z<|Vs Z (Xh (a:=v) Tryz.call194 Z) (k2 _ _ (Ku E1 h)) ?_;rintro u2 w2 ⟨E2,O2⟩;have:=E2.Z;refine Uc u2 Z<|Vp<|Vt<|Vr<|Yj u1 Z<|Ys Jl Z (Kv O1)<|Yo Z<|Vp<|Vu Z (fun h1=>?_) (fun h1=>?_);refine Vr<|Un (XSl 3 XInt) Z Sk Jw ?_;rintro b1 w3 H1 b1lt E3 O3;refine Uj Z<|Vp<|Vy ?_;refine Yh (v:=.slice _ _ _) Z ?_;rotate_left;exact Ks
  exact ⟨_,by exact ((E1.K E2).K E3),O3.mono Kh,fun h=>absurd h hz,fun _=>rfl⟩
end Go.Proofs.YtbgpppaljpngmaaGreatDoor
set_option linter.unusedVariables false
set_option linter.unusedSimpArgs false
namespace Go.Hs
def oxt (x:Nat) (o:List Nat):List (List Nat):=((List.range x).filter fun y=>decide (1≤y) && !o.contains y).map fun y=>o++[y]
theorem ordS_succ (n k:Nat):ordS n (k+1)=(ordS n k).flatMap (oxt n):=rfl
theorem oxt_one (o:List Nat):oxt 1 o=[]:=rfl
theorem oxt_yes {x:Nat} {o:List Nat} (hx:1≤x) (h:o.contains x=false):oxt (x+1) o=oxt x o++[o++[x]]:=by
 unfold oxt
 rw [Qb,decide_eq_true hx,h]
 simp
theorem oxt_no {x:Nat} {o:List Nat} (h:o.contains x=true):oxt (x+1) o=oxt x o:=by
 unfold oxt
 rw [Qb,h]
 simp
theorem oxt_len (x:Nat) (o:List Nat):(oxt x o).length≤x:=by
 unfold oxt
 rw [List.length_map]
 exact Jd (List.length_filter_le _ _) Kp
theorem flatMap_len {α β : Type} (f : α→List β) (m:Nat) : ∀ (l:List α),(∀ x ∈ l,(f x).length≤m)→(l.flatMap f).length≤l.length*m
 | [],_=>by simp
 | x :: l, h => by
   rw [List.flatMap_cons, List.length_append, List.length_cons]
   have := flatMap_len f m l fun y hy => h y (by simp [hy])
   have := h x Kp
   rw [Nat.succ_mul]; omega
theorem ordS_len (n:Nat) : ∀ k,(ordS n k).length≤n ^ k
 | 0=>by simp [ordS]
 | k + 1 => by
   rw [ordS_succ]
   have h1 := flatMap_len (oxt n) n (ordS n k) fun x _ => oxt_len n x
   have h2 := Nat.mul_le_mul_right n (ordS_len n k)
   rw [Nat.pow_succ]; omega
theorem ordS_len5 {n k:Nat} (hn:n≤5) (hk:k≤5):(ordS n k).length≤3125:=by
 have h1:=ordS_len n k
 have h2:n ^ k≤5 ^ k:=Nat.pow_le_pow_left hn k
 have h3:5 ^ k≤5 ^ 5:=Nat.pow_le_pow_right Kh hk
 have:(5:Nat) ^ 5=3125:=rfl
 omega
theorem iis_get {D:List (List Nat)} {i:Nat} (h:i < (D.map ints).length):(D.map ints)[i]=ints (D[i]'(by simpa using h)):=Kp
end Go.Hs
namespace Go.Proofs.YtbgpppaljpngmaaGreatDoor
open Go.Hs
set_option maxRecDepth 10000
set_option maxHeartbeats 4000000
set_option linter.unusedVariables false
set_option linter.unusedSimpArgs false
theorem l4Orders_ok (w:World) (n:Nat) (hn:1≤n∧n≤5):Dz 166 [.int .i64 (n:Int)] w (RetO w XR ((orders n).map ints)):=by
 refine Yr Tryz.func166 Z Tryz.results166 Tryz.ntmps166 Z ?_
 have keepR:True:=trivial
 focus
  refine Vr<|Uj Z<|Vp<|Vr<|Xg (ps:=[(0,.int _ _)]) (cs:=[_]) Z Jl Ji Gf Z Z Z Z ?_;rintro b1 w1 H1 E1 B1 Y1;have:=B1.lt;refine Xg (ps:=[(0,.slice _ _ _)]) (cs:=[_]) Z Jm Jw Gq Z Z Z Z ?_;rintro b2 w2 H2 E2 B2 Y2;refine Uj Z<|Vp<|Vt<|Vr<|Yx Z<|Vp<|Yb ?_
 clear keepR
 have hOr:Owned w.heap.size XI w1 (.slice (some ⟨b1,0,none⟩) 1 1) [0]:=Owned.block Y1 H1 rfl Kj ⟨⟨rfl,rfl⟩,trivial⟩
 have O0:Owned w.heap.size XR w2 (.slice (some ⟨b2,0,none⟩) 1 1) [[0]]:=Owned.single (hOr.toB.J E2) Y2 Kh Kh
 clear hOr Y1 Y2 B1 B2
 refine Xt [3,4,5,6,7,8,9,12,13,14,15,16,17,18,19,20,21,22,23,24,25,26,27,28,29,30,31,32,33,34,35,36,37,38,39,40,41,42,43,44,45,46,47,48,49,50,51,52,53,54,55,56,57,58,59,60,61,62,63,64] (fun ((k,u):Nat × Value)=>[(4,.int .i64 (k:Nat)),(3,u)]) (fun (k,u) w'=>Ext w w'∧1≤k∧k≤n∧Owned w.heap.size XR w' u ((ordS n (k - 1)).map ints)) (fun x=>n - x.1) (1,.slice (some ⟨b2,0,none⟩) 1 1) Kn ?_ ?_
 ·exact ⟨by first | assumption | exact E1.K E2,Kz _,hn.1,O0⟩
 clear O0
 rintro ⟨k,u⟩ ρj w3 ⟨E3,hk1,hkn,O1⟩
 by_cases hlt:k < n
 ·obtain ⟨D,hD⟩ : ∃ D,D=ordS n (k - 1):=⟨_,rfl⟩
  have hDl:D.length≤3125:=hD ▸ ordS_len5 hn.2 Kh
  have hDo : ∀ o ∈ D,o.length=k:=fun o ho=>by
   have:=((mem_ordS hn.1 (k - 1) o).1 (hD ▸ ho)).1
   omega
  rw [← hD] at O1
  have hDm:(D.map ints).length=D.length:=Kp
  have hR:=O1.O
  clear O1
  focus
   have:=E3.Z;refine Vt<|Vr<|Vz Z<|Vz Z<|Yy Z<|Vp<|Vu Z (fun h1=>?_) (fun h1=>?_);refine Vw<|Vt<|Yb<|Vr<|Un (XSl 3 XInt) Z Sk Jw ?_;rintro b3 w4 H3 b3lt E4 O1;refine Uj Z<|Vp<|Vt<|Vt<|Ym<|Yx Z<|Vp<|Yb ?_;rotate_left;exact Kt
  refine Xt [5,6,7,8,9,18,19,20,21,22,23,24,25,26,27,28,29,30,31,32,33,34,35,36,37,38,39,40,41,42,43,44,45,46,47,48,49,50,51,52,53,54,55,56,57,58,59,60,61,62,63] (fun ((i,nx):Nat × Value)=>[(6,.int .i64 (i:Nat)),(5,nx)]) (fun (i,nx) w'=>Ext w3 w'∧i≤D.length∧Owned w3.heap.size XR w' nx (((D.take i).flatMap (oxt n)).map ints)) (fun x=>D.length - x.1) (0,.slice (some ⟨b3,0,none⟩) 0 0) Kn ?_ ?_
  ·exact ⟨Kk,Ja _,by simpa using O1⟩
  clear O1
  rintro ⟨i,nx⟩ ρk w5 ⟨E5,hi,O1⟩
  by_cases hil:i < D.length
  ·have hgi:=iis_get (D:=D) (i:=i) Kh
   have hol:=hDo D[i] (List.getElem_mem hil)
   have hil2:=Ul D[i]
   have hfl:((D.take i).flatMap (oxt n)).length≤15625:=by
    have:=flatMap_len (oxt n) n (D.take i) fun x _=>oxt_len n x
    have h2:(D.take i).length≤3125:=Kg
    have h3:=Nat.mul_le_mul h2 hn.2
    omega
   focus
    refine Vt<|Vr<|Vz Z<|Yj u Z<|Ys Jm Z hR<|Yy Z<|Vp<|Vu Z (fun h2=>?_) (fun h2=>?_);refine Vw<|Vt<|Yb<|Vr<|Yx Z<|Vp<|Yb ?_;rotate_left;exact Kt
   refine Xt [5,7,8,9,24,25,26,27,28,29,30,31,32,33,34,35,36,37,38,39,40,41,42,43,44,45,46,47,48,49,50,51,52,53,54,55,56,57,58,59,60,61,62,63] (fun ((x,nx):Nat × Value)=>[(7,.int .i64 (x:Nat)),(5,nx)]) (fun (x,nx) w'=>Ext w3 w'∧1≤x∧x≤n∧Owned w3.heap.size XR w' nx (((D.take i).flatMap (oxt n)++oxt x D[i]).map ints)) (fun x=>n - x.1) (1,nx) Kn ?_ ?_
   ·exact ⟨Kk,Kz _,hn.1,by rw [oxt_one];simpa using O1⟩
   clear O1
   rintro ⟨x,ny⟩ ρl w6 ⟨E6,hx1,hxn,O1⟩
   have hml:(((D.take i).flatMap (oxt n)++oxt x D[i]).map ints).length≤15630:=by
    have:=oxt_len x D[i]
    simp only [List.length_map,List.length_append];omega
   by_cases hxl:x < n
   ·focus
     have:=E6.Z;refine Vt<|Vr<|Vz Z<|Vz Z<|Yy Z<|Vp<|Vu Z (fun h3=>?_) (fun h3=>?_);refine Vw<|Vt<|Yb<|Vr<|Ya Z<|Vp<|Vt<|Vr<|Yx Z<|Vp<|Yb ?_;rotate_left;exact Kt
    refine Xt [8,9,29,30,31,32,33,34,35,36,37,38,39,40,41,42,43,44,45,46,47,48,49] (fun ((j,f):Nat × Bool)=>[(9,.int .i64 (j:Nat)),(8,.bool f)]) (fun (j,f) w'=>Ext w6 w'∧j≤D[i].length∧f=(D[i].take j).contains x) (fun y=>D[i].length - y.1) (0,false) Kn ?_ ?_
    ·exact ⟨Jf _,Ja _,Kp⟩
    rintro ⟨j,f⟩ ρm w7 ⟨E7,hj,hf⟩
    by_cases hjl:j < D[i].length
    ·have hgj:(ints D[i])[j]'Kh=(D[i][j]:Int):=Qh hjl
     have hts:=Ua _ _ hjl
     have hgg:((D.map ints)[i]'Kh)[j]'(by rw [hgi];omega)=(D[i][j]:Int):=by simp only [hgi];exact hgj
     have hrl:((D.map ints)[i]'Kh).length=D[i].length:=by rw [hgi];exact hil2
     have hct:(D[i].take (j+1)).contains x=((D[i].take j).contains x || decide (D[i][j]=x)):=by
      rw [hts,Bool.eq_iff_iff]
      simp only [List.contains_eq_mem,List.mem_append,List.mem_singleton,decide_eq_true_eq,Bool.or_eq_true]
      exact or_congr Iff.rfl ⟨fun h=>h.symm,fun h=>h.symm⟩
     cases f
     ·focus
       refine Vt<|Vr<|Vz Z<|Yj u Z<|Vz Z<|Xv Jm Jw Jz Z (fun _=>Z) Z hR exq Z Km ?_;rintro _ u1 C1;refine Ys Jl Z C1<|Yy Z<|Vp<|Vu Z (fun h4=>?_) (fun h4=>?_);refine Vw<|Vt<|Yb<|Ym<|Xp Z<|Xp Z<|Yj u Z<|Vz Z<|Xv Jm Jw Jz Z (fun _=>Z) Z hR exq Z Km ?_;rintro _ u2 C2;refine Vz Z<|Xv Jl Ji Jk Z (fun _=>Z) Z C2 exq Z Km ?_;rintro _ _ rfl;refine Vz Z<|Yo Z<|Xb Z<|Ya Z<|Vp<|Ym<|Vz Z<|Xf Z<|Yx Z<|Vp ?_;rotate_left;exact Kt
      refine ⟨((j+1,decide (((D.map ints)[i]'Kh)[j]'(by rw [hgi];omega)=(x:Int)))),Kn,Ko,?_,?_⟩
      ·refine ⟨by exact E7,Kh,?_⟩
       rw [hct,← hf,Bool.false_or,decide_eq_decide,hgg]
       omega
      ·simp only;omega
     ·focus
       refine Vt<|Vr<|Vz Z<|Yj u Z<|Vz Z<|Xv Jm Jw Jz Z (fun _=>Z) Z hR exq Z Km ?_;rintro _ u1 C1;refine Ys Jl Z C1<|Yy Z<|Vp<|Vu Z (fun h4=>?_) (fun h4=>?_);refine Vw<|Vt<|Yb<|Ym<|Xp Z<|Xp Z<|Vq Z<|Vq Z<|Vq Z<|Vq Z<|Vq Z<|Vq Z<|Vq Z<|Vq Z<|Vq Z<|Xy Z<|Ya Z<|Vp<|Ym<|Vz Z<|Xf Z<|Yx Z<|Vp ?_;rotate_left;exact Kt
      refine ⟨(j+1,true),Kn,Ko,?_,?_⟩
      ·refine ⟨by exact E7,Kh,?_⟩
       rw [hct,← hf];rfl
      ·simp only;omega
    ·obtain rfl:j=D[i].length:=by omega
     rw [List.take_length] at hf
     have hrl:((D.map ints)[i]'Kh).length=D[i].length:=by rw [hgi];exact hil2
     cases f
     ·focus
       have:=E7.Z;have:=E6.Z;have:=E3.Z;refine Vt<|Vr<|Vz Z<|Yj u Z<|Vz Z<|Xv Jm Jw Jz Z (fun _=>Z) Z hR exq Z Km ?_;rintro _ u1 C1;refine Ys Jl Z C1<|Yy Z<|Vp<|Vv Z fun h4=>?_;refine Xm ?_;refine Yn ?_;refine Vr<|Xp Z<|Xz Z<|Vp<|Up Z (fun h5=>?_) (fun h5=>?_);refine Ym<|Yj ny Z<|Un XInt Z Rl Ji ?_;rintro b4 w8 H4 b4lt E8 O2;have:=E8.Z;refine Yj u Z<|Vz Z<|Xv Jm Jw Jz Z (fun _=>Z) Z hR exq Z Km ?_;rintro _ u2 C2
       refine Wo_appS Z Rl Z Z (Ku ((E6.K E7).K E8) C2) O2.toB Km Kh Kh (((E3.K E6).K E7).K E8) Kh ?_;have T1:=O2.toB;rintro v1 w9 O2 E9 M1;have E10:=M1.J T1 ((E6.K E7).K E8) Kh;have E11:=M1.J T1 (E7.K E8) Kh;have E12:=M1.J T1 E8 Kh;have:=E12.Z;have O1:=(O1.toB.J exq).moves M1 T1 Kh;refine Vz Z<|Xg (ps:=[(0,.int _ _)]) (cs:=[_]) Z Jl Ji Gf Z Z Z Z ?_;rintro b5 w10 H5 E13 B1 Y5;have:=E13.Z;refine Ur Z Rl Z Z B1 (O2.toB.J E13) Owned.int (Kz _) Km Kh Kh (E9.K E13) Kh ?_;have T2:=(O2.toB.J E13);rintro v2 w11 O2 E14 M2
       have E15:=M2.J T2 (E10.K E13) Kh;have:=E15.Z;have O1:=(O1.J E13).moves M2 T2 Kh;refine Qc Z Jm Jw Gq Z (Kx O2.toB) Z ?_;rintro b6 w12 H6 E18 B2 Y6;have:=E18.Z;refine Ur Z Sk Z Z B2 (O1.J E18) (O2.toB.J E18).o Kh Km Kh Kh (E14.K E18) Kh ?_;have T3:=(O1.J E18);rintro v3 w13 O1 E19 M3;have E20:=M3.J T3 (E15.K E18) Kh;refine Uc v3 Z<|Vp<|Ym<|Vz Z<|Xf Z<|Yx Z<|Vp ?_;rotate_left;exact Ks
      refine ⟨(x+1,v3),Kn,Ko,?_,?_⟩
      ·refine ⟨by exact E20,Kh,Kh,?_⟩
       rw [oxt_yes hx1 hf.symm,← List.append_assoc,List.map_append]
       have e:[ints (D[i]++[x])]=[[]++(D.map ints)[i]'Kh++[(x:Int)]]:=by rw [ints_append,hgi];rfl
       rw [List.map_cons,List.map_nil,e]
       assumption
      ·simp only;omega
     ·focus
       refine Vt<|Vr<|Vz Z<|Yj u Z<|Vz Z<|Xv Jm Jw Jz Z (fun _=>Z) Z hR exq Z Km ?_;rintro _ u1 C1;refine Ys Jl Z C1<|Yy Z<|Vp<|Vv Z fun h4=>?_;refine Xm ?_;refine Yn ?_;refine Vr<|Xp Z<|Xz Z<|Vp<|Uk Z fun h5=>?_;refine Vw<|Ym<|Vz Z<|Xf Z<|Yx Z<|Vp ?_
      refine ⟨(x+1,ny),Kn,Ko,?_,?_⟩
      ·refine ⟨by exact (E6.K E7),Kh,Kh,?_⟩
       rw [oxt_no hf.symm]
       exact (Ku E7 O1)
      ·simp only;omega
   ·obtain rfl:x=n:=by omega
    focus
     refine Vt<|Vr<|Vz Z<|Vz Z<|Yy Z<|Vp<|Vv Z fun h3=>?_;refine Xm ?_;refine Yn ?_;refine Ym<|Vz Z<|Xf Z<|Yx Z<|Vp ?_
    refine ⟨(i+1,ny),Kn,Ko,?_,?_⟩
    ·refine ⟨by exact E6,Kh,?_⟩
     rw [Ua _ _ hil,List.flatMap_append,List.flatMap_cons,List.flatMap_nil,List.append_nil]
     exact O1
    ·simp only;omega
  ·obtain rfl:i=D.length:=by omega
   focus
    have:=E5.Z;have:=E4.Z;have:=E3.Z;have:=E2.Z;have:=E1.Z;refine Vt<|Vr<|Vz Z<|Yj u Z<|Ys Jm Z hR<|Yy Z<|Vp<|Vv Z fun h2=>?_;refine Xm ?_;refine Yn ?_;refine Ym<|Yj nx Z<|Uc nx Z<|Vp<|Ym<|Vz Z<|Xf Z<|Yx Z<|Vp ?_
   refine ⟨(k+1,nx),Kn,Ko,?_,?_⟩
   ·refine ⟨by exact (E3.K E5),Kh,Kh,?_⟩
    rw [show k+1 - 1=(k - 1)+1 by omega,ordS_succ,← hD]
    rw [List.take_length] at O1
    exact O1.mono Kh
   ·simp only;omega
 ·obtain rfl:k=n:=by omega
  focus
   refine Vt<|Vr<|Vz Z<|Vz Z<|Yy Z<|Vp<|Vv Z fun h1=>?_;refine Xm ?_;refine Yn ?_;refine Vr<|Yj u Z<|Uc u Z<|Vp<|Vy ?_;exact ⟨E3,O1.toB.o.mono Kh⟩
theorem Reordered_ok (w:World) (v u:Value) (c:List (List Int)) (o:List Nat) (h:ESl Ints w v c) (hu:Ints w u (ints o)) (hc:Pic c) (ho:Ord c.length o) :
  Dz 167 [v,u] w (RetO w XR (reo c o)):=by
 have I5:=hc.2.1
 obtain ⟨hol,hnd,hhd,hlt⟩:=id ho
 have hil:=Ul o
 have k1 : ∀ (w:World) (v:Value),ESl Ints w v c→Dz 115 [v] w (Ret w (.bool true)):=fun w v h=>by
  have:=Ql w v c h
  rw [decide_eq_true hc] at this;exact this
 have h2:=pow_le5 (k:=c.length) Kh
 have h1p : ∀ j,j < c.length→1 <<< j < 2 ^ c.length:=fun j hj=>by rw [Nat.one_shiftLeft];exact Nat.pow_lt_pow_right Kh hj
 have h1b : ∀ j k,(1 <<< j).testBit k=decide (j=k):=fun j k=>by rw [Nat.one_shiftLeft,Nat.testBit_two_pow]
 have hsh:((1 <<< c.length:Nat):Int)=((2 ^ c.length:Nat):Int):=by rw [Nat.one_shiftLeft]
 have hgo : ∀ (k:Nat) (hk:k < o.length),(ints o)[k]'Kh=(o[k]:Int):=fun k hk=>Qh hk
 refine Yr Tryz.func167 Z Tryz.results167 Tryz.ntmps167 Z ?_
 focus
  refine Vr<|Uj Z<|Vp<|Vr<|Un (XSl 3 XInt) Z Sk Jw ?_;rintro b1 w1 H1 b1lt E1 O1;refine Uj Z<|Vp<|Vt<|Vr<|Yj v Z<|Vs Z (Xh (a:=v) Gu Z) (k1 _ _ (Ku E1 h)) ?_;rintro _ w2 ⟨rfl,E2⟩;refine Xz Z<|Uf Z (Xj (v:=.bool _) Z) (fun h1=>?_) (fun h1=>?_);exact Ks;refine Yj u Z<|Ys Jl Z hu<|Yj v Z<|Ys Jm Z h<|Qg Z<|Xb Z<|Vp<|Qi Z fun h3=>?_;refine Vw<|Vr<|Yx Z<|Vp<|Vt<|Vr<|Yx Z<|Vp<|Yb ?_
 refine Xt [4,6,7,23,24,25,26,27,28,29,30,31,32,33,34,35,36,37,38,39,40,41,42,43,44,45] (fun ((k,M):Nat × Nat)=>[(7,.int .i64 (k:Nat)),(6,.int .i64 (M:Nat))]) (fun (k,M) w'=>Ext w2 w'∧k≤c.length∧M < 2 ^ c.length∧∀ j,M.testBit j=(o.take k).contains j) (fun x=>c.length - x.1) (0,0) Kn ?_ ?_
 ·exact ⟨Jf _,Ja _,Nat.two_pow_pos _,fun j=>Kp⟩
 rintro ⟨k,M⟩ ρj w3 ⟨E3,hk,hM,hB⟩
 by_cases hkl:k < c.length
 ·have hok:=hlt o[k] (List.getElem_mem Kh)
  have hgk:=hgo k Kh
  have hsl:=shl_le (g:=1) (k:=o[k]) Kh Kh
  have hts:=Ua o k Kh
  have hsl2:(1:Int).toNat <<< ((ints o)[k]'Kh).toNat≤4096:=by simp only [hgk,Int.toNat_natCast];exact Jd hsl Kh
  focus
   refine Vt<|Vr<|Vz Z<|Yj u Z<|Ys Jl Z hu<|Yy Z<|Vp<|Vu Z (fun h4=>?_) (fun h4=>?_);refine Vw<|Vt<|Yb<|Vt<|Vr<|Yj u Z<|Vz Z<|Xv Jl Ji Jk Z (fun _=>Z) Z hu exq Z Km ?_;rintro _ _ rfl;refine Yj v Z<|Ys Jm Z h<|Sc Z<|Vs Z (Qq (a:=.int _ _) (b:=.int _ _) (c:=.int _ _) Gl Z Z Z) (Rn _ _ _ _) ?_;rintro _ w4 ⟨rfl,E4⟩;refine Xz Z<|Vp<|Qi Z fun h5=>?_;refine Vw<|Ym<|Vz Z<|Yj u Z<|Vz Z<|Xv Jl Ji Jk Z (fun _=>Z) Z hu exq Z Km ?_;rintro _ _ rfl;refine Wo Z (opv_shl Z Z Kh) ?_
   refine Wo Z (opv_or Z Z ⟨Int.natCast_nonneg _,Kh,Int.natCast_nonneg _,Int.le_trans (Int.ofNat_le.2 (show _≤4096 by assumption)) Kj⟩) ?_;refine Yx Z<|Vp<|Ym<|Vz Z<|Xf Z<|Yx Z<|Vp ?_;rotate_left;exact Kt
  refine ⟨((k+1,(M:Int).toNat ||| (((1:Int).toNat <<< ((ints o)[k]'Kh).toNat:Nat):Int).toNat)),Kn,Ko,?_,?_⟩
  ·have e:(M:Int).toNat ||| (((1:Int).toNat <<< ((ints o)[k]'Kh).toNat:Nat):Int).toNat=M ||| 1 <<< o[k]:=by simp only [hgk,Int.toNat_natCast];rfl
   rw [e]
   refine ⟨by exact (E3.K E4),Kh,Nat.or_lt_two_pow hM (h1p _ hok),fun j=>?_⟩
   rw [Nat.testBit_or,hB,h1b,hts,Bool.eq_iff_iff]
   simp only [List.contains_eq_mem,List.mem_append,List.mem_singleton,decide_eq_true_eq,Bool.or_eq_true]
   exact or_congr Iff.rfl ⟨fun h=>h.symm,fun h=>h.symm⟩
  ·simp only;omega
 ·obtain rfl:k=c.length:=by omega
  have hMe:M=2 ^ c.length - 1:=by
   apply Nat.eq_of_testBit_eq
   intro j
   rw [hB,Nat.testBit_two_pow_sub_one,List.take_of_length_le Kh,List.contains_eq_mem,decide_eq_decide,ho.perm.mem_iff,List.mem_range]
  have P1:(((1:Int).toNat <<< ((c.length:Nat):Int).toNat:Nat):Int)=((2 ^ c.length:Nat):Int):=by rw [Int.toNat_natCast,show (1:Int).toNat=1 from rfl,Nat.one_shiftLeft]
  have:=Nat.one_le_two_pow (n:=c.length)
  have hrl:=reo_len (c:=c) (o:=o)
  focus
   refine Vt<|Vr<|Vz Z<|Yj u Z<|Ys Jl Z hu<|Yy Z<|Vp<|Vv Z fun h4=>?_;refine Xm ?_;refine Yn ?_;refine Vt<|Vr<|Vz Z<|Yj v Z<|Ys Jm Z h<|Wo Z (opv_shl Z Z Kh) ?_;refine Sc Z<|Qg Z<|Vp<|Qi Z fun h5=>?_;refine Vw<|Vt<|Vr<|Yx Z<|Vp<|Yb ?_
  refine Xt [5,8,9,10,53,54,55,56,57,58,59,60,61,62,63,64,65,66,67,68,69,70,71,72,73,74,75,76,77,78,79,80,81,82,83,84,85] (fun ((k,x):Nat × Value)=>[(8,.int .i64 (k:Nat)),(5,x)]) (fun (k,x) w'=>Ext w w'∧k≤c.length∧Owned w.heap.size XR w' x ((reo c o).take k)) (fun x=>c.length - x.1) (0,.slice (some ⟨b1,0,none⟩) 0 0) Kn ?_ ?_
  ·exact ⟨by exact ((E1.K E2).K E3),Ja _,by rw [List.take_zero];exact (Ku (E2.K E3) O1)⟩
  clear O1
  rintro ⟨k,x⟩ ρk w4 ⟨E4,hk,O1⟩
  by_cases hkl:k < c.length
  ·have hok:=hlt o[k] (List.getElem_mem Kh)
   have hgk:=hgo k Kh
   have hrow:=hc.row (i:=o[k]) Kh
   have hck:(c[((ints o)[k]'Kh).toNat]'(by simp only [hgk,Int.toNat_natCast];omega)).length=c.length:=by simp only [hgk,Int.toNat_natCast];exact hrow
   have htl:((reo c o).take k).length=k:=Kg
   focus
    have:=E4.Z;refine Vt<|Vr<|Vz Z<|Yj u Z<|Ys Jl Z hu<|Yy Z<|Vp<|Vu Z (fun h6=>?_) (fun h6=>?_);refine Vw<|Vt<|Yb<|Vr<|Un XInt Z Rl Ji ?_;rintro b2 w5 H2 b2lt E5 O2;have:=E5.Z;refine Uj Z<|Vp<|Vt<|Vr<|Yx Z<|Vp<|Yb ?_;rotate_left;exact Kt
   refine Xt [9,10,60,61,62,63,64,65,66,67,68,69,70,71,72,73,74,75,76,77,78,79,80,81] (fun ((j,r):Nat × Value)=>[(10,.int .i64 (j:Nat)),(9,r)]) (fun (j,r) w'=>Ext w w'∧w4.heap.size≤w'.heap.size∧j≤c.length∧OwnedB w.heap.size w4.heap.size XR w' x ((reo c o).take k)∧Owned w4.heap.size XI w' r ((o.map fun m=>bit c o[k] m).take j)) (fun x=>c.length - x.1) (0,.slice (some ⟨b2,0,none⟩) 0 0) Kn ?_ ?_
   ·exact ⟨by exact (E4.K E5),Kh,Ja _,O1.toB.J (by exact E5),by simpa using O2⟩
   clear O1 O2
   rintro ⟨j,r⟩ ρl w6 ⟨E6,P6,hj,O1,O2⟩
   have hml:(o.map fun m=>bit c o[k] m).length=c.length:=Kg
   have htl2:((o.map fun m=>bit c o[k] m).take j).length=j:=Kg
   by_cases hjl:j < c.length
   ·have hoj:=hlt o[j] (List.getElem_mem Kh)
    have hgj:=hgo j Kh
    have hel:(c[((ints o)[k]'Kh).toNat]'(by simp only [hgk,Int.toNat_natCast];omega))[((ints o)[j]'Kh).toNat]'(by rw [hck];simp only [hgj,Int.toNat_natCast];omega)=bit c o[k] o[j]:=by
     simp only [hgk,hgj,Int.toNat_natCast]
     unfold bit
     rw [Xl hok,Xl (show o[j] < c[o[k]].length by rw [hrow];exact hoj)]
    have heldS:w=w:=rfl
    focus
     have:=E4.Z;refine Vt<|Vr<|Vz Z<|Yj u Z<|Ys Jl Z hu<|Yy Z<|Vp<|Vu Z (fun h7=>?_) (fun h7=>?_);refine Vw<|Vt<|Yb<|Rm (fun w'=>Ext w w') mixed Z Ki ?_;intro w7 E7 K1 Z1;refine WtmV 0 r Z Z exq<|WtmV 1 v Z Z exq<|WtmV 2 u Z Z exq<|Mb 3 Z Z exq<|Wh_get 4 5 Z Ki Ki Z Z Ki Ki (fun _=>Z) Jl Ji Jk Z hu (fun w' hw'=>Ext.trans (Jf _) hw') Z Km exq ?_;rintro _ _ rfl;refine Wh_get_z 6 7 Z Ki Ki Z Z Ki Ki (fun _=>Z) Jm Jw Jz Z h (fun w' hw'=>Ext.trans (Jf _) hw') Z Km exq ?_
     rintro _ u1 C1;refine WtmV 8 u Z Z exq<|Mb 9 Z Z exq<|Wh_get 10 11 Z Ki Ki Z Z Ki Ki (fun _=>Z) Jl Ji Jk Z hu (fun w' hw'=>Ext.trans (Jf _) hw') Z Km exq ?_;rintro _ _ rfl;refine Wh_get_z 12 13 Z Ki Ki Z Z Ki Ki (fun _=>Z) Jl Ji Jk Z C1 (fun w' hw'=>Ext.trans (Jf _) hw') Z Km exq ?_;rintro _ _ rfl;refine Wha [14]<|Wh1 Z<|Xg (ps:=[(0,.int _ _)]) (cs:=[_]) Z Jl Ji Gf Z Z Z Z ?_;rintro b3 w8 H3 E8 B1 Y3;have:=B1.lt;have:=E8.Z
     refine Wnx exq<|Wha [15]<|Wh1 Z<|Ur Z Rl Z Z B1 (O2.toB.J (E7.K E8)) Owned.int (Kz _) Km Kh Kh ((E6.K E7).K E8) Kh ?_;have T1:=(O2.toB.J (E7.K E8));rintro v1 w9 O2 E9 M1;have O1:=(O1.J exq).moves M1 T1 Kh;refine Wnx E9<|WtaV 16 v1 Z Z E9<|Yp Ki ?_;refine Ym<|Vz Z<|Xf Z<|Yx Z<|Vp ?_;rotate_left;exact Kt
    refine ⟨(j+1,v1),Kn,Ko,?_,?_⟩
    ·refine ⟨by exact E9,by have:=M1.1.size;omega,Kh,by exact O1,?_⟩
     rw [Ua _ _ Kh]
     have e:(o.map fun m=>bit c o[k] m)[j]'Kh=bit c o[k] o[j]:=Kp
     rw [e,← hel]
     assumption
    ·simp only;omega
   ·obtain rfl:j=c.length:=by omega
    obtain ⟨rb,rc,rfl,_⟩:=O2.lit Kh
    have hrb:=O2.lt_own (k:=rb) rfl
    focus
     have:=E4.Z;refine Vt<|Vr<|Vz Z<|Yj u Z<|Ys Jl Z hu<|Yy Z<|Vp<|Yt Z fun h7=>?_;refine Xm ?_;refine Yn ?_;refine Ym<|Yj x Z<|Ri Z<|Xc (ps:=[(0,.slice _ _ _)]) (cs:=[_]) Z Jm Jw Gq Z Z Z Z ?_;rintro b3 w7 H3 E7 B1;have:=B1.lt;refine Ur Z Sk Z Z B1 (O1.J E7) (O2.toB.J E7).o Kh Km Kh Kh (E6.K E7) Kh ?_;rintro v1 w8 O1 E8 M1;refine Uc v1 Z<|Vp<|Ym<|Vz Z<|Xf Z<|Yx Z<|Vp ?_
    refine ⟨(k+1,v1),Kn,Ko,?_,?_⟩
    ·refine ⟨by exact E8,Kh,?_⟩
     rw [Ua _ _ Kh]
     have e:(reo c o)[k]'Kh=(o.map fun m=>bit c o[k] m).take c.length:=by rw [List.take_of_length_le Kh];simp [reo]
     rw [e]
     assumption
    ·simp only;omega
  ·obtain rfl:k=c.length:=by omega
   focus
    refine Vt<|Vr<|Vz Z<|Yj u Z<|Ys Jl Z hu<|Yy Z<|Vp<|Yt Z fun h6=>?_;refine Xm ?_;refine Yn ?_;refine Vr<|Yj x Z<|Uc x Z<|Vp<|Vy ?_;refine ⟨E4,(congrArg (Owned _ _ _ _) ?_).mp (O1.toB.o.mono Kh)⟩
   rw [List.take_of_length_le Kh]
theorem Tg (w:World) (v:Value) (p:List (List Int)) (h:ESl Ints w v p) (z:Int):Dz 126 [v,.int .i64 z] w (RetO w XR (if Nod p z then lst p z.toNat else [])):=by
 have hle:=h.le
 have k1 : ∀ (w:World) (v:Value),ESl Ints w v p→Dz 165 [v,.int .i64 z] w (RetDX w XR (fun c=>(Nod p z→Cand p z.toNat c)∧(¬Nod p z→c=[]))):=fun w v h=>JoinedOf_ok w v p h z
 refine Yr Tryz.func126 Z Tryz.results126 Tryz.ntmps126 Z ?_
 have stop2:True:=trivial
 focus
  refine Vr<|Uj Z<|Vp<|Vr<|Yj v Z<|Vz Z<|Vs Z (Xa (a:=v) (b:=.int _ _) Tryz.call165 Z Z) (k1 _ _ (h)) ?_;rintro u1 w1 ⟨x1,E1,O1,L1⟩;have:=E1.Z;refine Uc u1 Z<|Vp<|Vt<|Vt ?_
 clear stop2
 by_cases hz:Nod p z
 ·rw [if_pos hz]
  have hC:=L1.1 hz
  obtain ⟨hp,Z0,Z1⟩:=id hz
  have hi:z.toNat < p.length:=Kh
  have hcg:=hC.gr hp.gr hi
  have hcl:x1.length≤p.length:=by
   obtain ⟨L,hL,rfl⟩:=hC
   rw [qp_len];exact (hL.len hp.gr hi).2
  have I5:=hp.2.1
  have hcp:=hC.pic hp.gr hi Kh
  have hc1:=hcp.1
  have k2 : ∀ (w:World),Dz 166 [.int .i64 (x1.length:Int)] w (RetO w XR ((orders x1.length).map ints)):=fun w=>l4Orders_ok w _ ⟨Kh,Kh⟩
  focus
   refine Ym<|Yj u1 Z<|Ys Jm Z (Kv O1)<|Yo Z<|Vp<|Vv Z fun h1=>?_;refine Vw<|Vr<|Yj u1 Z<|Uc u1 Z<|Vp<|Vr<|Yj u1 Z<|Ys Jm Z (Kv O1)<|Vs Z (Xh (a:=.int _ _) Tryz.call166 Z) (k2 _) ?_;rintro u2 w2 ⟨E2,O2⟩;have:=E2.Z;refine Uc u2 Z<|Vp<|Vt<|Vt<|Ym<|Yx Z<|Vp<|Yb ?_
  have hlo:(orders x1.length).length≤3125:=ordS_len5 Kh Kh
  have hlm:((orders x1.length).map ints).length=(orders x1.length).length:=Kp
  have r2:=O2.O
  have hO1':=O1.J (by assumption:Ext w1 w2)
  refine Xt [6,8,9,21,22,23,24,25,26,27,28,29,30,31,32,33,34,35,36,37,38] (fun ((k,u,bs):Nat × Value × List (List Int))=>[(8,.int .i64 (k:Nat)),(6,u)]) (fun (k,u,bs) w'=>Ext w2 w'∧k≤(orders x1.length).length∧Owned w.heap.size XR w' u bs∧Cand p z.toNat bs∧bs=((orders x1.length).take k).foldl (fun best o=>lstep x1 best (reo x1 o)) x1) (fun x=>(orders x1.length).length - x.1) (0,u1,x1) Kn ?_ ?_
  ·exact ⟨Jf _,Ja _,hO1',hC,rfl⟩
  rintro ⟨k,u,bs⟩ ρj w3 ⟨E3,hk,hOb,hCb,hbs⟩
  by_cases hlt:k < (orders x1.length).length
  ·have hgo:=iis_get (D:=orders x1.length) (i:=k) Kh
   have hOrd:=(mem_orders Kh).1 (List.getElem_mem hlt)
   have hcb:=hCb.pic hp.gr hi (by have:=hCb.len hC;omega)
   have hcr:=reo_cand hC hOrd
   have hcrp:=hcr.pic hp.gr hi (by have:=hcr.len hC;omega)
   have k3 : ∀ (w:World) (v u:Value),ESl Ints w v x1→Ints w u ((orders x1.length).map ints)[k]→Dz 167 [v,u] w (RetO w XR (reo x1 (orders x1.length)[k])):=fun w v u h h'=>Reordered_ok w v u x1 _ h (hgo ▸ h') hcp hOrd
   have k4 : ∀ (w:World) (v:Value),ESl Ints w v bs→Dz 62 [v] w (Ret w (str (txt bs))):=fun w v h=>by
    have:=Qk w v bs h
    rw [if_pos hcb] at this;exact this
   have k5 : ∀ (w:World) (v:Value),ESl Ints w v (reo x1 (orders x1.length)[k])→Dz 62 [v] w (Ret w (str (txt (reo x1 (orders x1.length)[k])))):=fun w v h=>by
    have:=Qk w v _ h
    rw [if_pos hcrp] at this;exact this
   have hstep:((orders x1.length).take (k+1)).foldl (fun best o=>lstep x1 best (reo x1 o)) x1=lstep x1 bs (reo x1 (orders x1.length)[k]):=by rw [Ua _ _ hlt,List.foldl_append,← hbs];rfl
   focus
    have:=E3.Z;refine Vt<|Vr<|Vz Z<|Yj u2 Z<|Ys Jm Z r2<|Yy Z<|Vp<|Vu Z (fun h2=>?_) (fun h2=>?_);refine Vw<|Vt<|Yb<|Vt<|Ym<|Yj u1 Z<|Yj u2 Z<|Vz Z<|Xv Jm Jw Jz Z (fun _=>Z) Z r2 E3 Z Km ?_;rintro _ u3 C1;refine Vs Z (Xa (a:=u1) (b:=u3) Tryz.call167 Z Z) (k3 _ _ _ ((Ku E3 (Kv hO1'))) (Ku E3 C1)) ?_;rintro u4 w4 ⟨E4,O3⟩;refine Uc u4 Z<|Vp<|Vr<|Yj u4 Z<|Vs Z (Xh (a:=u4) Gi Z) (k5 _ _ (Kv O3)) ?_;rintro _ w5 ⟨rfl,E5⟩;refine Yj u Z<|Vs Z (Xh (a:=u) Gi Z) (k4 _ _ ((Ku exq (Kv hOb)))) ?_;rintro _ w6 ⟨rfl,E6⟩
    refine Wo Z (opv_lss_str Z Z)<|Vp<|Up Z (fun h3=>?_) (fun h3=>?_);refine Ym<|Yj u4 Z<|Uc u4 Z<|Vp<|Ym<|Vz Z<|Xf Z<|Yx Z<|Vp ?_;rotate_left;refine Vw<|Ym<|Vz Z<|Xf Z<|Yx Z<|Vp ?_;rotate_left;exact Kt
   ·refine ⟨((k+1,u4,reo x1 (orders x1.length)[k])),Kn,Ko,?_,?_⟩
    ·refine ⟨by exact (((E3.K E4).K E5).K E6),Kh,(O3.J (by exact (E5.K E6):Ext w4 w6)).mono Kh,hcr,?_⟩
     rw [hstep]
     exact (if_pos Kk).symm
    ·simp only;omega
   ·refine ⟨(k+1,u,bs),Kn,Ko,?_,?_⟩
    ·refine ⟨by exact (((E3.K E4).K E5).K E6),Kh,by exact (Ku ((E4.K E5).K E6) hOb),hCb,?_⟩
     rw [hstep]
     exact (if_neg (by simp only [Bool.not_eq_true];assumption)).symm
    ·simp only;omega
  ·obtain rfl:k=(orders x1.length).length:=by omega
   focus
    refine Vt<|Vr<|Vz Z<|Yj u2 Z<|Ys Jm Z r2<|Yy Z<|Vp<|Vv Z fun h2=>?_;refine Xm ?_;refine Yn ?_;refine Vr<|Yj u Z<|Uc u Z<|Vp<|Vy ?_;refine ⟨exq,(congrArg (Owned _ _ _ _) ?_).mp (hOb.toB.o.mono Kh)⟩
   rw [hbs,List.take_length]
   exact lst_fold_eq hp.gr hi hC
 ·rw [if_neg hz]
  obtain rfl:=L1.2 hz
  have hnil:(([]:List (List Int)).length:Int)=0:=rfl
  focus
   refine Ym<|Yj u1 Z<|Ys Jm Z (Kv O1)<|Yo Z<|Vp<|Vu Z (fun h1=>?_) (fun h1=>?_);refine Vr<|Yj u1 Z<|Uc u1 Z<|Vp<|Vy ?_;exact ⟨E1,O1.toB.o.mono Kh⟩;exact Ks
theorem Ug:Flat Tryz.prog 26 [.slice none 0 0,.slice none 0 0]:=⟨_,Tryz.underlying26,fun _=>Ki,fun _=>Ki⟩
theorem spec_DeskNew_ok (w:World) (v:Value) (p:List (List Int)) (h:ESl Ints w v p) (z:Int):Dz 106 [v,.int .i64 z] w (RetDkB w 23 88 3 (if Nod p z then lst p z.toNat else []) [] (decide (Nod p z))):=by
 refine Tj Tryz.func106 Z Tryz.results106 Tryz.ntmps106 Z Jq Jj ?_
 by_cases hz:Nod p z
 ·have k1 : ∀ (w:World) (v:Value),ESl Ints w v p→Dz 118 [v,.int .i64 z] w (Ret w (.bool true)):=fun w v h=>by
   have:=Rq w v p h z
   rw [decide_eq_true hz] at this;exact this
  have k2 : ∀ (w:World) (v:Value),ESl Ints w v p→Dz 126 [v,.int .i64 z] w (RetO w XR (lst p z.toNat)):=fun w v h=>by
   have:=Tg w v p h z
   rw [if_pos hz] at this;exact this
  rw [if_pos hz,decide_eq_true hz]
  focus
   refine Vr<|Xk Z Ug ?_;rintro b1 w1 H1 E1 B1;have:=B1.lt;refine Ya Z<|Vp<|Vt<|Vr<|Yj v Z<|Vz Z<|Vs Z (Xa (a:=v) (b:=.int _ _) Zd Z Z) (k1 _ _ (Ku E1 h)) ?_;rintro _ w2 ⟨rfl,E2⟩;have:=E2.Z;refine Xz Z<|Vp<|Uk Z fun h1=>?_;refine Vw<|Vr<|Yj v Z<|Vz Z<|Vs Z (Xa (a:=v) (b:=.int _ _) Zj Z Z) (k2 _ _ (Ku exq h)) ?_;rintro u1 w3 ⟨E3,O1⟩;have ichO1:=Kx (Je O1);have:=E3.Z;refine Wo Z (opv_buildF0 Ug Z (Kx O1.toB))<|Uw Jj (B1.J (E2.K E3)) Z ((E1.K E2).K E3) ?_;rintro w4 E4 B1 K1 Z1;simp only [List.set] at B1;have O1:=O1.toB.W K1 Kh;refine Ya Z<|Vp<|Vy ?_
  exact ⟨b1,u1,_,rfl,B1,u1,_,w3.heap.size,rfl,E4,O1.wide Kh (Kz _),Owned.nil,Kh,Kh⟩
 ·have k1 : ∀ (w:World) (v:Value),ESl Ints w v p→Dz 118 [v,.int .i64 z] w (Ret w (.bool false)):=fun w v h=>by
   have:=Rq w v p h z
   rw [decide_eq_false hz] at this;exact this
  rw [if_neg hz,decide_eq_false hz]
  focus
   refine Vr<|Xk Z Ug ?_;rintro b1 w1 H1 E1 B1;refine Ya Z<|Vp<|Vt<|Vr<|Yj v Z<|Vz Z<|Vs Z (Xa (a:=v) (b:=.int _ _) Zd Z Z) (k1 _ _ (Ku E1 h)) ?_;rintro _ w2 ⟨rfl,E2⟩;refine Xz Z<|Vp<|Up Z (fun h1=>?_) (fun h1=>?_);refine Vr<|Wo Z (Yu (ps:=[]) (cs:=[_,_]) Ug Z Z)<|Uw Jj (B1.J E2) Z (E1.K E2) ?_;rintro w3 E3 B1 K1 Z1;refine Ya Z<|Vp<|Vy ?_;rotate_left;exact Ks
  exact ⟨b1,_,_,rfl,B1,_,_,w.heap.size,rfl,E3,OwnedB.nil,Owned.nil,Kz _,E3.Z⟩
theorem copyRowsI_ok (w:World) (v:Value) (p:List (List Int)) (h:ESl Ints w v p) (hp:p.length≤100) (hr : ∀ r ∈ p,r.length≤100):Dz 128 [v] w (RetO w XR p):=by
 refine Yr Tryz.func128 Z Tryz.results128 Tryz.ntmps128 Z ?_
 focus
  refine Vr<|Uj Z<|Vp<|Vr<|Un (XSl 3 XInt) Z Sk Jw ?_;rintro b1 w1 H1 b1lt E1 O1;refine Uj Z<|Vp<|Vt<|Vr<|Yj v Z<|Ys Jm Z h<|Vz Z<|Vp<|Yb ?_
 refine Xt [3,5,9,10,11,12,13,14,15,16,17,18,19] (fun ((k,u):Nat × Value)=>[(9,.int .i64 (k:Nat)),(3,u)]) (fun (k,u) w'=>Ext w w'∧k≤p.length∧Owned w.heap.size XR w' u (p.take k)) (fun x=>p.length - x.1) (0,.slice (some ⟨b1,0,none⟩) 0 0) Kn ?_ ?_
 ·exact ⟨by exact E1,Ja _,by simpa using O1⟩
 clear O1
 rintro ⟨k,u⟩ ρj w2 ⟨E2,hk,O1⟩
 have hlt':(p.take k).length=k:=Kg
 by_cases hlt:k < p.length
 ·have hrl:=hr _ (List.getElem_mem hlt)
  focus
   have:=E2.Z;refine Vr<|Yy Z<|Vp<|Vt<|Vu Z (fun h1=>?_) (fun h1=>?_);refine Vw<|Vt<|Yb<|Vr<|Xv Jm Jw Jz Z (fun _=>Z) Z h E2 Z Km ?_;rintro _ u1 C1;refine Uc u1 Z<|Vp<|Ym<|Yj u Z<|Un XInt Z Rl Ji ?_;rintro b2 w3 H2 b2lt E3 O2;have:=E3.Z;refine Yj u1 Z<|Wo_appS Z Rl Z Z (Ku (E2.K E3) C1) O2.toB Km Kh Kh (E2.K E3) Kh ?_;have T1:=O2.toB;rintro v1 w4 O2 E4 M1;have O1:=(O1.toB.J E3).moves M1 T1 Kh;have:=M1.1.size;refine Qc Z Jm Jw Gq Z (Kx O2.toB) Z ?_;rintro b3 w5 H3 E6 B1 Y3;have:=E6.Z
   refine Ur Z Sk Z Z B1 (O1.J E6) (O2.toB.J E6).o Kh Km Kh Kh (E4.K E6) Kh ?_;rintro v2 w6 O1 E7 M2;refine Uc v2 Z<|Vp<|Ym<|Xf Z<|Vz Z<|Vp ?_;rotate_left;exact Kt
  refine ⟨(k+1,v2),Kn,Ko,?_,?_⟩
  ·refine ⟨by exact E7,Kh,?_⟩
   rw [Ua _ _ hlt]
   exact O1
  ·simp only;omega
 ·obtain rfl:k=p.length:=by omega
  rw [List.take_length] at O1
  focus
   refine Vr<|Yy Z<|Vp<|Vt<|Vv Z fun h1=>?_;refine Xm ?_;refine Yn ?_;refine Vr<|Yj u Z<|Uc u Z<|Vp<|Vy ?_;exact ⟨E2,O1.toB.o.mono Kh⟩
theorem Np (w:World) (u1 u2:Value) (now:List (List Int)) (past:List (List (List Int))) (h1:ESl Ints w u1 now) (h2:ESl (ESl Ints) w u2 past) (hn:now.length≤100∧∀ r ∈ now,r.length≤100) (hpl:past.length≤100) (hp : ∀ p ∈ past,p.length≤100∧∀ r ∈ p,r.length≤100) :
  Dz 77 [.agg #[u1,u2]] w (RetDk w 23 88 3 now past):=by
 have V1:isCell u1=true:=Qy h1
 have V2:isCell u2=true:=Qy h2
 have k1 : ∀ (w:World) (v:Value),ESl Ints w v now→Dz 128 [v] w (RetO w XR now):=fun w v h=>copyRowsI_ok w v now h hn.1 hn.2
 have k2 : ∀ (k:Nat) (hk:k < past.length) (w:World) (v:Value),ESl Ints w v past[k]→Dz 128 [v] w (RetO w XR past[k]):=fun k hk w v h=>copyRowsI_ok w v _ h (hp _ (List.getElem_mem hk)).1 (hp _ (List.getElem_mem hk)).2
 refine fn_of_Wc Tryz.func77 Z Tryz.results77 Tryz.ntmps77 Z Jq Jj ?_
 focus
  refine Vr<|Xu Z Z Z ?_;rintro b1 w1 H1 E1 B1;have:=B1.lt;refine Xk Z Ug ?_;rintro b2 w2 H2 E2 B2;have:=B2.lt;have:=E2.Z;refine Vp<|Vr<|Yl Jt Jx Z<|Xw u1 Ju (B1.J E2) Z<|Vs Z (Xh (a:=u1) Tryz.call128 Z) (k1 _ _ (Ku exq h1)) ?_;rintro u3 w3 ⟨E3,O1⟩;have ichO1:=Kx (Je O1);have:=E3.Z;refine Wo Z (opv_buildF0 Ug Z (Kx O1.toB))<|Xk Z Ug ?_;rintro b3 w4 H3 E4 B3;have:=B3.lt;have:=E4.Z;refine Uu Z Jj Z Z Kl Kl B3 Kh (((E1.K E2).K E3).K E4) ?_;rintro w5 E5 B3 K1 Z1;have E6:=((E2.K E3).K E4).A exq E5 K1 Z1 Kh;have:=E6.Z
  have E7:=(E3.K E4).A exq E5 K1 Z1 Kh;have:=E7.Z;have E8:=E4.A exq E5 K1 Z1 Kh;simp only [List.set] at B3;have B1:=(B1.J exq).Y (K1 _ Kh);have B2:=(B2.J exq).Y (K1 _ Kh);have O1:=(O1.toB.J E4).W K1 Kh;refine Vp<|Vt<|Vr<|Yl Jt Ga Z<|Xw u2 Gd B1 Z<|Ys Gc Z h2<|Vz Z<|Vp<|Yb ?_
 have O0:Owned w4.heap.size (XSl 23 XR) w5 (.slice none 0 0) ([]:List (List (List Int))):=Owned.nil
 have hN:=O1
 clear O1 B1 B2 k1
 refine Xt [5,13,14,15,16,17,18,19,20,21,22,23,24] (fun ((k,u):Nat × Value)=>[(13,.int .i64 (k:Nat))]) (fun (k,u) w'=>Ext w3 w'∧k≤past.length∧w4.heap.size≤w'.heap.size∧Blk w' b3 [u3,u]∧Owned w4.heap.size (XSl 23 XR) w' u (past.take k)∧OwnedB w2.heap.size w3.heap.size XR w' u3 now) (fun x=>past.length - x.1) (0,.slice none 0 0) Kn ?_ ?_
 ·exact ⟨by exact E8,Ja _,Kh,B3,by simpa using O0,hN⟩
 clear O0 B3 hN
 rintro ⟨k,u⟩ ρj w6 ⟨E6,hk,hsz,B4,O1,hN⟩
 have icu:isCell u=true:=Kx O1.toB
 have hlt':(past.take k).length=k:=Kg
 by_cases hlt:k < past.length
 ·have k2k:=k2 k hlt
  have ht:=Ua _ _ hlt
  have heldS:w=w:=rfl
  focus
   have:=E5.Z;have:=E4.Z;refine Vt<|Ym<|Yy Z<|Vp<|Vt<|Vu Z (fun h3=>?_) (fun h3=>?_);refine Vw<|Vt<|Yb<|Vt<|Ym<|Xv Gc Jx Ju Z (fun _=>Z) Z h2 exq Z Km ?_;rintro _ u4 C1;refine Uc u4 Z<|Vp<|Rm (fun w'=>Ext w w') mixed Z Ki ?_;intro w7 E9 K2 Z2;have:=E9.Z;refine Sw 0 Jt Ga Z Z exq<|WtmV 2 u4 Z Z exq<|Wha [1,3]<|Yg Z ?_ ?_;refine Xw u Gd (B4.J E9) Z<|Wnx exq<|Wha [3]<|Wh1 Z<|Vs Z (Xh (a:=u4) Tryz.call128 Z) (k2k _ _ (Ku exq C1)) ?_;rintro u5 w8 ⟨E10,O2⟩;have:=E10.Z
   refine Wnx exq<|Wha [4]<|Wh1 Z<|Qc Z Gc Jx Ze Z (Kx O2.toB) Z ?_;rintro b4 w9 H4 E11 B5 Y4;have:=B5.lt;have:=E11.Z;refine Wnx exq<|Wha [5]<|Wh1 Z<|Ur Z el24 Z Z B5 (O1.toB.J ((E9.K E10).K E11)) (O2.toB.J E11).o Kh Km Kh Kh ((((((E1.K E2).K E3).K E6).K E9).K E10).K E11) Kh ?_;have T1:=(O1.toB.J ((E9.K E10).K E11));rintro v1 w10 O1 E12 M1;have E15:=M1.J T1 (((E6.K E9).K E10).K E11) Kh;have B4:=(B4.J exq).moves M1 T1 Kh;have hN:=(hN.J exq).moves M1 T1 Kh;have:=M1.1.size
   refine Wnx E12<|Sw 6 Jt Ga Z Z E12<|Wha [7]<|Wh1 Z<|Um (v:=v1) Z Ga Z Z (Kx O1.toB) B4 Kp Kh E12 ?_;rintro w11 E16 B4 K3 Z3;have E19:=E15.A E12 E16 K3 Z3 Kh;simp only [List.set] at B4;have O1:=O1.toB.W K3 Kh;have hN:=hN.W K3 Kh;refine Wnx E16<|Yp Ki ?_;refine Ym<|Xf Z<|Vz Z<|Vp ?_;rotate_left;refine Wh1 Z<|Vs Z (Xh (a:=u4) Tryz.call128 Z) (k2k _ _ (Ku exq C1)) ?_;rintro u5 w8 ⟨E10,O2⟩;have:=E10.Z;refine Wnx exq<|Wha [1,4]<|Yg Z ?_ ?_;refine Xw u Gd (B4.J exq) Z<|Wnx exq<|Wha [4]<|Wh1 Z<|Qc Z Gc Jx Ze Z (Kx O2.toB) Z ?_;rintro b4 w9 H4 E11 B5 Y4
   have:=B5.lt;have:=E11.Z;refine Wnx exq<|Wha [5]<|Wh1 Z<|Ur Z el24 Z Z B5 (O1.toB.J ((E9.K E10).K E11)) (O2.toB.J E11).o Kh Km Kh Kh ((((((E1.K E2).K E3).K E6).K E9).K E10).K E11) Kh ?_;have T1:=(O1.toB.J ((E9.K E10).K E11));rintro v1 w10 O1 E12 M1;have E15:=M1.J T1 (((E6.K E9).K E10).K E11) Kh;have B4:=(B4.J exq).moves M1 T1 Kh;have hN:=(hN.J exq).moves M1 T1 Kh;have:=M1.1.size;refine Wnx E12<|Sw 6 Jt Ga Z Z E12<|Wha [7]<|Wh1 Z<|Um (v:=v1) Z Ga Z Z (Kx O1.toB) B4 Kp Kh E12 ?_;rintro w11 E16 B4 K3 Z3;have E19:=E15.A E12 E16 K3 Z3 Kh;simp only [List.set] at B4
   have O1:=O1.toB.W K3 Kh;have hN:=hN.W K3 Kh;refine Wnx E16<|Yp Ki ?_;refine Ym<|Xf Z<|Vz Z<|Vp ?_;rotate_left;refine Wh1 Z<|Qc Z Gc Jx Ze Z (Kx O2.toB) Z ?_;rintro b4 w9 H4 E11 B5 Y4;have:=B5.lt;have:=E11.Z;refine Wnx exq<|Wha [1]<|Wh1 Z<|Xw u Gd (B4.J exq) Z<|Wnx exq<|Wha [5]<|Wh1 Z<|Ur Z el24 Z Z B5 (O1.toB.J ((E9.K E10).K E11)) (O2.toB.J E11).o Kh Km Kh Kh ((((((E1.K E2).K E3).K E6).K E9).K E10).K E11) Kh ?_;have T1:=(O1.toB.J ((E9.K E10).K E11));rintro v1 w10 O1 E12 M1;have E15:=M1.J T1 (((E6.K E9).K E10).K E11) Kh
   have B4:=(B4.J exq).moves M1 T1 Kh;have hN:=(hN.J exq).moves M1 T1 Kh;have:=M1.1.size;refine Wnx E12<|Sw 6 Jt Ga Z Z E12<|Wha [7]<|Wh1 Z<|Um (v:=v1) Z Ga Z Z (Kx O1.toB) B4 Kp Kh E12 ?_;rintro w11 E16 B4 K3 Z3;have E19:=E15.A E12 E16 K3 Z3 Kh;simp only [List.set] at B4;have O1:=O1.toB.W K3 Kh;have hN:=hN.W K3 Kh;refine Wnx E16<|Yp Ki ?_;refine Ym<|Xf Z<|Vz Z<|Vp ?_;rotate_left;exact Kt
  all_goals first
   | (refine ⟨(k + 1, v1), Kn, Ko, ?_, Kq⟩
      refine ⟨Kk, Kh, Kh, B4, ?_, hN⟩
      rw [ht]; exact O1.o)
 ·obtain rfl:k=past.length:=by omega
  rw [List.take_length] at O1
  focus
   have:=E6.Z;have:=E4.Z;refine Vt<|Ym<|Yy Z<|Vp<|Vt<|Vv Z fun h3=>?_;refine Xm ?_;refine Yn ?_;refine Vt<|Ym<|Uh Jq Jj B4 Z<|Uu Z Jj Z Z Kl Kl (B2.J (E3.K E6)) Kh (((E1.K E2).K E3).K E6) ?_;rintro w7 E9 B2 K2 Z2;have hN:=hN.W K2 Kh;have O1:=O1.toB.W K2 Kh;refine Vp<|Vy ?_
  refine ⟨b2,u3,u,Z,Kk,u3,u,w3.heap.size,Z,by exact E9,?_,O1.o.mono Kh,Kh,Kh⟩
  exact hN.wide Kh (Kz _)
theorem Tu (w:World) (v:Value) (p:List (List Int)) (h:ESl Ints w v p) (hp:Gr p) (a:Nat) (ha:a < p.length):Dz 119 [v,.int .i64 (a:Int)] w (RetO w XI (ints (arr p a))):=by
 have hle:=h.le
 have I5:=hp.2.1
 have hrow:=hp.row ha
 have har:arr p a=(List.range p.length).filter fun j=>decide (p[a].getD j 0=1):=by unfold arr arrR;rw [Xl ha,hrow]
 refine Yr Tryz.func119 Z Tryz.results119 Tryz.ntmps119 Z ?_
 focus
  refine Vr<|Uj Z<|Vp<|Vr<|Un XInt Z Rl Ji ?_;rintro b1 w1 H1 b1lt E1 O1;refine Uj Z<|Vp<|Vt<|Vr<|Yx Z<|Vp<|Yb ?_
 refine Xt [5,6,8,9,10,11,12,13,14,15,16,17,18,19,20,21,22,23,24,25] (fun ((k,u):Nat × Value)=>[(6,.int .i64 (k:Nat)),(5,u)]) (fun (k,u) w'=>Ext w w'∧k≤p.length∧Owned w.heap.size XI w' u (ints ((List.range k).filter fun j=>decide (p[a].getD j 0=1)))) (fun x=>p.length - x.1) (0,.slice (some ⟨b1,0,none⟩) 0 0) Kn ?_ ?_
 ·exact ⟨by exact E1,Ja _,O1⟩
 clear O1
 rintro ⟨k,u⟩ ρj w2 ⟨E2,hk,O1⟩
 have hfl:(ints ((List.range k).filter fun j=>decide (p[a].getD j 0=1))).length≤11:=by
  rw [Ul];exact Jd (List.length_filter_le _ _) (by rw [List.length_range];omega)
 by_cases hlt:k < p.length
 ·have hg:p[a].getD k 0=p[a][k]:=Xl Kh
  by_cases hc:p[a][k]=1
  ·focus
    have:=E2.Z;refine Vt<|Vr<|Vz Z<|Yj v Z<|Ys Jm Z h<|Yy Z<|Vp<|Vu Z (fun h1=>?_) (fun h1=>?_);refine Vw<|Vt<|Yb<|Vt<|Ym<|Yj v Z<|Vz Z<|Xv Jm Jw Jz Z (fun _=>Z) Z h E2 Z Km ?_;rintro _ u1 C1;refine Vz Z<|Xv Jl Ji Jk Z (fun _=>Z) Z C1 E2 Z Km ?_;rintro _ _ rfl;refine Yo Z<|Vp<|Vu Z (fun h2=>?_) (fun h2=>?_);refine Ym<|Yj u Z<|Vz Z<|Xg (ps:=[(0,.int _ _)]) (cs:=[_]) Z Jl Ji Gf Z Z Z Z ?_;rintro b2 w3 H2 E3 B1 Y2;have:=E3.Z
    refine Ur Z Rl Z Z B1 (O1.toB.J E3) Owned.int (Kz _) Km Kh Kh (E2.K E3) Kh ?_;rintro v1 w4 O1 E4 M1;refine Uc v1 Z<|Vp<|Ym<|Vz Z<|Xf Z<|Yx Z<|Vp ?_;rotate_left;exact Ks;exact Kt
   refine ⟨(k+1,v1),Kn,Ko,?_,?_⟩
   ·refine ⟨by exact E4,Kh,?_⟩
    rw [Qb,hg,decide_eq_true hc,ints_append]
    exact O1
   ·simp only;omega
  ·focus
    refine Vt<|Vr<|Vz Z<|Yj v Z<|Ys Jm Z h<|Yy Z<|Vp<|Vu Z (fun h1=>?_) (fun h1=>?_);refine Vw<|Vt<|Yb<|Vt<|Ym<|Yj v Z<|Vz Z<|Xv Jm Jw Jz Z (fun _=>Z) Z h E2 Z Km ?_;rintro _ u1 C1;refine Vz Z<|Xv Jl Ji Jk Z (fun _=>Z) Z C1 E2 Z Km ?_;rintro _ _ rfl;refine Yo Z<|Vp<|Yt Z fun h2=>?_;refine Vw<|Ym<|Vz Z<|Xf Z<|Yx Z<|Vp ?_;rotate_left;exact Kt
   refine ⟨(k+1,u),Kn,Ko,?_,?_⟩
   ·refine ⟨by exact E2,Kh,?_⟩
    rw [Qb,hg,decide_eq_false hc]
    simp only [Bool.false_eq_true,if_false,List.append_nil]
    exact O1
   ·simp only;omega
 ·obtain rfl:k=p.length:=by omega
  focus
   refine Vt<|Vr<|Vz Z<|Yj v Z<|Ys Jm Z h<|Yy Z<|Vp<|Vv Z fun h1=>?_;refine Xm ?_;refine Yn ?_;refine Vt<|Ym<|Yj u Z<|Uc u Z<|Vp<|Vy ?_;refine ⟨E2,(congrArg (Owned _ _ _ _) ?_).mp (O1.toB.o.mono Kh)⟩
  rw [har]
open Classical in
theorem Tq (w:World) (v u:Value) (p q:List (List Int)) (h:ESl Ints w v p) (h':ESl Ints w u q) (a b:Int) (ha:Nod p a) (hb:Nod q b):Dz 121 [v,.int .i64 a,u,.int .i64 b] w (Ret w (.bool (decide (Bis p a.toNat q b.toNat)))):=by
 have la:a.toNat < p.length:=by have:=ha.2;omega
 have lb:b.toNat < q.length:=by have:=hb.2;omega
 have hx:=lst_pic ha.1 la
 have hy:=lst_pic hb.1 lb
 have hx1:=hx.1
 have k1 : ∀ (w:World) (v:Value),ESl Ints w v p→Dz 126 [v,.int .i64 a] w (RetO w XR (lst p a.toNat)):=fun w v h=>by
  have:=Tg w v p h a
  rwa [if_pos ha] at this
 have k2 : ∀ (w:World) (v:Value),ESl Ints w v q→Dz 126 [v,.int .i64 b] w (RetO w XR (lst q b.toNat)):=fun w v h=>by
  have:=Tg w v q h b
  rwa [if_pos hb] at this
 have k3 : ∀ (w:World) (v:Value),ESl Ints w v (lst p a.toNat)→Dz 62 [v] w (Ret w (str (txt (lst p a.toNat)))):=fun w v h=>by
  have:=Qk w v _ h
  rwa [if_pos hx] at this
 have k4 : ∀ (w:World) (v:Value),ESl Ints w v (lst q b.toNat)→Dz 62 [v] w (Ret w (str (txt (lst q b.toNat)))):=fun w v h=>by
  have:=Qk w v _ h
  rwa [if_pos hy] at this
 have key:(lst p a.toNat=lst q b.toNat)↔Bis p a.toNat q b.toNat:=lst_same ha.1.gr hb.1.gr la lb
 have key2:txt (lst p a.toNat)=txt (lst q b.toNat)→lst p a.toNat=lst q b.toNat:=txt_inj hx.gr hy.gr
 refine Yr Tryz.func121 Z Tryz.results121 Tryz.ntmps121 Z ?_
 generalize lst p a.toNat=x at *
 generalize lst q b.toNat=y at *
 focus
  refine Vr<|Ya Z<|Vp<|Vr<|Yj v Z<|Vz Z<|Vs Z (Xa (a:=v) (b:=.int _ _) Zj Z Z) (k1 _ _ (h)) ?_;rintro u1 w1 ⟨E1,O1⟩;refine Uc u1 Z<|Vp<|Vr<|Yj u Z<|Vz Z<|Vs Z (Xa (a:=u) (b:=.int _ _) Zj Z Z) (k2 _ _ (Ku E1 h')) ?_;rintro u2 w2 ⟨E2,O2⟩;refine Uc u2 Z<|Vp<|Vt<|Ym<|Yj u1 Z<|Ys Jm Z (Kv O1)<|Qo Z<|Xi Z (fun h1=>?_) (fun h1=>?_);refine Yj u1 Z<|Ys Jm Z (Kv O1)<|Yj u2 Z<|Ys Jm Z (Kv O2)<|Yo Z<|Xy Z<|Xi Z (fun h2=>?_) (fun h2=>?_);refine Yj u1 Z<|Vs Z (Xh (a:=u1) Gi Z) (k3 _ _ ((Ku E2 (Kv O1)))) ?_;rintro _ w3 ⟨rfl,E3⟩
  refine Yj u2 Z<|Vs Z (Xh (a:=u2) Gi Z) (k4 _ _ ((Ku E3 (Kv O2)))) ?_;rintro _ w4 ⟨rfl,E4⟩;refine Wo Z (Yi Z Z)<|Xy Z<|Ya Z<|Vp<|Vy ?_;refine Yh (v:=.bool _) Z ?_;refine ⟨congrArg Value.bool ?_,exq⟩;rotate_left;refine Vq Z<|Vq Z<|Vq Z<|Vq Z<|Vq Z<|Xb Z<|Ya Z<|Vp<|Vy ?_;refine Yh (v:=.bool _) Z ?_;refine ⟨congrArg Value.bool ?_,exq⟩;rotate_left;exact Kt
 ·exact decide_eq_decide.2 ⟨fun e=>key.1 (key2 e),fun e=>by rw [key.2 e]⟩
 ·exact (Jc fun hb=>by have e:=congrArg List.length (key.2 hb);omega).symm
open Classical in
theorem Nh (w:World) (v:Value) (p:List (List Int)) (h:ESl Ints w v p):Dz 73 [v] w (Ret w (.bool (decide (LeastP p)))):=by
 have hle:=h.le
 by_cases hp:Pic p
 ·have hn:Nod p 0:=⟨hp,Kh,by have:=hp.1;omega⟩
  have hx:=lst_pic hp (a:=0) (by have:=hp.1;omega)
  have hx1:=hx.1
  have k1 : ∀ (w:World) (v:Value),ESl Ints w v p→Dz 126 [v,.int .i64 0] w (RetO w XR (lst p 0)):=fun w v h=>by
   have:=Tg w v p h 0
   rwa [if_pos hn] at this
  have k3 : ∀ (w:World) (v:Value),ESl Ints w v (lst p 0)→Dz 62 [v] w (Ret w (str (txt (lst p 0)))):=fun w v h=>by
   have:=Qk w v _ h
   rwa [if_pos hx] at this
  have k4 : ∀ (w:World) (v:Value),ESl Ints w v p→Dz 62 [v] w (Ret w (str (txt p))):=fun w v h=>by
   have:=Qk w v _ h
   rwa [if_pos hp] at this
  refine Yr Tryz.func73 Z Tryz.results73 Tryz.ntmps73 Z ?_
  have key:LeastP p↔lst p 0=p:=⟨fun h=>h.2,fun h=>⟨hp,h⟩⟩
  have key2:txt (lst p 0)=txt p→lst p 0=p:=txt_inj hx.gr hp.gr
  generalize lst p 0=x at *
  focus
   refine Vr<|Ya Z<|Vp<|Vr<|Yj v Z<|Vs Z (Xa (a:=v) (b:=.int _ _) Zj Z Z) (k1 _ _ (h)) ?_;rintro u1 w1 ⟨E1,O1⟩;refine Uc u1 Z<|Vp<|Vt<|Ym<|Yj u1 Z<|Ys Jm Z (Kv O1)<|Qo Z<|Xi Z (fun h1=>?_) (fun h1=>?_);refine Yj u1 Z<|Ys Jm Z (Kv O1)<|Yj v Z<|Ys Jm Z h<|Yo Z<|Xy Z<|Xi Z (fun h2=>?_) (fun h2=>?_);refine Yj u1 Z<|Vs Z (Xh (a:=u1) Gi Z) (k3 _ _ (Kv O1)) ?_;rintro _ w2 ⟨rfl,E2⟩;refine Yj v Z<|Vs Z (Xh (a:=v) Gi Z) (k4 _ _ (Ku exq h)) ?_;rintro _ w3 ⟨rfl,E3⟩;refine Wo Z (Yi Z Z)<|Xy Z<|Ya Z<|Vp<|Vy ?_;refine Yh (v:=.bool _) Z ?_
   refine ⟨congrArg Value.bool ?_,exq⟩;rotate_left;refine Vq Z<|Vq Z<|Vq Z<|Vq Z<|Vq Z<|Xb Z<|Ya Z<|Vp<|Vy ?_;refine Yh (v:=.bool _) Z ?_;refine ⟨congrArg Value.bool ?_,E1⟩;rotate_left;exact Kt
  ·exact decide_eq_decide.2 ⟨fun e=>key.2 (key2 e),fun e=>by rw [key.1 e]⟩
  ·exact (Jc fun hb=>by have e:=congrArg List.length (key.1 hb);omega).symm
 ·have hn : ¬Nod p 0:=fun h=>hp h.1
  have k1 : ∀ (w:World) (v:Value),ESl Ints w v p→Dz 126 [v,.int .i64 0] w (RetO w XR []):=fun w v h=>by
   have:=Tg w v p h 0
   rwa [if_neg hn] at this
  have hnil:(([]:List (List Int)).length:Int)=0:=rfl
  refine Yr Tryz.func73 Z Tryz.results73 Tryz.ntmps73 Z ?_
  focus
   refine Vr<|Ya Z<|Vp<|Vr<|Yj v Z<|Vs Z (Xa (a:=v) (b:=.int _ _) Zj Z Z) (k1 _ _ (h)) ?_;rintro u1 w1 ⟨E1,O1⟩;refine Uc u1 Z<|Vp<|Vt<|Ym<|Yj u1 Z<|Ys Jm Z (Kv O1)<|Qo Z<|Ui Z fun h1=>?_;refine Vq Z<|Vq Z<|Vq Z<|Vq Z<|Vq Z<|Xb Z<|Xp Z<|Vq Z<|Vq Z<|Vq Z<|Vq Z<|Vq Z<|Xb Z<|Ya Z<|Vp<|Vy ?_;refine Yh (v:=.bool _) Z ?_;refine ⟨congrArg Value.bool ?_,E1⟩
  exact (Jc fun hb=>hp hb.1).symm
open Classical in
theorem Sa (w:World) (u1 u2:Value) (d:Dsk) (h1:ESl Ints w u1 d.now) (h2:ESl (ESl Ints) w u2 d.past):Dz 16 [.agg #[u1,u2]] w (Ret w (.bool (decide (DkOk d)))):=by
 obtain ⟨p,pp⟩:=d
 have hle:=h2.le
 simp only at h1 h2 hle
 have V1:isCell u1=true:=by obtain ⟨_,_,rfl,_⟩:=h1;rfl
 have V2:isCell u2=true:=by obtain ⟨_,_,rfl,_⟩:=h2;rfl
 refine Yr Tryz.func16 Z Tryz.results16 Tryz.ntmps16 Z ?_
 focus
  refine Vr<|Xu Z Z Z ?_;rintro b1 w1 H1 E1 B1;refine Ya Z<|Vp<|Vt<|Vr<|Yx Z<|Vp<|Yb ?_
 refine Xt [2,3,4,5,6,7,8,9,10,11,12,13,14,15,16,17] (fun (k:Nat)=>[(3,.int .i64 (k:Nat))]) (fun k w'=>Ext w1 w'∧k≤pp.length∧∀ q ∈ pp.take k,LeastP q) (fun x=>pp.length - x) 0 Kn ?_ ?_
 ·exact ⟨Jf _,Ja _,Kp⟩
 rintro k ρj w2 ⟨E2,hk,hall⟩
 by_cases hlt:k < pp.length
 ·by_cases hq:LeastP pp[k]
  ·have kq : ∀ (w:World) (v:Value),ESl Ints w v pp[k]→Dz 73 [v] w (Ret w (.bool true)):=fun w v h=>by
    have:=Nh w v _ h
    rwa [decide_eq_true hq] at this
   focus
    refine Vt<|Vr<|Vz Z<|Yl Jt Ga Z<|Xw u2 Gd (B1.J E2) Z<|Ys Gc Z h2<|Yy Z<|Vp<|Vu Z (fun h3=>?_) (fun h3=>?_);refine Vw<|Vt<|Yb<|Vr<|Yl Jt Ga Z<|Xw u2 Gd (B1.J E2) Z<|Vz Z<|Xv Gc Jx Ju Z (fun _=>Z) Z h2 exq Z Km ?_;rintro _ u3 C1;refine Vs Z (Xh (a:=u3) Zz Z) (kq _ _ (Ku exq C1)) ?_;rintro _ w3 ⟨rfl,E3⟩;refine Xz Z<|Vp<|Uk Z fun h4=>?_;refine Vw<|Ym<|Vz Z<|Xf Z<|Yx Z<|Vp ?_;rotate_left;exact Kt
   refine ⟨(k+1),Kn,Ko,?_,?_⟩
   ·refine ⟨by exact (E2.K E3),Kh,fun q hq'=>?_⟩
    rw [Ua _ _ hlt] at hq'
    rcases List.mem_append.1 hq' with h | h
    ·exact hall q h
    ·rw [List.mem_singleton.1 h];exact hq
   ·omega
  ·have kq : ∀ (w:World) (v:Value),ESl Ints w v pp[k]→Dz 73 [v] w (Ret w (.bool false)):=fun w v h=>by
    have:=Nh w v _ h
    rwa [decide_eq_false hq] at this
   focus
    refine Vt<|Vr<|Vz Z<|Yl Jt Ga Z<|Xw u2 Gd (B1.J E2) Z<|Ys Gc Z h2<|Yy Z<|Vp<|Vu Z (fun h3=>?_) (fun h3=>?_);refine Vw<|Vt<|Yb<|Vr<|Yl Jt Ga Z<|Xw u2 Gd (B1.J E2) Z<|Vz Z<|Xv Gc Jx Ju Z (fun _=>Z) Z h2 exq Z Km ?_;rintro _ u3 C1;refine Vs Z (Xh (a:=u3) Zz Z) (kq _ _ (Ku exq C1)) ?_;rintro _ w3 ⟨rfl,E3⟩;refine Xz Z<|Vp<|Up Z (fun h4=>?_) (fun h4=>?_);refine Vr<|Ya Z<|Vp<|Vy ?_;refine Yh (v:=.bool _) Z ?_;refine ⟨congrArg Value.bool ?_,exq⟩;rotate_left;exact Ks;exact Kt
   exact (Jc fun h=>hq (h.2.2 _ (List.getElem_mem hlt))).symm
 ·obtain rfl:k=pp.length:=by omega
  rw [List.take_length] at hall
  by_cases hq:LeastP p
  ·have kq : ∀ (w:World) (v:Value),ESl Ints w v p→Dz 73 [v] w (Ret w (.bool true)):=fun w v h=>by
    have:=Nh w v _ h
    rwa [decide_eq_true hq] at this
   focus
    refine Vt<|Vr<|Vz Z<|Yl Jt Ga Z<|Xw u2 Gd (B1.J E2) Z<|Ys Gc Z h2<|Yy Z<|Vp<|Vv Z fun h3=>?_;refine Xm ?_;refine Yn ?_;refine Vr<|Yl Jt Jx Z<|Xw u1 Ju (B1.J E2) Z<|Vs Z (Xh (a:=u1) Zz Z) (kq _ _ (Ku exq h1)) ?_;rintro _ w3 ⟨rfl,E3⟩;refine Xp Z<|Yl Jt Ga Z<|Xw u2 Gd (B1.J exq) Z<|Ys Gc Z h2<|Wsleq Z<|Xy Z<|Ya Z<|Vp<|Vy ?_;refine Yh (v:=.bool _) Z ?_;refine ⟨congrArg Value.bool ?_,exq⟩
   exact decide_eq_decide.2 ⟨fun h=>⟨hq,show pp.length≤8 by omega,hall⟩,fun h=>by have:pp.length≤8:=h.2.1;omega⟩
  ·have kq : ∀ (w:World) (v:Value),ESl Ints w v p→Dz 73 [v] w (Ret w (.bool false)):=fun w v h=>by
    have:=Nh w v _ h
    rwa [decide_eq_false hq] at this
   focus
    refine Vt<|Vr<|Vz Z<|Yl Jt Ga Z<|Xw u2 Gd (B1.J E2) Z<|Ys Gc Z h2<|Yy Z<|Vp<|Vv Z fun h3=>?_;refine Xm ?_;refine Yn ?_;refine Vr<|Yl Jt Jx Z<|Xw u1 Ju (B1.J E2) Z<|Vs Z (Xh (a:=u1) Zz Z) (kq _ _ (Ku exq h1)) ?_;rintro _ w3 ⟨rfl,E3⟩;refine Xp Z<|Vq Z<|Vq Z<|Vq Z<|Vq Z<|Xb Z<|Ya Z<|Vp<|Vy ?_;refine Yh (v:=.bool _) Z ?_;refine ⟨congrArg Value.bool ?_,exq⟩
   exact (Jc fun h=>hq h.1).symm
theorem EqualI_ok (w:World) (v u:Value) (xs ys:List Int) (h:Ints w v xs) (h':Ints w u ys):Dz 140 [v,u] w (Ret w (.bool (decide (xs=ys)))):=by
 have hle:=h.le
 have hle':=h'.le
 refine Yr Tryz.func140 Z Tryz.results140 Tryz.ntmps140 Z ?_
 focus
  refine Vr<|Ya Z<|Vp<|Vt<|Vr<|Yj v Z<|Ys Jl Z h<|Yj u Z<|Ys Jl Z h'<|Qg Z<|Vp<|Xn Z (fun h1=>?_) (fun h1=>?_);refine Vr<|Ya Z<|Vp<|Vy ?_;refine Yh (v:=.bool _) Z ?_;refine ⟨congrArg Value.bool ?_,(Jf _)⟩;rotate_left;refine Vw<|Vt<|Vr<|Yj v Z<|Ys Jl Z h<|Vz Z<|Vp<|Yb ?_;rotate_left
 ·exact (Jc (fun e=>by subst e;omega)).symm
 refine Xt [4,5,13,14,15,16,17,18,19,20,21,22,23,24,25] (fun (k:Nat)=>[(13,.int .i64 (k:Nat))]) (fun k w'=>Ext w w'∧k≤xs.length∧xs.take k=ys.take k) (fun x=>xs.length - x) 0 Kn ?_ ?_
 ·exact ⟨Jf _,Ja _,Kp⟩
 rintro k ρj w1 ⟨E1,hk,he⟩
 focus
  refine Vr<|Yy Z<|Vp<|Vt<|Vu Z (fun h2=>?_) (fun h2=>?_);refine Vw<|Vt<|Yb<|Vr<|Vz Z<|Yx Z<|Vp<|Vt<|Qe mixed Ki Z ?_;refine Sb v Z<|Sv Z<|Qf Jl Ji Jk Z (fun _=>Z) Z h E1 Z Km ?_;rintro _ _ rfl;refine Sb u Z<|Sv Z<|Qf Jl Ji Jk Z (fun _=>Z) Z h' E1 Z Km ?_;rintro _ _ rfl;refine Wqneq Z<|Ux (fun w2 E2=>?_);refine Xn Z (fun h3=>?_) (fun h3=>?_);refine Vr<|Ya Z<|Vp<|Vy ?_;refine Yh (v:=.bool _) Z ?_;refine ⟨congrArg Value.bool ?_,exq⟩;rotate_left;refine Vw<|Ym<|Xf Z<|Vz Z<|Vp ?_;rotate_left;refine Xm ?_
  refine Yn ?_;refine Vr<|Ya Z<|Vp<|Vy ?_;refine Yh (v:=.bool _) Z ?_;refine ⟨congrArg Value.bool ?_,E1⟩;rotate_left
 ·exact (Jc (ne_at (k:=k) Kh Kh Kk)).symm
 ·refine ⟨(k+1),Kn,Ko,?_,?_⟩
  ·exact ⟨E1.K E2,Kh,(Tz Kh Kh).2 ⟨he,Kk⟩⟩
  ·omega
 ·obtain rfl:k=xs.length:=by omega
  exact (Jb (ext_take Kh he)).symm
theorem Lp (w:World) (v u:Value) (xs ys:List (List Int)) (h:ESl Ints w v xs) (h':ESl Ints w u ys) (hc : ∀ args w,Sem.run Tryz.prog (callFunc 140 args) w=.ok (.enter 140 args) w) :
  Dz 139 [v,u,.func (.func 140) [].toArray [].toArray] w (Ret w (.bool (decide (xs=ys)))):=by
 have hle:=h.le
 have hle':=h'.le
 refine Yr Tryz.func139 Z Tryz.results139 Tryz.ntmps139 Z ?_
 focus
  refine Vr<|Ya Z<|Vp<|Vt<|Vr<|Yj v Z<|Ys Jm Z h<|Yj u Z<|Ys Jm Z h'<|Qg Z<|Vp<|Xn Z (fun h1=>?_) (fun h1=>?_);refine Vr<|Ya Z<|Vp<|Vy ?_;refine Yh (v:=.bool _) Z ?_;refine ⟨congrArg Value.bool ?_,(Jf _)⟩;rotate_left;refine Vw<|Vt<|Vr<|Yj v Z<|Ys Jm Z h<|Vz Z<|Vp<|Yb ?_;rotate_left
 ·exact (Jc (fun e=>by subst e;omega)).symm
 refine Xt [6,7,8,9,17,18,19,20,21,22,23,24,25,26,27,28,29,30,31] (fun (k:Nat)=>[(17,.int .i64 (k:Nat))]) (fun k w'=>Ext w w'∧k≤xs.length∧xs.take k=ys.take k) (fun x=>xs.length - x) 0 Kn ?_ ?_
 ·exact ⟨Jf _,Ja _,Kp⟩
 rintro k ρj w1 ⟨E1,hk,he⟩
 focus
  refine Vr<|Yy Z<|Vp<|Vt<|Vu Z (fun h2=>?_) (fun h2=>?_);refine Vw<|Vt<|Yb<|Vr<|Vz Z<|Xv Jm Jw Jz Z (fun _=>Z) Z h E1 Z Km ?_;rintro _ u1 C1;refine Yx Z<|Uc u1 Z<|Vp<|Vr<|Yj u Z<|Vz Z<|Xv Jm Jw Jz Z (fun _=>Z) Z h' E1 Z Km ?_;rintro _ u2 C2;refine Uc u2 Z<|Vp<|Vt<|Ym<|Yj (.func _ _ _) Z<|Yj u1 Z<|Yj u2 Z<|Vs Z (opc_val2 Tryz.call140 Z Z Z) (EqualI_ok _ _ _ _ _ (Ku E1 C1) (Ku E1 C2)) ?_;rintro _ w2 ⟨rfl,E2⟩;refine Xz Z<|Vp<|Xn Z (fun h3=>?_) (fun h3=>?_);refine Vr<|Ya Z<|Vp<|Vy ?_
  refine Yh (v:=.bool _) Z ?_;refine ⟨congrArg Value.bool ?_,exq⟩;rotate_left;refine Vw<|Ym<|Xf Z<|Vz Z<|Vp ?_;rotate_left;refine Xm ?_;refine Yn ?_;refine Vr<|Ya Z<|Vp<|Vy ?_;refine Yh (v:=.bool _) Z ?_;refine ⟨congrArg Value.bool ?_,E1⟩;rotate_left
 ·exact (Jc (ne_at (k:=k) Kh Kh Kk)).symm
 ·refine ⟨(k+1),Kn,Ko,?_,?_⟩
  ·exact ⟨E1.K E2,Kh,(Tz Kh Kh).2 ⟨he,Kk⟩⟩
  ·omega
 ·obtain rfl:k=xs.length:=by omega
  exact (Jb (ext_take Kh he)).symm
theorem IndexFuncP_ok (w:World) (v:Value) (xs:List (List (List Int))) (h:ESl (ESl Ints) w v xs) (fid:FuncId) (cap:List Value) (g:List (List Int)→Bool) (hc : ∀ args w,Sem.run Tryz.prog (callFunc fid args) w=.ok (.enter fid args) w)
  (hf : ∀ (x:List (List Int)) (u:Value) (w':World),ESl Ints w' u x→Ext w w'→Dz fid (u::cap) w' (Ret w' (.bool (g x)))) :
  Dz 154 [v,.func (.func fid) [].toArray cap.toArray] w (RetX w (Value.int .i64) (fun n _=>(n = -1∧xs.any g=false)∨(0≤n∧xs.any g=true))):=by
 have hle:=h.le
 refine Yr Tryz.func154 Z Tryz.results154 Tryz.ntmps154 Z ?_
 focus
  refine Vr<|Yx Z<|Vp<|Vt<|Vr<|Yj v Z<|Ys Gc Z h<|Vz Z<|Vp<|Yb ?_
 refine Xt [4,5,8,9,10,11,12,13,14,15,16,17,18] (fun (k:Nat)=>[(8,.int .i64 (k:Nat))]) (fun k w'=>Ext w w'∧k≤xs.length∧(xs.take k).any g=false) (fun x=>xs.length - x) 0 Kn ?_ ?_
 ·exact ⟨Jf _,Ja _,Kp⟩
 rintro k ρj w1 ⟨E1,hk,hg⟩
 by_cases hlt:k < xs.length
 ·have hmem:=List.getElem_mem hlt
  have hf':=hf xs[k]
  focus
   refine Vr<|Yy Z<|Vp<|Vt<|Vu Z (fun h1=>?_) (fun h1=>?_);refine Vw<|Vt<|Yb<|Vr<|Vz Z<|Yx Z<|Vp<|Vr<|Yj (.func _ _ _) Z<|Yj v Z<|Vz Z<|Xv Gc Jx Ju Z (fun _=>Z) Z h E1 Z Km ?_;rintro _ u1 C1;refine Vs Z (opc_val1 (a:=u1) Kk Z Z) (hf' _ _ (Ku E1 C1) (E1)) ?_;rintro _ w2 ⟨rfl,E2⟩;refine Vp<|Up Z (fun h2=>?_) (fun h2=>?_);refine Vt<|Ym<|Vz Z<|Yx Z<|Vp<|Vy ?_;refine Yh (v:=.int _ _) Z ?_;refine ⟨exq,_,Z,?_⟩;(try dsimp only);rotate_left;refine Vw<|Ym<|Xf Z<|Vz Z<|Vp ?_;rotate_left;exact Kt
  ·right
   refine ⟨Kh,List.any_eq_true.2 ⟨_,hmem,Kk⟩⟩
  ·refine ⟨(k+1),Kn,Ko,?_,?_⟩
   ·refine ⟨E1.K E2,Kh,?_⟩
    rw [Ua _ _ hlt,List.any_append,hg]
    simpa using by assumption
   ·omega
 ·obtain rfl:k=xs.length:=by omega
  focus
   refine Vr<|Yy Z<|Vp<|Vt<|Vv Z fun h1=>?_;refine Xm ?_;refine Yn ?_;refine Vr<|Yx Z<|Vp<|Vy ?_;refine Yh (v:=.int _ _) Z ?_;refine ⟨E1,_,Z,?_⟩;(try dsimp only)
  exact .inl ⟨rfl,by simpa using hg⟩
theorem ContainsFuncP_ok (w:World) (v:Value) (xs:List (List (List Int))) (h:ESl (ESl Ints) w v xs) (fid:FuncId) (cap:List Value) (g:List (List Int)→Bool) (hc : ∀ args w,Sem.run Tryz.prog (callFunc fid args) w=.ok (.enter fid args) w)
  (hf : ∀ (x:List (List Int)) (u:Value) (w':World),ESl Ints w' u x→Ext w w'→Dz fid (u::cap) w' (Ret w' (.bool (g x)))) :
  Dz 110 [v,.func (.func fid) [].toArray cap.toArray] w (Ret w (.bool (xs.any g))):=by
 have hi:=IndexFuncP_ok w v xs h fid cap g hc hf
 refine Yr Tryz.func110 Z Tryz.results110 Tryz.ntmps110 Z ?_
 focus
  refine Vr<|Ya Z<|Vp<|Vr<|Yj v Z<|Yj (.func _ _ _) Z<|Vs Z (Xa (a:=v) (b:=.func _ _ _) Tryz.call154 Z Z) (hi) ?_;rintro _ w1 ⟨E1,y1,rfl,L1⟩;refine Rs Z<|Ya Z<|Vp<|Vy ?_;refine Yh (v:=.bool _) Z ?_;refine ⟨congrArg Value.bool ?_,E1⟩
 rcases L1 with ⟨rfl,h9⟩ | ⟨h8,h9⟩
 ·rw [h9];rfl
 ·rw [h9];exact Jb h8
open Classical in
theorem isLeast_ok (w:World) (v:Value) (p:List (List Int)) (h:ESl Ints w v p) (hp:Pic p):Dz 109 [v] w (Ret w (.bool (decide (LeastP p)))):=by
 have hl:=lst_pic hp (a:=0) (by have:=hp.1;omega)
 have e:(LeastP p)=(lst p 0=p):=propext ⟨fun h=>h.2,fun h=>⟨hp,h⟩⟩
 have k1 : ∀ (w:World) (v:Value),ESl Ints w v p→Dz 153 [v,.int .i64 0] w (RetOB w XR (lst p 0) true):=fun w v h=>by
  have:=leastOf_ok w v p h hp.gr 0 (by have:=hp.1;omega)
  rwa [if_pos hl.2.1,decide_eq_true hl.2.1] at this
 have k2:=fun (w:World) (v u:Value) (h:ESl Ints w v (lst p 0)) (h':ESl Ints w u p)=>Lp w v u (lst p 0) p h h' Tryz.call140
 rw [show decide (LeastP p)=decide (lst p 0=p) from decide_eq_decide.2 (iff_of_eq e)]
 refine Yr Tryz.func109 Z Tryz.results109 Tryz.ntmps109 Z ?_
 focus
  refine Vr<|Ya Z<|Vp<|Vr<|Yj v Z<|Vs Z (Xa (a:=v) (b:=.int _ _) Tryz.call153 Z Z) (k1 _ _ (h)) ?_;rintro _ w1 ⟨u1,rfl,E1,O1⟩;refine Ut Z<|Ra u1 Z<|Uz Z<|Uc u1 Z<|Ya Z<|Vp<|Vr<|Yj u1 Z<|Yj v Z<|Vs Z (Qq (a:=u1) (b:=v) (c:=.func _ _ _) Tryz.call139 Z Z Z) (k2 _ _ _ (Kv O1) (Ku E1 h)) ?_;rintro _ w2 ⟨rfl,E2⟩;refine Ya Z<|Vp<|Vy ?_;exact ⟨rfl,exq⟩
open Classical in
theorem isDesk1_ok (w:World) (v:Value) (p:List (List Int)) (h:ESl Ints w v p):Dz 111 [v] w (Ret w (.bool (!decide (LeastP p)))):=by
 by_cases hp:Pic p
 ·have k0 : ∀ (w:World) (v:Value),ESl Ints w v p→Dz 78 [v] w (Ret w (.bool true)):=fun w v h=>by
   have:=Nd w v p h;rwa [decide_eq_true hp] at this
  have k1 : ∀ (w:World) (v:Value),ESl Ints w v p→Dz 109 [v] w (Ret w (.bool (decide (LeastP p)))):=fun w v h=>isLeast_ok w v p h hp
  refine Yr Tryz.func111 Z Tryz.results111 Tryz.ntmps111 Z ?_
  focus
   refine Vr<|Ya Z<|Vp<|Vr<|Yj v Z<|Vs Z (Xh (a:=v) Tryz.call78 Z) (k0 _ _ (h)) ?_;rintro _ w1 ⟨rfl,E1⟩;refine Xz Z<|Uf Z (Xj (v:=.bool _) Z) (fun h1=>?_) (fun h1=>?_);exact Ks;refine Yj v Z<|Vs Z (Xh (a:=v) Tryz.call109 Z) (k1 _ _ (Ku E1 h)) ?_;rintro _ w2 ⟨rfl,E2⟩;refine Xz Z<|Xb Z<|Ya Z<|Vp<|Vy ?_;exact ⟨rfl,exq⟩
 ·have hd:decide (LeastP p)=false:=Jc fun h=>hp h.1
  rw [hd]
  have k0 : ∀ (w:World) (v:Value),ESl Ints w v p→Dz 78 [v] w (Ret w (.bool false)):=fun w v h=>by
   have:=Nd w v p h;rwa [decide_eq_false hp] at this
  refine Yr Tryz.func111 Z Tryz.results111 Tryz.ntmps111 Z ?_
  focus
   refine Vr<|Ya Z<|Vp<|Vr<|Yj v Z<|Vs Z (Xh (a:=v) Tryz.call78 Z) (k0 _ _ (h)) ?_;rintro _ w1 ⟨rfl,E1⟩;refine Xz Z<|Uf Z (Xj (v:=.bool _) Z) (fun h1=>?_) (fun h1=>?_);refine Vq Z<|Vq Z<|Vq Z<|Xy Z<|Ya Z<|Vp<|Vy ?_;exact ⟨rfl,E1⟩;exact Ks
open Classical in
theorem isDesk_ok (w:World) (u1 u2:Value) (d:Dsk) (h1:ESl Ints w u1 d.now) (h2:ESl (ESl Ints) w u2 d.past):Dz 58 [.agg #[u1,u2]] w (Ret w (.bool (decide (DkOk d)))):=by
 obtain ⟨p,pp⟩:=d
 have hle:=h2.le
 simp only at h1 h2 hle
 have V1:isCell u1=true:=Qy h1
 have V2:isCell u2=true:=Qy h2
 refine Yr Tryz.func58 Z Tryz.results58 Tryz.ntmps58 Z ?_
 have k2:=fun (w:World) (v:Value) (h:ESl (ESl Ints) w v pp)=>ContainsFuncP_ok w v pp h 111 [] (fun x=>!decide (LeastP x)) Tryz.call111 (fun x u w' h e=>isDesk1_ok w' u x h)
 by_cases hp:Pic p
 ·have k0 : ∀ (w:World) (v:Value),ESl Ints w v p→Dz 78 [v] w (Ret w (.bool true)):=fun w v h=>by
   have:=Nd w v p h;rwa [decide_eq_true hp] at this
  have k1 : ∀ (w:World) (v:Value),ESl Ints w v p→Dz 109 [v] w (Ret w (.bool (decide (LeastP p)))):=fun w v h=>isLeast_ok w v p h hp
  focus
   refine Vr<|Xu Z Z Z ?_;rintro b1 w1 H1 E1 B1;refine Ya Z<|Vp<|Vt<|Vr<|Yl Jt Jx Z<|Xw u1 Ju B1 Z<|Vs Z (Xh (a:=u1) Tryz.call78 Z) (k0 _ _ (Ku E1 h1)) ?_;rintro _ w2 ⟨rfl,E2⟩;refine Xz Z<|Uf Z (Xj (v:=.bool _) Z) (fun h3=>?_) (fun h3=>?_);exact Ks;refine Yl Jt Jx Z<|Xw u1 Ju (B1.J E2) Z<|Vs Z (Xh (a:=u1) Tryz.call109 Z) (k1 _ _ (Ku exq h1)) ?_;rintro _ w3 ⟨rfl,E3⟩;refine Xz Z<|Xb Z<|Qv Z (fun h4=>?_) (fun h4=>?_);refine Vq Z<|Vq Z<|Vq Z<|Vq Z<|Xy Z<|Vp<|Xe Z ?_;refine Vr<|Ya Z<|Vp<|Vy ?_;refine Yh (v:=.bool _) Z ?_;refine ⟨congrArg Value.bool ?_,exq⟩
   rotate_left;refine Yl Jt Ga Z<|Xw u2 Gd (B1.J exq) Z<|Ys Gc Z h2<|Qo Z<|Xb Z<|Vp<|Vu Z (fun h5=>?_) (fun h5=>?_);refine Vr<|Ya Z<|Vp<|Vy ?_;refine Yh (v:=.bool _) Z ?_;refine ⟨congrArg Value.bool ?_,exq⟩;rotate_left;refine Vw<|Vt<|Ym<|Yl Jt Ga Z<|Xw u2 Gd (B1.J exq) Z<|Vs Z (Xa (a:=u2) (b:=.func _ _ _) Tryz.call110 Z Z) (k2 _ _ (Ku exq h2)) ?_;rintro _ w4 ⟨rfl,E4⟩;refine Xz Z<|Ya Z<|Vp<|Vy ?_;refine Yh (v:=.bool _) Z ?_;refine ⟨congrArg Value.bool ?_,exq⟩;rotate_left
  ·exact (Jc fun h=>absurd h.1 Kk).symm
  ·exact (Jc fun h=>by have:=h.2.1;simp only at this;omega).symm
  ·rw [Bool.eq_iff_iff,decide_eq_true_iff,Bool.not_eq_true',List.any_eq_false]
   unfold DkOk
   simp only
   constructor
   ·intro h9
    exact ⟨Kk,Kh,fun q hq=>by simpa using h9 q hq⟩
   ·rintro ⟨_,_,h9⟩ q hq
    simpa using h9 q hq
 ·have hd:decide (DkOk ⟨p,pp⟩)=false:=Jc fun h=>hp h.1.1
  rw [hd]
  have k0 : ∀ (w:World) (v:Value),ESl Ints w v p→Dz 78 [v] w (Ret w (.bool false)):=fun w v h=>by
   have:=Nd w v p h;rwa [decide_eq_false hp] at this
  focus
   refine Vr<|Xu Z Z Z ?_;rintro b1 w1 H1 E1 B1;refine Ya Z<|Vp<|Vt<|Vr<|Yl Jt Jx Z<|Xw u1 Ju B1 Z<|Vs Z (Xh (a:=u1) Tryz.call78 Z) (k0 _ _ (Ku E1 h1)) ?_;rintro _ w2 ⟨rfl,E2⟩;refine Xz Z<|Uf Z (Xj (v:=.bool _) Z) (fun h3=>?_) (fun h3=>?_);refine Vq Z<|Vq Z<|Vq Z<|Vq Z<|Xy Z<|Xp Z<|Vq Z<|Vq Z<|Vq Z<|Vq Z<|Xy Z<|Vp<|Xe Z ?_;refine Vr<|Ya Z<|Vp<|Vy ?_;exact ⟨rfl,exq⟩;exact Ks
open Classical in
theorem impl_DeskOk_ok (w:World) (u1 u2:Value) (d:Dsk) (h1:ESl Ints w u1 d.now) (h2:ESl (ESl Ints) w u2 d.past):Dz 19 [.agg #[u1,u2]] w (Ret w (.bool (decide (DkOk d)))):=by
 have V1:isCell u1=true:=Qy h1
 have V2:isCell u2=true:=Qy h2
 refine Yr Tryz.func19 Z Tryz.results19 Tryz.ntmps19 Z ?_
 have k1:=fun (w:World) (h1:ESl Ints w u1 d.now) (h2:ESl (ESl Ints) w u2 d.past)=>isDesk_ok w u1 u2 d h1 h2
 focus
  refine Vr<|Xu Z Z Z ?_;rintro b1 w1 H1 E1 B1;refine Ya Z<|Vp<|Vt<|Ym<|Uh Jq Jj B1 Z<|Vs Z (Xh (a:=.agg _) Tryz.call58 Z) (k1 _ (Ku E1 h1) (Ku E1 h2)) ?_;rintro _ w2 ⟨rfl,E2⟩;refine Ya Z<|Vp<|Vy ?_;exact ⟨rfl,exq⟩
end Go.Proofs.YtbgpppaljpngmaaGreatDoor
