/- Lemmas for FnExactDeskSay. -/
import Derived.Test.YtbgpppaljpngmaaGreatDoorMFnExactDeskSay3
namespace Go.Proofs.YtbgpppaljpngmaaGreatDoor
open Go.Hs
set_option maxRecDepth 10000
set_option maxHeartbeats 4000000
set_option linter.unusedVariables false
set_option linter.unusedSimpArgs false
theorem arr_lt5 {p:List (List Int)} (hp:Pic p) {i:Nat} (hi:i < p.length):(arr p i).length≤5:=by
 have h8:=Ng (p.getD i [])
 rw [Ya Ka,hp.row Ka] at h8
 have:=hp.2.1
 unfold arr;rw [Ya Ka];omega
theorem ints_any (l:List Nat) (g:Int→Bool):(ints l).any g=l.any fun x=>g (x:Int):=by
 unfold ints;rw [List.any_map];rfl
theorem onLoop_ok (w:World) (v:Value) (p:List (List Int)) (h:ESl Ints w v p) (hp:Pic p) (i:Nat) (hi:i < p.length):Does Tryz.prog 213 [v,.int .i64 (i:Int)] w (Ret w (.bool (onl p i))):=by
 have hp5:=hp.2.1
 obtain ⟨pa,pc,rfl,_⟩:=id h
 have harr : ∀ (w1:World) (pv:Value),ESl Ints w1 pv p→Does Tryz.prog 130 [pv,.int .i64 (i:Int)] w1 (RetO w1 XI (ints (arr p i))):=fun w1 pv h1 =>
  Us w1 pv p h1 (i:Int) ⟨Ka,Ka⟩ (by rw [Ya Ka,hp.row Ka];omega)
 have hcl : ∀ (w1:World) (b3 b4:Nat) (x:Nat),Ext w w1→Blk w1 b3 [.slice pa p.length pc]→Blk w1 b4 [.int .i64 (i:Int)]→x < p.length→Does Tryz.prog 229 [.int .i64 (x:Int),.pointer (some ⟨b3,0,none⟩),.pointer (some ⟨b4,0,none⟩)] w1 (Ret w1 (.bool ((rf p x).contains i))):=by
  intro w1 b3 b4 x E0 hB3 hB4 hx
  have hE:ESl Ints w1 (.slice pa p.length pc) p:=Mono.mono E0 h
  have hrf : ∀ (w2:World) (pv:Value),ESl Ints w2 pv p→Does Tryz.prog 210 [pv,.int .i64 (x:Int)] w2 (RetO w2 XI (ints (rf p x))):=fun w2 pv h2=>reachedFrom_ok w2 pv p h2 hp x hx
  refine Vh Tryz.func229 Z Tryz.results229 Tryz.ntmps229 Z ?_
  focus
   refine Zp<|Zz Z<|Zn<|Zq<|Rb (fun _=>True) Xr Z Kb ?_;intro w2 E1 K1 hz1;refine WtmI 1 Z Z trivial<|Wha [0,3]<|Vu Z ?_ ?_;refine Ql Kw (hB3.ext E1) Z<|Wnx trivial<|Wha [2,3]<|Vu Z ?_ ?_;refine Zr Z (Yg (a:=.slice _ _ _) (b:=.int _ _) Tryz.call210 Z Z) (hrf _ _ ((Mono.mono E1 hE))) ?_;rintro u1 w3 ⟨E2,hO1⟩;refine Wnx trivial<|Wha [3]<|Wh1 Z<|Yk Km (hB4.ext exq) Z<|Wnx trivial<|Wha [4]<|Wh1 Z<|Zr Z (Yg (a:=u1) (b:=.int _ _) Gk Z Z) (Qy _ _ _ ((Owned.read hO1)) _) ?_;rintro _ w4 ⟨rfl,E3⟩;refine Wnx trivial<|WtaB 5 Z Z trivial<|Yh Kb ?_;refine Zy ?_;refine Ve (v:=.bool _) Z ?_;refine ⟨congrArg Value.bool ?_,exq⟩;rotate_left
   refine Wh1 Z<|Yk Km (hB4.ext E1) Z<|Wnx trivial<|Wha [2]<|Wh1 Z<|Zr Z (Yg (a:=.slice _ _ _) (b:=.int _ _) Tryz.call210 Z Z) (hrf _ _ ((Mono.mono E1 hE))) ?_;rintro u1 w3 ⟨E2,hO1⟩;refine Wnx trivial<|Wha [4]<|Wh1 Z<|Zr Z (Yg (a:=u1) (b:=.int _ _) Gk Z Z) (Qy _ _ _ ((Owned.read hO1)) _) ?_;rintro _ w4 ⟨rfl,E3⟩;refine Wnx trivial<|WtaB 5 Z Z trivial<|Yh Kb ?_;refine Zy ?_;refine Ve (v:=.bool _) Z ?_;refine ⟨congrArg Value.bool ?_,exq⟩;rotate_left;refine Wh1 Z<|Yk Km (hB4.ext E1) Z<|Wnx trivial<|Wha [0]<|Wh1 Z<|Ql Kw (hB3.ext E1) Z<|Wnx trivial<|Wha [2]<|Wh1 Z<|Zr Z (Yg (a:=.slice _ _ _) (b:=.int _ _) Tryz.call210 Z Z) (hrf _ _ ((Mono.mono E1 hE))) ?_;rintro u1 w3 ⟨E2,hO1⟩
   refine Wnx trivial<|Wha [4]<|Wh1 Z<|Zr Z (Yg (a:=u1) (b:=.int _ _) Gk Z Z) (Qy _ _ _ ((Owned.read hO1)) _) ?_;rintro _ w4 ⟨rfl,E3⟩;refine Wnx trivial<|WtaB 5 Z Z trivial<|Yh Kb ?_;refine Zy ?_;refine Ve (v:=.bool _) Z ?_;refine ⟨congrArg Value.bool ?_,exq⟩;rotate_left
  all_goals exact contains_ints
 have hcon : ∀ (w1:World) (u:Value) (b3 b4:Nat),Ext w w1→Blk w1 b3 [.slice pa p.length pc]→Blk w1 b4 [.int .i64 (i:Int)]→Ints w1 u (ints (arr p i))→Does Tryz.prog 146 [u,.func (.func 229) [].toArray [.pointer (some ⟨b3,0,none⟩),.pointer (some ⟨b4,0,none⟩)].toArray] w1 (Ret w1 (.bool (onl p i))):=by
  intro w1 u b3 b4 E0 hB3 hB4 hu
  have:=Qp w1 u _ hu 229 [.pointer (some ⟨b3,0,none⟩),.pointer (some ⟨b4,0,none⟩)] (fun x=>(rf p x.toNat).contains i) Tryz.call229 (fun x w' hx e=>by
   simp only [ints,List.mem_map] at hx
   obtain ⟨j,hj,rfl⟩:=hx
   exact hcl w' b3 b4 j (E0.trans e) (hB3.ext e) (hB4.ext e) ((Uo hp hi).1 hj).1)
  rw [ints_any] at this
  exact this
 refine Vh Tryz.func213 Z Tryz.results213 Tryz.ntmps213 Z ?_
 focus
  refine Zp<|Yl Z Z Z ?_;rintro b1 w1 hb1 E1 hB1;refine Yl Z Z Z ?_;rintro b2 w2 hb2 E2 hB2;refine Zz Z<|Zn<|Zp<|Ql Kw (hB1.ext E2) Z<|Yk Km hB2 Z<|Zr Z (Yg (a:=.slice _ _ _) (b:=.int _ _) Js Z Z) (harr _ _ ((Mono.mono exq h))) ?_;rintro u1 w3 ⟨E3,hO1⟩;refine Wo Z (Qg Z Z)<|Zr Z (Yg (a:=u1) (b:=.func _ _ _) Gs Z Z) (hcon _ _ _ _ exq ((hB1.ext exq)) ((hB2.ext E3)) ((Owned.read hO1))) ?_;rintro _ w4 ⟨rfl,E4⟩;refine Zz Z<|Zn<|Zy ?_;exact ⟨rfl,exq⟩
theorem Tt (w:World) (v:Value) (p:List (List Int)) (h:ESl Ints w v p) (hp:Pic p) (i:Nat) (hi:i < p.length):Does Tryz.prog 187 [v,.int .i64 (i:Int)] w (Ret w (.bool (cback p i))):=by
 obtain ⟨pa,pc,rfl,_⟩:=id h
 have hrf : ∀ (w2:World) (pv:Value),ESl Ints w2 pv p→Does Tryz.prog 210 [pv,.int .i64 (i:Int)] w2 (RetO w2 XI (ints (rf p i))):=fun w2 pv h2=>reachedFrom_ok w2 pv p h2 hp i hi
 have hcl : ∀ (w1:World) (b3 x:Nat),Ext w w1→Blk w1 b3 [.slice pa p.length pc]→x < p.length→Does Tryz.prog 212 [.int .i64 (x:Int),.pointer (some ⟨b3,0,none⟩)] w1 (Ret w1 (.bool (onl p x))):=by
  intro w1 b3 x E0 hB3 hx
  have hE:ESl Ints w1 (.slice pa p.length pc) p:=Mono.mono E0 h
  have hon : ∀ (w2:World) (pv:Value),ESl Ints w2 pv p→Does Tryz.prog 213 [pv,.int .i64 (x:Int)] w2 (Ret w2 (.bool (onl p x))):=fun w2 pv h2=>onLoop_ok w2 pv p h2 hp x hx
  refine Vh Tryz.func212 Z Tryz.results212 Tryz.ntmps212 Z ?_
  focus
   refine Zp<|Zz Z<|Zn<|Zp<|Ql Kw hB3 Z<|Zu Z<|Zr Z (Yg (a:=.slice _ _ _) (b:=.int _ _) Tryz.call213 Z Z) (hon _ _ (hE)) ?_;rintro _ w2 ⟨rfl,E1⟩;refine Zz Z<|Zn<|Zy ?_;exact ⟨rfl,E1⟩
 have hcon : ∀ (w1:World) (u:Value) (b3:Nat),Ext w w1→Blk w1 b3 [.slice pa p.length pc]→Ints w1 u (ints (rf p i))→Does Tryz.prog 146 [u,.func (.func 212) [].toArray [.pointer (some ⟨b3,0,none⟩)].toArray] w1 (Ret w1 (.bool (cback p i))):=by
  intro w1 u b3 E0 hB3 hu
  have:=Qp w1 u _ hu 212 [.pointer (some ⟨b3,0,none⟩)] (fun x=>onl p x.toNat) Tryz.call212 (fun x w' hx e=>by
   simp only [ints,List.mem_map] at hx
   obtain ⟨j,hj,rfl⟩:=hx
   exact hcl w' b3 j (E0.trans e) (hB3.ext e) (((Qn hp hi).1 hj).lt hp hi))
  rw [ints_any] at this
  exact this
 refine Vh Tryz.func187 Z Tryz.results187 Tryz.ntmps187 Z ?_
 focus
  refine Zp<|Yl Z Z Z ?_;rintro b1 w1 hb1 E1 hB1;refine Zz Z<|Zn<|Zq<|Vf<|Ql Kw hB1 Z<|Zu Z<|Zr Z (Yg (a:=.slice _ _ _) (b:=.int _ _) Tryz.call210 Z Z) (hrf _ _ ((Mono.mono E1 h))) ?_;rintro u1 w2 ⟨E2,hO1⟩;refine Wo Z (Qg Z Z)<|Zr Z (Yg (a:=u1) (b:=.func _ _ _) Gs Z Z) (hcon _ _ _ exq ((hB1.ext E2)) ((Owned.read hO1))) ?_;rintro _ w3 ⟨rfl,E3⟩;refine Zz Z<|Zn<|Zy ?_;exact ⟨rfl,exq⟩
theorem Ss (w:World) (v:Value) (p:List (List Int)) (h:ESl Ints w v p) (hp:Pic p) (i:Nat) (hi:i < p.length):Does Tryz.prog 117 [v,.int .i64 (i:Int)] w (Ret w (.bool (cback p i))):=by
 have hle:=h.le
 have hp5:=hp.2.1
 have hrf : ∀ (w2:World) (pv:Value) (x:Int),ESl Ints w2 pv p→0≤x∧x < p.length→Does Tryz.prog 161 [pv,.int .i64 x] w2 (RetO w2 XI (ints (rf p x.toNat))):=fun w2 pv x h2 hx=>by
  have:=Rz w2 pv p x h2
  rw [show rfV p x=rf p x.toNat from if_pos ⟨hp,hx⟩] at this
  exact this
 have hlen:=fun x=>Yy (rf p x)
 have hle5:=fun x=>Ma (p:=p) (i:=x)
 refine Vh Tryz.func117 Z Tryz.results117 Tryz.ntmps117 Z ?_
 focus
  refine Zp<|Zz Z<|Zn<|Zp<|Vb v Z<|Zu Z<|Zr Z (Yg (a:=v) (b:=.int _ _) Tryz.call161 Z Z) (hrf _ _ _ (h) Ka) ?_;rintro u1 w1 ⟨E1,hO1⟩;refine Yr u1 Z<|Zn<|Zq<|Zp<|Vg Z<|Zn<|Zw ?_
 change Owned _ XI w1 u1 (ints (rf p i)) at hO1
 refine Vy [4,6,7,8,9,13,14,15,16,17,18,19,20,21,22,23,24,25,26,27,28,29,30,31,32,33,34,35,36,37,38,39,40,41,42,43,44,45,46,47,48,49,50,51,52,53] (fun (k:Nat)=>[(6,.int .i64 (k:Nat))]) (fun k w'=>Ext w1 w'∧k≤(rf p i).length∧((rf p i).take k).any (onl p)=false) (fun x=>(rf p i).length - x) 0 Kg ?_ ?_
 ·exact ⟨Ext.refl _,Nat.zero_le _,Ki⟩
 rintro k ρj w2 ⟨E2,hk,hg⟩
 have hli:=hlen i
 have hli5:=hle5 i
 by_cases hkl:k < (rf p i).length
 ·have hum:=List.getElem_mem hkl
  have hgu:=Xz hkl
  have hts:=Yd _ _ hkl
  generalize (rf p i)[k]=u at hum hgu hts
  have hul:=((Qn hp hi).1 hum).lt hp hi
  have hut:((ints (rf p i))[k]'Ka).toNat=u:=Ka
  have hrow':=hp.row (show ((ints (rf p i))[k]'Ka).toNat < p.length by omega)
  have hrow:=hp.row hul
  have hge : ∀ j (hj:j < p[((ints (rf p i))[k]'Ka).toNat].length),(p[((ints (rf p i))[k]'Ka).toNat])[j]=(p[u]).getD j 0:=fun j hj=>by
   simp only [hut]
   rw [Ya Ka]
  have hya:onl p u=(List.range p.length).any fun j=>decide (p[u].getD j 0=1) && (rf p j).contains u:=arr_any hp hul _
  focus
   refine Zq<|Zp<|Zu Z<|Vb u1 Z<|Vk Kn Z (Owned.read hO1)<|Vi Z<|Zn<|Zs Z (fun h1=>?_) (fun h1=>?_);refine Zv<|Zq<|Zw<|Zp<|Vg Z<|Zn<|Zw ?_;rotate_left;(exfalso;omega)
  refine Vy [4,7,8,9,19,20,21,22,23,24,25,26,27,28,29,30,31,32,33,34,35,36,37,38,39,40,41,42,43,44,45,46,47,48,49,50,51,52,53] (fun (j:Nat)=>[(7,.int .i64 (j:Nat))]) (fun j w'=>Ext w2 w'∧j≤p.length∧((List.range j).any fun j=>decide (p[u].getD j 0=1) && (rf p j).contains u)=false) (fun x=>p.length - x) 0 Kg ?_ ?_
  ·exact ⟨Ext.refl _,Nat.zero_le _,Ki⟩
  rintro j ρk w3 ⟨E3,hj,hgj⟩
  by_cases hjl:j < p.length
  ·have hgj1:=hge j Ka
   have hsu:=Na (fun j=>decide (p[u].getD j 0=1) && (rf p j).contains u) j
   rw [hgj,Bool.false_or] at hsu
   have hlj:=hlen j
   have hlj5:=hle5 j
   focus
    refine Zq<|Zp<|Zu Z<|Vb v Z<|Vk Kp Z h<|Vi Z<|Zn<|Zs Z (fun h2=>?_) (fun h2=>?_);refine Zv<|Zq<|Zw<|Zq<|Zp<|Vb v Z<|Vb u1 Z<|Zu Z<|Yb Kn Kl Km Z (fun _=>Z) Z (Owned.read hO1) exq Z Kf ?_;rintro _ _ rfl;refine Qr Kp Kt Kz Z (fun _=>Z) Z h exq Z Kf ?_;rintro _ u2 hu1;refine Zu Z<|Yb Kn Kl Km Z (fun _=>Z) Z hu1 exq Z Kf ?_;rintro _ _ rfl;refine Xo Z<|Zn<|Vz Z (fun h3=>?_) (fun h3=>?_);refine Vw ?_;refine Vd ?_;refine Vf<|Zu Z<|Vr Z<|Vg Z<|Zn ?_
    rotate_left;refine Zv<|Zp<|Vb v Z<|Zu Z<|Zr Z (Yg (a:=v) (b:=.int _ _) Tryz.call161 Z Z) (hrf _ _ _ ((Mono.mono exq h)) Ka) ?_;rintro u3 w4 ⟨E4,hO2⟩;refine Yr u3 Z<|Zn<|Zp<|Vg Z<|Zn<|Zw ?_;rotate_left;(exfalso;omega)
   ·have hb : ¬p[u].getD j 0=1:=by rw [← hgj1];assumption
    refine ⟨(j+1),Kg,Kh,?_,?_⟩
    ·refine ⟨E3,Ka,?_⟩
     rw [hsu,decide_eq_false hb];rfl
    ·omega
   ·have hb:p[u].getD j 0=1:=by rw [← hgj1];assumption
    change Owned _ XI w4 u3 (ints (rf p j)) at hO2
    refine Vy [4,9,39,40,41,42,43,44,45,46,47,48,49,50,51,52,53] (fun (m:Nat)=>[(9,.int .i64 (m:Nat))]) (fun m w'=>Ext w4 w'∧m≤(rf p j).length∧u ∉ (rf p j).take m) (fun x=>(rf p j).length - x) 0 Kg ?_ ?_
    ·exact ⟨Ext.refl _,Nat.zero_le _,Ki⟩
    rintro m ρm w5 ⟨E5,hm,hgm⟩
    by_cases hml:m < (rf p j).length
    ·have hgj2:=Xz hml
     have htm:=Yd _ _ hml
     have hmm:=List.getElem_mem hml
     focus
      have szE5:=E5.size;have szE4:=E4.size;have szE3:=E3.size;have szE2:=E2.size;have szE1:=E1.size;refine Zq<|Zp<|Zu Z<|Vb u3 Z<|Vk Kn Z (Owned.read hO2)<|Vi Z<|Zn<|Zs Z (fun h4=>?_) (fun h4=>?_);refine Zv<|Zq<|Zw<|Zq<|Xx Xr Kb Z ?_;refine Qj u3 Z<|Rf Z<|Xn Kn Kl Km Z (fun _=>Z) Z (Owned.read hO2) E5 Z Kf ?_;rintro _ _ rfl;refine Qj u1 Z<|Rf Z<|Xn Kn Kl Km Z (fun _=>Z) Z (Owned.read hO1) exq Z Kf ?_;rintro _ _ rfl;refine Rg Z<|Xu (fun w6 E6=>?_);have hs3:=E6.size;refine Zs Z (fun h5=>?_) (fun h5=>?_)
      refine Zp<|Zz Z<|Zn<|Zy ?_;refine Ve (v:=.bool _) Z ?_;refine ⟨congrArg Value.bool ?_,exq⟩;rotate_left;refine Zv<|Vf<|Zu Z<|Vr Z<|Vg Z<|Zn ?_;rotate_left;(exfalso;omega)
     ·have e:(rf p j)[m]=u:=by omega
      rw [e] at hmm
      have ho:onl p u=true:=by
       rw [hya]
       refine List.any_eq_true.2 ⟨j,List.mem_range.2 hjl,?_⟩
       rw [hb,List.contains_iff_mem.2 hmm];rfl
      exact (List.any_eq_true.2 ⟨u,hum,ho⟩).symm
     ·have e : ¬(rf p j)[m]=u:=by omega
      refine ⟨(m+1),Kg,Kh,?_,?_⟩
      ·refine ⟨by first | exact E5 | exact E5.trans E6,Ka,?_⟩
       rw [htm,List.mem_append]
       rintro (h9 | h9)
       ·exact hgm h9
       ·exact e (List.mem_singleton.1 h9).symm
      ·omega
    ·obtain rfl:m=(rf p j).length:=by omega
     rw [List.take_length] at hgm
     focus
      refine Zq<|Zp<|Zu Z<|Vb u3 Z<|Vk Kn Z (Owned.read hO2)<|Vi Z<|Zn<|Zt Z fun h4=>?_;refine Vw ?_;refine Vd ?_;refine Vf<|Zu Z<|Vr Z<|Vg Z<|Zn ?_
     refine ⟨(j+1),Kg,Kh,?_,?_⟩
     ·refine ⟨E3.trans (E4.trans E5),Ka,?_⟩
      rw [hsu]
      cases hq:(rf p j).contains u with
      | true=>exact absurd (List.contains_iff_mem.1 hq) hgm
      | false=>rw [Bool.and_false]
     ·omega
  ·obtain rfl:j=p.length:=by omega
   focus
    refine Zq<|Zp<|Zu Z<|Vb v Z<|Vk Kp Z h<|Vi Z<|Zn<|Zt Z fun h2=>?_;refine Vw ?_;refine Vd ?_;refine Vf<|Zu Z<|Vr Z<|Vg Z<|Zn ?_
   refine ⟨(k+1),Kg,Kh,?_,?_⟩
   ·refine ⟨E2.trans E3,Ka,?_⟩
    rw [hts,List.any_append,hg,Bool.false_or,List.any_cons,List.any_nil,Bool.or_false,hya]
    exact hgj
   ·omega
 ·obtain rfl:k=(rf p i).length:=by omega
  focus
   have szE2:=E2.size;have szE1:=E1.size;refine Zq<|Zp<|Zu Z<|Vb u1 Z<|Vk Kn Z (Owned.read hO1)<|Vi Z<|Zn<|Zt Z fun h1=>?_;refine Vw ?_;refine Vd ?_;refine Zp<|Zz Z<|Zn<|Zy ?_;refine Ve (v:=.bool _) Z ?_;refine ⟨congrArg Value.bool ?_,exq⟩
  rw [List.take_length] at hg
  exact hg.symm
noncomputable def faV (p:List (List Int)):List Nat:=if Pic p then (List.range p.length).filter (fun k=>!(cback p k)) else []
theorem spec_FoundedAll_ok (w:World) (v:Value) (p:List (List Int)) (h:ESl Ints w v p):Does Tryz.prog 69 [v] w (RetO w XI (ints (faV p))):=by
 have hle:=h.le
 refine Vh Tryz.func69 Z Tryz.results69 Tryz.ntmps69 Z ?_
 by_cases hp:Pic p
 ·have hpic : ∀ (w:World) (pv:Value),ESl Ints w pv p→Does Tryz.prog 115 [pv] w (Ret w (.bool true)):=fun w pv h=>by
   have:=Ue w pv p h
   rw [decide_eq_true hp] at this;exact this
  have hp5:=hp.2.1
  have hV:faV p=(List.range p.length).filter (fun k=>!(cback p k)):=if_pos hp
  rw [hV]
  focus
   refine Zp<|Ys Z<|Zn<|Zp<|Yz XInt Z Ux Kl ?_;rintro b1 w1 hb1 b1lt E1 hO1;refine Ys Z<|Zn<|Zq<|Zp<|Vg Z<|Zn<|Zw ?_
  refine Vy [3,4,6,7,8,9,10,11,12,13,14,15,16,17,18,19,20,21,22,23] (fun (k,u)=>[(4,.int .i64 (k:Nat)),(3,u)]) (fun (k,u) w'=>Ext w w'∧k≤p.length∧Owned w.heap.size XI w' u (ints ((List.range k).filter (fun k=>!(cback p k))))) (fun x=>p.length - x.1) (0,.slice (some ⟨b1,0,none⟩) 0 0) Kg ?_ ?_
  ·exact ⟨Kd,Nat.zero_le _,by simpa [ints] using hO1⟩
  rintro ⟨k,u⟩ ρj w2 ⟨E2,hk,hO2⟩
  have hfs:=Xq (fun k=>!(cback p k)) k
  have hll:(ints ((List.range k).filter (fun k=>!(cback p k)))).length≤k:=by
   rw [Yy];exact Nat.le_trans (List.length_filter_le _ _) Ki
  by_cases hlt:k < p.length
  ·have hcb : ∀ (w:World) (pv:Value),ESl Ints w pv p→Does Tryz.prog 117 [pv,.int .i64 (k:Int)] w (Ret w (.bool (cback p k))):=fun w pv h=>Ss w pv p h hp k hlt
   focus
    have szE2:=E2.size;refine Zq<|Zp<|Zu Z<|Vb v Z<|Vk Kp Z h<|Vi Z<|Yf Z (fun h1=>?_) (fun h1=>?_);refine Vb v Z<|Zr Z (Vx (a:=v) Jr Z) (hpic _ _ ((Mono.mono E2 h))) ?_;rintro _ w3 ⟨rfl,E3⟩;have hs2:=E3.size;refine Yq Z<|Zn<|Vv Z ?_;refine Zv<|Zq<|Zw<|Zp<|Vb v Z<|Zu Z<|Zr Z (Yg (a:=v) (b:=.int _ _) Tryz.call117 Z Z) (hcb _ _ ((Mono.mono exq h))) ?_;rintro _ w4 ⟨rfl,E4⟩;have hs3:=E4.size;refine Ym Z<|Zn<|Xg Z (fun h2=>?_) (fun h2=>?_);refine Vf<|Vb u Z<|Zu Z<|Ye (ps:=[(0,.int _ _)]) (cs:=[_]) Z Kn Kl Jg Z Z Z Z ?_;rintro b2 w5 hb2 E5 hB1 hHb2;have hs4:=E5.size
    refine Xh Z Ux Z Z hB1 (hO2.toB.ext ((E3.trans E4).trans E5)) Owned.int (Nat.le_refl _) Kf Ka Ka (((E2.trans E3).trans E4).trans E5) Ka ?_;rintro v1 w6 hO2 E6 M1;refine Yr v1 Z<|Zn<|Vf<|Zu Z<|Vr Z<|Vg Z<|Zn ?_;rotate_left;refine Zv<|Vf<|Zu Z<|Vr Z<|Vg Z<|Zn ?_;rotate_left;(exfalso;omega)
   ·have hc:(!(cback p k))=true:=by assumption
    refine ⟨((k+1,v1)),Kg,Kh,?_,?_⟩
    ·refine ⟨Kd,Ka,?_⟩
     rw [hfs,if_pos hc,ints_append]
     assumption
    ·simp only;omega
   ·have hc:(!(cback p k))=false:=by assumption
    refine ⟨((k+1,u)),Kg,Kh,?_,?_⟩
    ·refine ⟨E2.trans (E3.trans E4),Ka,?_⟩
     rw [hfs,if_neg (by rw [hc];exact Bool.false_ne_true),List.append_nil]
     exact hO2.ext (E3.trans E4)
    ·simp only;omega
  ·obtain rfl:k=p.length:=by omega
   focus
    refine Zq<|Zp<|Zu Z<|Vb v Z<|Vk Kp Z h<|Vi Z<|Uj Z fun h1=>?_;refine Zo Z<|Zo Z<|Vp Z<|Zn<|Zx Z ?_;refine Vw ?_;refine Vd ?_;refine Zp<|Vb u Z<|Yr u Z<|Zn<|Zy ?_;exact ⟨E2,hO2.toB.o.mono Ka⟩
 ·have hpic : ∀ (w:World) (pv:Value),ESl Ints w pv p→Does Tryz.prog 115 [pv] w (Ret w (.bool false)):=fun w pv h=>by
   have:=Ue w pv p h
   rw [decide_eq_false hp] at this;exact this
  have hV:faV p=[]:=if_neg hp
  rw [hV,show ints []=([]:List Int) from rfl]
  focus
   refine Zp<|Ys Z<|Zn<|Zp<|Yz XInt Z Ux Kl ?_;rintro b1 w1 hb1 b1lt E1 hO1;refine Ys Z<|Zn<|Zq<|Zp<|Vg Z<|Zn<|Zw ?_
  refine Vy [3,4,6,7,8,9,10,11,12,13,14,15,16,17,18,19,20,21,22,23] (fun (k:Nat)=>[(4,.int .i64 (k:Nat)),(3,.slice (some ⟨b1,0,none⟩) 0 0)]) (fun k w'=>Ext w w'∧k=0∧Owned w.heap.size XI w' (.slice (some ⟨b1,0,none⟩) 0 0) []) (fun x=>0) 0 Kg ?_ ?_
  ·exact ⟨Kd,rfl,hO1⟩
  rintro k ρj w2 ⟨E2,rfl,hO2⟩
  focus
   refine Zq<|Zp<|Zu Z<|Vb v Z<|Vk Kp Z h<|Vi Z<|Yf Z (fun h1=>?_) (fun h1=>?_);refine Vb v Z<|Zr Z (Vx (a:=v) Jr Z) (hpic _ _ ((Mono.mono E2 h))) ?_;rintro _ w3 ⟨rfl,E3⟩;refine Yq Z<|Zn<|Zx Z ?_;refine Vw ?_;refine Vd ?_;refine Zp<|Up Z<|Ys Z<|Zn<|Zy ?_;exact ⟨exq,(hO2.toB.ext E3).o.mono Ka⟩;refine Zo Z<|Zo Z<|Vp Z<|Zn<|Zx Z ?_;refine Vw ?_;refine Vd ?_;refine Zp<|Up Z<|Ys Z<|Zn<|Zy ?_;exact ⟨E2,hO2.toB.o.mono Ka⟩
theorem foundedAll_ok (w:World) (v:Value) (p:List (List Int)) (h:ESl Ints w v p) (hp:Pic p):Does Tryz.prog 158 [v] w (RetO w XI (ints (faV p))):=by
 have hle:=h.le
 have hp5:=hp.2.1
 have hV:faV p=(List.range p.length).filter (fun k=>!(cback p k)):=if_pos hp
 rw [hV]
 refine Vh Tryz.func158 Z Tryz.results158 Tryz.ntmps158 Z ?_
 focus
  refine Zp<|Ys Z<|Zn<|Zp<|Yz XInt Z Ux Kl ?_;rintro b1 w1 hb1 b1lt E1 hO1;refine Ys Z<|Zn<|Zq<|Zp<|Vb v Z<|Vk Kp Z h<|Zu Z<|Zn<|Zw ?_
 refine Vy [3,4,8,9,10,11,12,13,14,15,16,17,18,19] (fun (k,u)=>[(8,.int .i64 (k:Nat)),(3,u)]) (fun (k,u) w'=>Ext w w'∧k≤p.length∧Owned w.heap.size XI w' u (ints ((List.range k).filter (fun k=>!(cback p k))))) (fun x=>p.length - x.1) (0,.slice (some ⟨b1,0,none⟩) 0 0) Kg ?_ ?_
 ·exact ⟨Kd,Nat.zero_le _,by simpa [ints] using hO1⟩
 rintro ⟨k,u⟩ ρj w2 ⟨E2,hk,hO2⟩
 have hfs:=Xq (fun k=>!(cback p k)) k
 have hll:(ints ((List.range k).filter (fun k=>!(cback p k)))).length≤k:=by
  rw [Yy];exact Nat.le_trans (List.length_filter_le _ _) Ki
 by_cases hlt:k < p.length
 ·have hcb : ∀ (w:World) (pv:Value),ESl Ints w pv p→Does Tryz.prog 187 [pv,.int .i64 (k:Int)] w (Ret w (.bool (cback p k))):=fun w pv h=>Tt w pv p h hp k hlt
  focus
   have szE2:=E2.size;refine Zp<|Vi Z<|Zn<|Zq<|Zs Z (fun h1=>?_) (fun h1=>?_);refine Zv<|Zq<|Zw<|Zp<|Zu Z<|Vg Z<|Zn<|Zq<|Vf<|Vb v Z<|Zu Z<|Zr Z (Yg (a:=v) (b:=.int _ _) Gz Z Z) (hcb _ _ ((Mono.mono E2 h))) ?_;rintro _ w3 ⟨rfl,E3⟩;have hs2:=E3.size;refine Ym Z<|Zn<|Xg Z (fun h2=>?_) (fun h2=>?_);refine Vf<|Vb u Z<|Zu Z<|Ye (ps:=[(0,.int _ _)]) (cs:=[_]) Z Kn Kl Jg Z Z Z Z ?_;rintro b2 w4 hb2 E4 hB1 hHb2;have hs3:=E4.size;refine Xh Z Ux Z Z hB1 (hO2.toB.ext (E3.trans E4)) Owned.int (Nat.le_refl _) Kf Ka Ka ((E2.trans E3).trans E4) Ka ?_;rintro v1 w5 hO2 E5 M1
   refine Yr v1 Z<|Zn<|Vf<|Vr Z<|Zu Z<|Zn ?_;rotate_left;refine Zv<|Vf<|Vr Z<|Zu Z<|Zn ?_;rotate_left;(exfalso;omega)
  ·have hc:(!(cback p k))=true:=by assumption
   refine ⟨((k+1,v1)),Kg,Kh,?_,?_⟩
   ·refine ⟨Kd,Ka,?_⟩
    rw [hfs,if_pos hc,ints_append]
    assumption
   ·simp only;omega
  ·have hc:(!(cback p k))=false:=by assumption
   refine ⟨((k+1,u)),Kg,Kh,?_,?_⟩
   ·refine ⟨E2.trans E3,Ka,?_⟩
    rw [hfs,if_neg (by rw [hc];exact Bool.false_ne_true),List.append_nil]
    exact hO2.ext E3
   ·simp only;omega
 ·obtain rfl:k=p.length:=by omega
  focus
   refine Zp<|Vi Z<|Zn<|Zq<|Zt Z fun h1=>?_;refine Vw ?_;refine Vd ?_;refine Zp<|Vb u Z<|Yr u Z<|Zn<|Zy ?_;exact ⟨E2,hO2.toB.o.mono Ka⟩
end Go.Proofs.YtbgpppaljpngmaaGreatDoor
set_option linter.unusedVariables false
namespace Go.Hs
variable {p:List (List Int)} {l L:List Nat} {a j:Nat}
structure Mny (p:List (List Int)) (l L:List Nat):Prop where
 nd:L.Nodup
 mem : ∀ x,x ∈ L↔∃ k ∈ l,knd p k=x
theorem Mny.zero:Mny p [] []:=⟨Ki,fun x=>Ki⟩
theorem Mny.skip (h:Mny p l L) (hj:knd p j ∈ L):Mny p (l++[j]) L:=⟨h.nd,fun x=>by
 rw [h.mem]
 constructor
 ·rintro ⟨k,hk,e⟩;exact ⟨k,List.mem_append_left _ hk,e⟩
 ·rintro ⟨k,hk,rfl⟩
  rcases List.mem_append.1 hk with hk | hk
  ·exact ⟨k,hk,rfl⟩
  ·rw [List.mem_singleton.1 hk];exact (h.mem _).1 hj⟩
theorem Mny.step (h:Mny p l L) (hj:knd p j ∉ L):Mny p (l++[j]) (L++[knd p j]):=⟨by
  rw [List.nodup_append]
  exact ⟨h.nd,Ki,fun x hx y hy=>by rw [List.mem_singleton.1 hy];rintro rfl;exact hj hx⟩,fun x=>by
 rw [List.mem_append,h.mem]
 constructor
 ·rintro (⟨k,hk,e⟩ | hx)
  ·exact ⟨k,List.mem_append_left _ hk,e⟩
  ·exact ⟨j,Ki,(List.mem_singleton.1 hx).symm⟩
 ·rintro ⟨k,hk,rfl⟩
  rcases List.mem_append.1 hk with hk | hk
  ·exact .inl ⟨k,hk,rfl⟩
  ·rw [List.mem_singleton.1 hk];exact .inr Ki⟩
theorem Mny.many (hp:Gr p) (ha:a < p.length) (h:Mny p (arr p a) L):L.length=manyV p a:=by
 have e:((List.range p.length).filter fun x=>decide (∃ k ∈ arr p a,knd p k=x)).Perm L:=by
  refine (List.perm_ext_iff_of_nodup (pw_nodup (Ro _ _)) h.nd).2 fun x=>?_
  simp only [List.mem_filter,List.mem_range,decide_eq_true_eq,h.mem]
  constructor
  ·rintro ⟨_,hx⟩;exact hx
  ·rintro ⟨k,hk,rfl⟩
   exact ⟨Mi (Xy hp ha hk),k,hk,rfl⟩
 unfold manyV
 rw [e.length_eq]
end Go.Hs
namespace Go.Proofs.YtbgpppaljpngmaaGreatDoor
open Go.Hs
set_option maxRecDepth 10000
set_option maxHeartbeats 4000000
set_option linter.unusedVariables false
set_option linter.unusedSimpArgs false
theorem impl_PairOf_ok (w:World) (v u:Value) (p q:List (List Int)) (h:ESl Ints w v p) (h':ESl Ints w u q) (a b:Nat) (ha:Nod p a) (hb:Nod q b):Does Tryz.prog 172 [v,.int .i64 (a:Int),u,.int .i64 (b:Int)] w (RetOB w XR (og (pairV p a q b)) (pairV p a q b).isSome):=by
 have la:a < p.length:=by have:=ha.2;omega
 have lb:b < q.length:=by have:=hb.2;omega
 have hle:=h.le
 have hle':=h'.le
 have hG:=ha.1.bes5 hb.1
 have hbl:=bes_len (p:=p) (q:=q)
 have n1 : ∀ (w:World) (v:Value),ESl Ints w v p→Does Tryz.prog 94 [v,.int .i64 (a:Int)] w (Ret w (.bool true)):=fun w v h=>by
  have:=Qu w v p h (a:Int);rwa [decide_eq_true ha] at this
 have n2 : ∀ (w:World) (v:Value),ESl Ints w v q→Does Tryz.prog 94 [v,.int .i64 (b:Int)] w (Ret w (.bool true)):=fun w v h=>by
  have:=Qu w v q h (b:Int);rwa [decide_eq_true hb] at this
 have k1 : ∀ (w:World) (v u:Value),ESl Ints w v p→ESl Ints w u q→Does Tryz.prog 180 [v,u] w (RetO w XR (bes p q)):=fun w v u h h'=>beside_ok w v u p q h h' ha.1 hb.1
 have k2 : ∀ (w:World) (v u:Value),ESl Ints w v (bes p q)→Ints w u [(a:Int),(p.length:Int)+(b:Int)]→Does Tryz.prog 199 [v,u] w (RetOB w XR (og (pairV p a q b)) (pairV p a q b).isSome):=fun w v u h1 h2 =>
  Ty w v u (bes p q) [a,p.length+b] h1 h2 hG.1 hG.2 (fun x hx=>by
   rw [hbl]
   rcases List.mem_cons.1 hx with rfl | hx
   ·omega
   ·rw [List.mem_singleton.1 hx];omega) Ki
 refine Xp Tryz.func172 Z Tryz.results172 Tryz.ntmps172 Z ?_
 focus
  refine Zp<|Ys Z<|Zz Z<|Zn<|Zq<|Zp<|Vb v Z<|Zu Z<|Zr Z (Yg (a:=v) (b:=.int _ _) Jx Z Z) (n1 _ _ (h)) ?_;rintro _ w1 ⟨rfl,E1⟩;have hs1:=E1.size;refine Ym Z<|Yn Z (Vq (v:=.bool _) Z) (fun h1=>?_) (fun h1=>?_);contradiction;refine Vb u Z<|Zu Z<|Zr Z (Yg (a:=u) (b:=.int _ _) Jx Z Z) (n2 _ _ ((Mono.mono E1 h'))) ?_;rintro _ w2 ⟨rfl,E2⟩;have hs2:=E2.size;refine Ym Z<|Vp Z<|Zn<|Xa Z fun h2=>?_;refine Zv<|Zp<|Vb v Z<|Vb u Z<|Zr Z (Yg (a:=v) (b:=u) Tryz.call180 Z Z) (k1 _ _ _ ((Mono.mono exq h)) ((Mono.mono exq h'))) ?_;rintro u1 w3 ⟨E3,hO1⟩;have hs3:=E3.size
  refine Yr u1 Z<|Zn<|Zp<|Vb u1 Z<|Zu Z<|Vb v Z<|Vk Kp Z h<|Zu Z<|Vr Z<|Ye (ps:=[(0,.int _ _),(1,.int _ _)]) (cs:=[_,_]) Z Kn Kl Jg Z Z Z Z ?_;rintro b1 w4 hb1 E4 hB1 hHb1;have hLb1:=own_lit2 hHb1 hb1;clear hHb1;have hs4:=E4.size;refine Zr Z (Yg (a:=u1) (b:=.slice _ _ _) Tryz.call199 Z Z) (k2 _ _ _ ((Mono.mono E4 (Owned.read hO1))) ((Owned.read hLb1))) ?_;rintro _ w5 ⟨u2,rfl,E5,hO2⟩;refine Un u2 Z<|Xv Z<|Yr u2 Z<|Zz Z<|Zn<|Zy ?_;refine Ve (v:=.tuple #[u2,.bool _]) Z ?_;exact ⟨_,rfl,exq,hO2.toB.o.mono Ka⟩
theorem impl_TogetherOf_ok (w:World) (v u:Value) (p q:List (List Int)) (h:ESl Ints w v p) (h':ESl Ints w u q) (a b:Nat) (ha:Nod p a) (hb:Nod q b):Does Tryz.prog 173 [v,.int .i64 (a:Int),u,.int .i64 (b:Int)] w (RetOB w XR (og (togV p a q b)) (togV p a q b).isSome):=by
 have la:a < p.length:=by have:=ha.2;omega
 have lb:b < q.length:=by have:=hb.2;omega
 have hle:=h.le
 have hG:=ha.1.bes5 hb.1
 have hbl:=bes_len (p:=p) (q:=q)
 have n1 : ∀ (w:World) (v:Value),ESl Ints w v p→Does Tryz.prog 94 [v,.int .i64 (a:Int)] w (Ret w (.bool true)):=fun w v h=>by
  have:=Qu w v p h (a:Int);rwa [decide_eq_true ha] at this
 have n2 : ∀ (w:World) (v:Value),ESl Ints w v q→Does Tryz.prog 94 [v,.int .i64 (b:Int)] w (Ret w (.bool true)):=fun w v h=>by
  have:=Qu w v q h (b:Int);rwa [decide_eq_true hb] at this
 have k1 : ∀ (w:World) (v u:Value),ESl Ints w v p→ESl Ints w u q→Does Tryz.prog 180 [v,u] w (RetO w XR (bes p q)):=fun w v u h h'=>beside_ok w v u p q h h' ha.1 hb.1
 have c1 : ∀ (w:World) (v:Value),ESl Ints w v (bes p q)→Does Tryz.prog 130 [v,.int .i64 (a:Int)] w (RetO w XI (ints (arr (bes p q) a))):=fun w v h=>Us w v (bes p q) h (a:Int) ⟨Ka,Ka⟩ (by rw [Ya Ka,hG.1.row Ka];omega)
 have c2 : ∀ (w:World) (v:Value),ESl Ints w v (bes p q)→Does Tryz.prog 130 [v,.int .i64 ((p.length:Int)+(b:Int))] w (RetO w XI (ints (arr (bes p q) (p.length+b)))):=fun w v h=>by
  have:=Us w v (bes p q) h ((p.length:Int)+(b:Int)) ⟨Ka,Ka⟩ (by rw [Ya Ka,hG.1.row Ka];omega)
  rwa [show ((p.length:Int)+(b:Int)).toNat=p.length+b by omega] at this
 have l1:=Mh hG.1 (a:=a) Ka
 have l2:=Mh hG.1 (a:=p.length+b) Ka
 have i1:=Yy (arr (bes p q) a)
 have i2:=Yy (arr (bes p q) (p.length+b))
 have hapi:ints (arr (bes p q) a)++ints (arr (bes p q) (p.length+b))=ints (arr (bes p q) a++arr (bes p q) (p.length+b)):=by simp [ints]
 have k2 : ∀ (w:World) (v u:Value),ESl Ints w v (bes p q)→Ints w u (ints (arr (bes p q) a)++ints (arr (bes p q) (p.length+b)))→Does Tryz.prog 199 [v,u] w (RetOB w XR (og (togV p a q b)) (togV p a q b).isSome):=fun w v u h1 h2 =>
  Ty w v u (bes p q) (arr (bes p q) a++arr (bes p q) (p.length+b)) h1 (by rw [← hapi];exact h2) hG.1 hG.2 (fun x hx=>by
   rcases List.mem_append.1 hx with hx | hx
   ·exact Xy hG.1 Ka hx
   ·exact Xy hG.1 Ka hx) (by rw [List.length_append];have:=hG.2;omega)
 refine Xp Tryz.func173 Z Tryz.results173 Tryz.ntmps173 Z ?_
 focus
  refine Zp<|Ys Z<|Zz Z<|Zn<|Zq<|Zp<|Vb v Z<|Zu Z<|Zr Z (Yg (a:=v) (b:=.int _ _) Jx Z Z) (n1 _ _ (h)) ?_;rintro _ w1 ⟨rfl,E1⟩;have hs1:=E1.size;refine Ym Z<|Yn Z (Vq (v:=.bool _) Z) (fun h1=>?_) (fun h1=>?_);contradiction;refine Vb u Z<|Zu Z<|Zr Z (Yg (a:=u) (b:=.int _ _) Jx Z Z) (n2 _ _ ((Mono.mono E1 h'))) ?_;rintro _ w2 ⟨rfl,E2⟩;have hs2:=E2.size;refine Ym Z<|Vp Z<|Zn<|Xa Z fun h2=>?_;refine Zv<|Zp<|Vb v Z<|Vb u Z<|Zr Z (Yg (a:=v) (b:=u) Tryz.call180 Z Z) (k1 _ _ _ ((Mono.mono exq h)) ((Mono.mono exq h'))) ?_;rintro u1 w3 ⟨E3,hO1⟩;have hs3:=E3.size
  refine Yr u1 Z<|Zn<|Zp<|Vb u1 Z<|Vb u1 Z<|Zu Z<|Zr Z (Yg (a:=u1) (b:=.int _ _) Js Z Z) (c1 _ _ ((Owned.read hO1))) ?_;rintro u2 w4 ⟨E4,hO2⟩;have hs4:=E4.size;refine Vb u1 Z<|Vb v Z<|Vk Kp Z h<|Zu Z<|Vr Z<|Zr Z (Yg (a:=u1) (b:=.int _ _) Js Z Z) (c2 _ _ ((Mono.mono E4 (Owned.read hO1)))) ?_;rintro u3 w5 ⟨E5,hO3⟩;have hs5:=E5.size;refine Wo_appS Z Ux Z Z (Owned.read hO3) (hO2.toB.ext E5) Kf Ka Ka ((((E1.trans E2).trans E3).trans E4).trans E5) Ka ?_;have hT1:=(hO2.toB.ext E5);rintro v1 w6 hO2 E6 M1;have hO1:=(hO1.toB.ext exq).moves M1 hT1 Ka;have hs6:=E6.size
  refine Zr Z (Yg (a:=u1) (b:=v1) Tryz.call199 Z Z) (k2 _ _ _ ((OwnedB.read hO1)) ((Owned.read hO2))) ?_;rintro _ w7 ⟨u4,rfl,E10,hO4⟩;refine Un u4 Z<|Xv Z<|Yr u4 Z<|Zz Z<|Zn<|Zy ?_;refine Ve (v:=.tuple #[u4,.bool _]) Z ?_;exact ⟨_,rfl,exq,hO4.toB.o.mono Ka⟩
open Classical in
theorem hasSet1_ok (w:World) (v u:Value) (p q:List (List Int)) (h:ESl Ints w v p) (h':ESl Ints w u q) (hp:Pic p) (hq:Pic q) (x b:Nat) (hx:x < p.length) (hb:b < q.length) (b1 b2 b3:Nat) (hB1:Blk w b1 [v]) (hB2:Blk w b2 [u]) (hB3:Blk w b3 [.int .i64 (b:Int)]) :
  Does Tryz.prog 147 [.int .i64 (x:Int),.pointer (some ⟨b1,0,none⟩),.pointer (some ⟨b2,0,none⟩),.pointer (some ⟨b3,0,none⟩)] w (Ret w (.bool (decide (Bis p x q b)))):=by
 have k1 : ∀ (w:World) (v u:Value),ESl Ints w v p→ESl Ints w u q→Does Tryz.prog 148 [v,.int .i64 (x:Int),u,.int .i64 (b:Int)] w (Ret w (.bool (decide (Bis p x q b)))):=fun w v u h h'=>by
  have:=sameSet_ok w v u p q h h' hp hq (x:Int) (b:Int) ⟨Ka,Ka⟩ ⟨Ka,Ka⟩
  simpa only [Int.toNat_natCast] using this
 obtain ⟨pa,pc,rfl,_⟩:=id h
 obtain ⟨qa,qc,rfl,_⟩:=id h'
 refine Vh Tryz.func147 Z Tryz.results147 Tryz.ntmps147 Z ?_
 focus
  refine Zp<|Zz Z<|Zn<|Zp<|Ql Kw hB1 Z<|Zu Z<|Ql Kw hB2 Z<|Yk Km hB3 Z<|Zr Z (Qz (a:=.slice _ _ _) (b:=.int _ _) (c:=.slice _ _ _) (d:=.int _ _) Tryz.call148 Z Z Z Z) (k1 _ _ _ (h) (h')) ?_;rintro _ w1 ⟨rfl,E1⟩;refine Zz Z<|Zn<|Zy ?_;exact ⟨rfl,E1⟩
open Classical in
theorem hasSet_ok (w:World) (v u:Value) (p q:List (List Int)) (h:ESl Ints w v p) (h':ESl Ints w u q) (hp:Pic p) (hq:Pic q) (a b:Nat) (ha:a < p.length) (hb:b < q.length):Does Tryz.prog 96 [v,.int .i64 (a:Int),u,.int .i64 (b:Int)] w (Ret w (.bool (hasV p a q b))):=by
 obtain ⟨pa,pc,rfl,_⟩:=id h
 obtain ⟨qa,qc,rfl,_⟩:=id h'
 have c1 : ∀ (w:World) (v:Value),ESl Ints w v p→Does Tryz.prog 130 [v,.int .i64 (a:Int)] w (RetO w XI (ints (arr p a))):=fun w v h=>Us w v p h (a:Int) ⟨Ka,Ka⟩ (by rw [Ya Ka,hp.gr.row Ka];have:=hp.2.1;omega)
 have hcon : ∀ (w1:World) (t:Value) (b1 b2 b3:Nat),Ext w w1→Blk w1 b1 [.slice pa p.length pc]→Blk w1 b2 [.slice qa q.length qc]→Blk w1 b3 [.int .i64 (b:Int)]→Ints w1 t (ints (arr p a))→Does Tryz.prog 146 [t,.func (.func 147) [].toArray [.pointer (some ⟨b1,0,none⟩),.pointer (some ⟨b2,0,none⟩),.pointer (some ⟨b3,0,none⟩)].toArray] w1 (Ret w1 (.bool (hasV p a q b))):=by
  intro w1 t b1 b2 b3 E0 hB1 hB2 hB3 ht
  have:=Qp w1 t _ ht 147 [.pointer (some ⟨b1,0,none⟩),.pointer (some ⟨b2,0,none⟩),.pointer (some ⟨b3,0,none⟩)] (fun x=>decide (Bis p x.toNat q b)) Tryz.call147 (fun x w' hx e=>by
   simp only [ints,List.mem_map] at hx
   obtain ⟨j,hj,rfl⟩:=hx
   exact hasSet1_ok w' _ _ p q (Mono.mono (E0.trans e) h) (Mono.mono (E0.trans e) h') hp hq j b (Xy hp.gr ha hj) hb b1 b2 b3 (hB1.ext e) (hB2.ext e) (hB3.ext e))
  rw [ints_any] at this
  exact this
 refine Vh Tryz.func96 Z Tryz.results96 Tryz.ntmps96 Z ?_
 focus
  refine Zp<|Yl Z Z Z ?_;rintro b1 w1 hb1 E1 hB1;refine Yl Z Z Z ?_;rintro b2 w2 hb2 E2 hB2;refine Yl Z Z Z ?_;rintro b3 w3 hb3 E3 hB3;refine Zz Z<|Zn<|Zp<|Ql Kw (hB1.ext exq) Z<|Zu Z<|Zr Z (Yg (a:=.slice _ _ _) (b:=.int _ _) Js Z Z) (c1 _ _ ((Mono.mono exq h))) ?_;rintro u1 w4 ⟨E4,hO1⟩;refine Wo Z (Qg Z Z)<|Zr Z (Yg (a:=u1) (b:=.func _ _ _) Gs Z Z) (hcon _ _ _ _ _ exq ((hB1.ext exq)) ((hB2.ext exq)) ((hB3.ext E4)) ((Owned.read hO1))) ?_;rintro _ w5 ⟨rfl,E5⟩;refine Zz Z<|Zn<|Zy ?_;exact ⟨rfl,exq⟩
open Classical in
theorem impl_WithoutSet_ok (w:World) (v u:Value) (p q:List (List Int)) (h:ESl Ints w v p) (h':ESl Ints w u q) (a b:Nat) (ha:Nod p a) (hb:Nod q b):Does Tryz.prog 174 [v,.int .i64 (a:Int),u,.int .i64 (b:Int)] w (RetOB w XR (og (wosV p a q b)) (wosV p a q b).isSome):=by
 have la:a < p.length:=by have:=ha.2;omega
 have lb:b < q.length:=by have:=hb.2;omega
 have hle:=h.le
 have hp:=ha.1
 have hq:=hb.1
 obtain ⟨pa,pc,rfl,_⟩:=id h
 obtain ⟨qa,qc,rfl,_⟩:=id h'
 have n1 : ∀ (w:World) (v:Value),ESl Ints w v p→Does Tryz.prog 94 [v,.int .i64 (a:Int)] w (Ret w (.bool true)):=fun w v h=>by
  have:=Qu w v p h (a:Int);rwa [decide_eq_true ha] at this
 have n2 : ∀ (w:World) (v:Value),ESl Ints w v q→Does Tryz.prog 94 [v,.int .i64 (b:Int)] w (Ret w (.bool true)):=fun w v h=>by
  have:=Qu w v q h (b:Int);rwa [decide_eq_true hb] at this
 have c1 : ∀ (w:World) (v:Value),ESl Ints w v p→Does Tryz.prog 130 [v,.int .i64 (a:Int)] w (RetO w XI (ints (arr p a))):=fun w v h=>Us w v p h (a:Int) ⟨Ka,Ka⟩ (by rw [Ya Ka,hp.gr.row Ka];have:=hp.2.1;omega)
 have hfl:(ints (arr p a)).filter (fun x=>!decide (Bis p x.toNat q b))=ints ((arr p a).filter fun v=>!decide (Bis p v q b)):=by
  unfold ints
  rw [List.filter_map];rfl
 have hdel : ∀ (w0 w1:World) (t:Value) (lo hi:Nat) (b1 b2 b3:Nat),Ext w w0→Ext w0 w1→w0.heap.size≤lo→lo≤hi→hi≤w1.heap.size→Blk w0 b1 [.slice pa p.length pc]→Blk w0 b2 [.slice qa q.length qc]→Blk w0 b3 [.int .i64 (b:Int)]→OwnedB lo hi XI w1 t (ints (arr p a))→Does Tryz.prog 200 [t,.func (.func 201) [].toArray [.pointer (some ⟨b1,0,none⟩),.pointer (some ⟨b2,0,none⟩),.pointer (some ⟨b3,0,none⟩)].toArray] w1 (RetS lo hi w1 (fun y:Value=>y) (fun y w'=>Ints w' y (ints ((arr p a).filter fun v=>!decide (Bis p v q b))))):=by
  intro w0 w1 t lo hi b1 b2 b3 Ew E0 hlo hlh hhi hB1 hB2 hB3 ht
  have:=DeleteFunc_ok w1 t (ints (arr p a)) ht E0 hlo hlh hhi 201 [.pointer (some ⟨b1,0,none⟩),.pointer (some ⟨b2,0,none⟩),.pointer (some ⟨b3,0,none⟩)] (fun x=>decide (Bis p x.toNat q b)) Tryz.call201 (fun x w' hx e=>by
   simp only [ints,List.mem_map] at hx
   obtain ⟨j,hj,rfl⟩:=hx
   have hjl:=Xy hp.gr la hj
   have hp':ESl Ints w' (.slice pa p.length pc) p:=Mono.mono (Ew.trans e) h
   have hq':ESl Ints w' (.slice qa q.length qc) q:=Mono.mono (Ew.trans e) h'
   have hB1:=hB1.ext e
   have hB2:=hB2.ext e
   have hB3:=hB3.ext e
   have k1 : ∀ (w:World) (v u:Value),ESl Ints w v p→ESl Ints w u q→Does Tryz.prog 148 [v,.int .i64 (j:Int),u,.int .i64 (b:Int)] w (Ret w (.bool (decide (Bis p j q b)))):=fun w v u h h'=>by
    have:=sameSet_ok w v u p q h h' hp hq (j:Int) (b:Int) ⟨Ka,Ka⟩ ⟨Ka,Ka⟩
    simpa only [Int.toNat_natCast] using this
   refine Vh Tryz.func201 Z Tryz.results201 Tryz.ntmps201 Z ?_
   focus
    refine Zp<|Zz Z<|Zn<|Zp<|Ql Kw hB1 Z<|Zu Z<|Ql Kw hB2 Z<|Yk Km hB3 Z<|Zr Z (Qz (a:=.slice _ _ _) (b:=.int _ _) (c:=.slice _ _ _) (d:=.int _ _) Tryz.call148 Z Z Z Z) (k1 _ _ _ (hp') (hq')) ?_
    rintro _ w2 ⟨rfl,E1⟩;refine Zz Z<|Zn<|Zy ?_;exact ⟨rfl,E1⟩)
  rw [hfl] at this
  exact this
 have k2 : ∀ (w:World) (v u:Value),ESl Ints w v p→Ints w u (ints ((arr p a).filter fun v=>!decide (Bis p v q b)))→Does Tryz.prog 199 [v,u] w (RetOB w XR (og (wosV p a q b)) (wosV p a q b).isSome):=fun w v u h1 h2 =>
  Ty w v u p _ h1 h2 hp.gr (by have:=hp.2.1;omega) (fun x hx=>Xy hp.gr la (List.mem_filter.1 hx).1) (Nat.le_trans (List.length_filter_le _ _) (by have:=Mh hp.gr la;have:=hp.2.1;omega))
 refine Xp Tryz.func174 Z Tryz.results174 Tryz.ntmps174 Z ?_
 have stop3:True:=trivial
 focus
  refine Zp<|Yl Z Z Z ?_;rintro b1 w1 hb1 E1 hB1;have hlb1:=hB1.lt;refine Yl Z Z Z ?_;rintro b2 w2 hb2 E2 hB2;have hlb2:=hB2.lt;refine Yl Z Z Z ?_;rintro b3 w3 hb3 E3 hB3;have hlb3:=hB3.lt;refine Ys Z<|Zz Z<|Zn<|Zq<|Zp<|Ql Kw (hB1.ext exq) Z<|Zu Z<|Zr Z (Yg (a:=.slice _ _ _) (b:=.int _ _) Jx Z Z) (n1 _ _ ((Mono.mono exq h))) ?_;rintro _ w4 ⟨rfl,E4⟩;have hs4:=E4.size;refine Ym Z<|Yn Z (Vq (v:=.bool _) Z) (fun h1=>?_) (fun h1=>?_);contradiction;refine Ql Kw (hB2.ext exq) Z<|Yk Km (hB3.ext E4) Z<|Zr Z (Yg (a:=.slice _ _ _) (b:=.int _ _) Jx Z Z) (n2 _ _ ((Mono.mono exq h'))) ?_;rintro _ w5 ⟨rfl,E5⟩;have hs5:=E5.size
  refine Ym Z<|Vp Z<|Zn<|Xa Z fun h2=>?_;refine Zv<|Zq ?_
 clear stop3
 have hdl : ∀ (w1:World) (t:Value),Ext w5 w1→OwnedB w5.heap.size w1.heap.size XI w1 t (ints (arr p a))→Does Tryz.prog 200 [t,.func (.func 201) [].toArray [.pointer (some ⟨b1,0,none⟩),.pointer (some ⟨b2,0,none⟩),.pointer (some ⟨b3,0,none⟩)].toArray] w1 (RetS w5.heap.size w1.heap.size w1 (fun y:Value=>y) (fun y w'=>Ints w' y (ints ((arr p a).filter fun v=>!decide (Bis p v q b))))):=fun w1 t e ho=>hdel w5 w1 t _ _ b1 b2 b3 (by exact ((((E1.trans E2).trans E3).trans E4).trans E5)) e (Nat.le_refl _) e.size (Nat.le_refl _) (by exact (hB1.ext (((E2.trans E3).trans E4).trans E5))) (by exact (hB2.ext ((E3.trans E4).trans E5))) (by exact (hB3.ext (E4.trans E5))) ho
 clear hdel
 focus
  refine Vf<|Ql Kw (hB1.ext exq) Z<|Zu Z<|Zr Z (Yg (a:=.slice _ _ _) (b:=.int _ _) Js Z Z) (c1 _ _ ((Mono.mono exq h))) ?_;rintro u1 w6 ⟨E6,hO1⟩;refine Wo Z (Qg Z Z)<|Zr Z (Yg (a:=u1) (b:=.func _ _ _) Tryz.call200 Z Z) (hdl _ _ (E6) (hO1.toB)) ?_;rintro _ w7 ⟨y1,rfl,E7,hy1⟩;have hB1:=(hB1.ext ((((E2.trans E3).trans E4).trans E5).trans E6)).span E7 Ka;have E8:=(((((E1.trans E2).trans E3).trans E4).trans E5).trans E6).span E7 Ka;have E9:=(((((E2.trans E3).trans E4).trans E5).trans E6)).span E7 Ka;have szE9:=E9.size;refine Yr _ Z<|Zn<|Zp<|Ql Kw hB1 Z<|Vb _ Z<|Zr Z (Yg (a:=.slice _ _ _) Tryz.call199 Z Z) (k2 _ _ _ ((Mono.mono E8 h)) (hy1)) ?_;rintro _ w8 ⟨u2,rfl,E14,hO2⟩
  refine Un u2 Z<|Xv Z<|Yr u2 Z<|Zz Z<|Zn<|Zy ?_;refine Ve (v:=.tuple #[u2,.bool _]) Z ?_;exact ⟨_,rfl,exq,hO2.toB.o.mono Ka⟩
open Classical in
theorem nextSet_ok (w:World) (hM:EMx gMx w (.bool true) ()) (v:Value) (p:List (List Int)) (h:ESl Ints w v p) (hp:Pic p) (k n:Int) (t:List UInt8) (ht:t.length≤1048576) (hk1:k=1∨k=2∨t=[]) (hk2:k=3∨n=0) :
  Does Tryz.prog 138 [v,.agg #[.int .i64 k,str t,.int .i64 n]] w (RetOB w XR (og (madeV p ⟨k,t,n⟩)) (madeV p ⟨k,t,n⟩).isSome):=by
 have hle:=h.le
 have hp1:=hp.1
 have hp5:=hp.2.1
 have hN:Nod p (0:Nat):=⟨hp,Kc,Ka⟩
 obtain ⟨Q,hQ⟩ : ∃ Q,Q=(rdP t).getD []:=⟨_,rfl⟩
 obtain ⟨B,hB⟩ : ∃ B,B=(rdP t).isSome:=⟨_,rfl⟩
 obtain ⟨M,hMd⟩ : ∃ M,M=madeV p ⟨k,t,n⟩:=⟨_,rfl⟩
 rw [← hMd]
 have k0 : ∀ w,EMx gMx w (.bool true) ()→Does Tryz.prog 150 [str t] w (RetOB w XR Q B):=fun w hM=>hQ ▸ hB ▸ Nf w t hM ht
 refine Xp Tryz.func138 Z Tryz.results138 Tryz.ntmps138 Z ?_
 by_cases e0:k=0
 ·subst e0
  have et:t=[]:=by rcases hk1 with h | h | h;exact absurd h Kc;exact absurd h Kc;exact h
  have en:n=0:=by rcases hk2 with h | h;exact absurd h Kc;exact h
  subst et en
  have hm:M=pairV p 0 p 0:=hMd.trans (by simp [madeV])
  rw [hm]
  have k1 : ∀ (w:World) (v u:Value),ESl Ints w v p→ESl Ints w u p→Does Tryz.prog 172 [v,.int .i64 0,u,.int .i64 0] w (RetOB w XR (og (pairV p 0 p 0)) (pairV p 0 p 0).isSome):=fun w v u h1 h2=>impl_PairOf_ok w v u p p h1 h2 0 0 hN hN
  focus
   refine Zp<|Yl Z Z Z ?_;rintro b1 w1 hb1 E1 hB1;have hs1:=E1.size;refine Ys Z<|Zz Z<|Zn<|Zq<|Zp<|Vn Kq Kl Z<|Yk Km hB1 Z<|Zn<|Zw<|Zp<|Vm Z<|Zz Z<|Zn<|Zs Z (fun h1=>?_) (fun h1=>?_);refine Zp<|Vb v Z<|Vb v Z<|Zr Z (Qz (a:=v) (b:=.int _ _) (c:=v) (d:=.int _ _) Tryz.call172 Z Z Z Z) (k1 _ _ _ ((Mono.mono E1 h)) ((Mono.mono E1 h))) ?_;rintro _ w2 ⟨u1,rfl,E2,hO1⟩;refine Un u1 Z<|Xv Z<|Yr u1 Z<|Zz Z<|Zn<|Zy ?_;refine Ve (v:=.tuple #[u1,.bool _]) Z ?_;exact ⟨_,rfl,exq,hO1.toB.o.mono Ka⟩;contradiction
 by_cases e1:k=1
 ·subst e1
  have en:n=0:=by rcases hk2 with h | h;exact absurd h Kc;exact h
  subst en
  have hm:M=(rdP t).bind fun q=>(pairV q 0 q 0).bind fun s=>togV p 0 s 0:=hMd.trans (by simp only [madeV];rw [if_neg (fun h=>absurd h.1 Kc),if_pos Ki])
  cases hr:rdP t with
  | none =>
    rw [hr] at hm hB hQ
    rw [hm, show og (none.bind fun q => (pairV q 0 q 0).bind fun s => togV p 0 s 0) = [] from rfl, show (none.bind fun q => (pairV q 0 q 0).bind fun s => togV p 0 s 0).isSome = false from rfl]
    rw [hB, show (none : Option (List (List Int))).isSome = false from rfl] at k0
    focus
      refine Zp<|Yl Z Z Z ?_; rintro b1 w1 hb1 E1 hB1; refine Ys Z<|Zz Z<|Zn<|Zq<|Zp<|Vn Kq Kl Z<|Yk Km hB1 Z<|Zn<|Zw<|Zp<|Vm Z<|Zz Z<|Zn<|Vj Z fun h1 => ?_; refine Zp<|Vm Z<|Zz Z<|Zn<|Vj Z fun h2 => ?_; refine Zp<|Vm Z<|Zz Z<|Zn<|Zs Z (fun h3 => ?_) (fun h3 => ?_); refine Zp<|Vn Kq Ku Z<|Ul Kv hB1 Z<|Zr Z (Vx (a := .string _) Jt Z) (k0 _ ((Mono.mono E1 hM))) ?_; rintro _ w2 ⟨u1, rfl, E2, hO1⟩; refine Xl Z<|Un u1 Z<|Xv Z<|Yr u1 Z<|Zz Z<|Zn<|Zq<|Zp<|Yi Z<|Ym Z<|Zn<|Xg Z (fun h4 => ?_) (fun h4 => ?_)
      refine Zq<|Vf<|Ys Z<|Zz Z<|Zn<|Zy ?_; refine Ve (v := .tuple #[.slice _ _ _, .bool _]) Z ?_; exact ⟨_, rfl, exq, Owned.nil⟩; contradiction; contradiction
  | some q =>
    rw [hr] at hm hB hQ
    rw [hB, hQ, show (some q).isSome = true from rfl, show (some q).getD [] = q from rfl] at k0
    have hq := (Sa hr).1
    have hNq : Nod q (0 : Nat) := ⟨hq, Kc, by have := hq.1; omega⟩
    have k1 : ∀ (w : World) (v u : Value), ESl Ints w v q → ESl Ints w u q → Does Tryz.prog 172 [v, .int .i64 0, u, .int .i64 0] w (RetOB w XR (og (pairV q 0 q 0)) (pairV q 0 q 0).isSome) := fun w v u h1 h2 => impl_PairOf_ok w v u q q h1 h2 0 0 hNq hNq
    rw [hm, show ((some q).bind fun q => (pairV q 0 q 0).bind fun s => togV p 0 s 0) = (pairV q 0 q 0).bind fun s => togV p 0 s 0 from rfl]
    cases hs : pairV q 0 q 0 with
    | none =>
      rw [hs] at k1
      rw [show (none.bind fun s => togV p 0 s 0) = none from rfl]
      rw [show og none = [] from rfl, show (none : Option (List (List Int))).isSome = false from rfl] at k1 ⊢
      focus
        refine Zp<|Yl Z Z Z ?_; rintro b1 w1 hb1 E1 hB1; refine Ys Z<|Zz Z<|Zn<|Zq<|Zp<|Vn Kq Kl Z<|Yk Km hB1 Z<|Zn<|Zw<|Zp<|Vm Z<|Zz Z<|Zn<|Vj Z fun h1 => ?_; refine Zp<|Vm Z<|Zz Z<|Zn<|Vj Z fun h2 => ?_; refine Zp<|Vm Z<|Zz Z<|Zn<|Zs Z (fun h3 => ?_) (fun h3 => ?_); refine Zp<|Vn Kq Ku Z<|Ul Kv hB1 Z<|Zr Z (Vx (a := .string _) Jt Z) (k0 _ ((Mono.mono E1 hM))) ?_; rintro _ w2 ⟨u1, rfl, E2, hO1⟩; refine Xl Z<|Un u1 Z<|Xv Z<|Yr u1 Z<|Zz Z<|Zn<|Zq<|Zp<|Yi Z<|Ym Z<|Zn<|Xa Z fun h4 => ?_
        refine Zv<|Zp<|Vb u1 Z<|Vb u1 Z<|Zr Z (Qz (a := u1) (b := .int _ _) (c := u1) (d := .int _ _) Tryz.call172 Z Z Z Z) (k1 _ _ _ ((Owned.read hO1)) ((Owned.read hO1))) ?_; rintro _ w3 ⟨u2, rfl, E3, hO2⟩; refine Xl Z<|Un u2 Z<|Xv Z<|Yr u2 Z<|Zz Z<|Zn<|Zq<|Zp<|Yi Z<|Ym Z<|Zn<|Xg Z (fun h5 => ?_) (fun h5 => ?_); refine Zp<|Ys Z<|Zz Z<|Zn<|Zy ?_; refine Ve (v := .tuple #[.slice _ _ _, .bool _]) Z ?_; exact ⟨_, rfl, exq, Owned.nil⟩; contradiction; contradiction
    | some s =>
      rw [hs] at k1
      rw [show ((some s).bind fun s => togV p 0 s 0) = togV p 0 s 0 from rfl]
      rw [show og (some s) = s from rfl, show (some s).isSome = true from rfl] at k1
      have hsp := (Me hq hq hs).1
      have hNs : Nod s (0 : Nat) := ⟨hsp, Kc, by have := hsp.1; omega⟩
      have k2 : ∀ (w : World) (v u : Value), ESl Ints w v p → ESl Ints w u s → Does Tryz.prog 173 [v, .int .i64 0, u, .int .i64 0] w (RetOB w XR (og (togV p 0 s 0)) (togV p 0 s 0).isSome) := fun w v u h1 h2 => impl_TogetherOf_ok w v u p s h1 h2 0 0 hN hNs
      focus
        refine Zp<|Yl Z Z Z ?_; rintro b1 w1 hb1 E1 hB1; have hlb1 := hB1.lt; refine Ys Z<|Zz Z<|Zn<|Zq<|Zp<|Vn Kq Kl Z<|Yk Km hB1 Z<|Zn<|Zw<|Zp<|Vm Z<|Zz Z<|Zn<|Vj Z fun h1 => ?_; refine Zp<|Vm Z<|Zz Z<|Zn<|Vj Z fun h2 => ?_; refine Zp<|Vm Z<|Zz Z<|Zn<|Zs Z (fun h3 => ?_) (fun h3 => ?_); refine Zp<|Vn Kq Ku Z<|Ul Kv hB1 Z<|Zr Z (Vx (a := .string _) Jt Z) (k0 _ ((Mono.mono E1 hM))) ?_; rintro _ w2 ⟨u1, rfl, E2, hO1⟩; have hs2 := E2.size; refine Xl Z<|Un u1 Z<|Xv Z<|Yr u1 Z<|Zz Z<|Zn<|Zq<|Zp<|Yi Z<|Ym Z<|Zn<|Xa Z fun h4 => ?_
        refine Zv<|Zp<|Vb u1 Z<|Vb u1 Z<|Zr Z (Qz (a := u1) (b := .int _ _) (c := u1) (d := .int _ _) Tryz.call172 Z Z Z Z) (k1 _ _ _ ((Owned.read hO1)) ((Owned.read hO1))) ?_; rintro _ w3 ⟨u2, rfl, E3, hO2⟩; have hs3 := E3.size; refine Xl Z<|Un u2 Z<|Xv Z<|Yr u2 Z<|Zz Z<|Zn<|Zq<|Zp<|Yi Z<|Ym Z<|Zn<|Xa Z fun h5 => ?_; refine Zv<|Zp<|Vb v Z<|Vb u2 Z<|Zr Z (Qz (a := v) (b := .int _ _) (c := u2) (d := .int _ _) Tryz.call173 Z Z Z Z) (k2 _ _ _ ((Mono.mono exq h)) ((Owned.read hO2))) ?_; rintro _ w4 ⟨u3, rfl, E4, hO3⟩; refine Un u3 Z<|Xv Z<|Yr u3 Z<|Zz Z<|Zn<|Zy ?_; refine Ve (v := .tuple #[u3, .bool _]) Z ?_; exact ⟨_, rfl, exq, hO3.toB.o.mono Ka⟩; contradiction
 by_cases e2:k=2
 ·subst e2
  have en:n=0:=by rcases hk2 with h | h;exact absurd h Kc;exact h
  subst en
  have hm:M=(rdP t).bind fun q=>wosV p 0 q 0:=hMd.trans (by simp only [madeV];rw [if_neg (fun h=>absurd h.1 Kc),if_neg (fun h=>absurd h.1 Kc),if_pos Ki])
  cases hr:rdP t with
  | none =>
    rw [hr] at hm hB hQ
    rw [hm, show og (none.bind fun q => wosV p 0 q 0) = [] from rfl, show (none.bind fun q => wosV p 0 q 0).isSome = false from rfl]
    rw [hB, show (none : Option (List (List Int))).isSome = false from rfl] at k0
    focus
      refine Zp<|Yl Z Z Z ?_; rintro b1 w1 hb1 E1 hB1; refine Ys Z<|Zz Z<|Zn<|Zq<|Zp<|Vn Kq Kl Z<|Yk Km hB1 Z<|Zn<|Zw<|Zp<|Vm Z<|Zz Z<|Zn<|Vj Z fun h1 => ?_; refine Zp<|Vm Z<|Zz Z<|Zn<|Vj Z fun h2 => ?_; refine Zp<|Vm Z<|Zz Z<|Zn<|Vj Z fun h3 => ?_; refine Zp<|Vm Z<|Zz Z<|Zn<|Zs Z (fun h4 => ?_) (fun h4 => ?_); refine Zp<|Vn Kq Ku Z<|Ul Kv hB1 Z<|Zr Z (Vx (a := .string _) Jt Z) (k0 _ ((Mono.mono E1 hM))) ?_; rintro _ w2 ⟨u1, rfl, E2, hO1⟩
      refine Xl Z<|Un u1 Z<|Xv Z<|Yr u1 Z<|Zz Z<|Zn<|Zq<|Zp<|Yi Z<|Ym Z<|Zn<|Xg Z (fun h5 => ?_) (fun h5 => ?_); refine Zq<|Vf<|Ys Z<|Zz Z<|Zn<|Zy ?_; refine Ve (v := .tuple #[.slice _ _ _, .bool _]) Z ?_; exact ⟨_, rfl, exq, Owned.nil⟩; contradiction; contradiction
  | some q =>
    rw [hr] at hm hB hQ
    rw [hB, hQ, show (some q).isSome = true from rfl, show (some q).getD [] = q from rfl] at k0
    have hq := (Sa hr).1
    have hNq : Nod q (0 : Nat) := ⟨hq, Kc, by have := hq.1; omega⟩
    have k1 : ∀ (w : World) (v u : Value), ESl Ints w v p → ESl Ints w u q → Does Tryz.prog 174 [v, .int .i64 0, u, .int .i64 0] w (RetOB w XR (og (wosV p 0 q 0)) (wosV p 0 q 0).isSome) := fun w v u h1 h2 => impl_WithoutSet_ok w v u p q h1 h2 0 0 hN hNq
    rw [hm, show ((some q).bind fun q => wosV p 0 q 0) = wosV p 0 q 0 from rfl]
    focus
      refine Zp<|Yl Z Z Z ?_; rintro b1 w1 hb1 E1 hB1; have hlb1 := hB1.lt; refine Ys Z<|Zz Z<|Zn<|Zq<|Zp<|Vn Kq Kl Z<|Yk Km hB1 Z<|Zn<|Zw<|Zp<|Vm Z<|Zz Z<|Zn<|Vj Z fun h1 => ?_; refine Zp<|Vm Z<|Zz Z<|Zn<|Vj Z fun h2 => ?_; refine Zp<|Vm Z<|Zz Z<|Zn<|Vj Z fun h3 => ?_; refine Zp<|Vm Z<|Zz Z<|Zn<|Zs Z (fun h4 => ?_) (fun h4 => ?_); refine Zp<|Vn Kq Ku Z<|Ul Kv hB1 Z<|Zr Z (Vx (a := .string _) Jt Z) (k0 _ ((Mono.mono E1 hM))) ?_; rintro _ w2 ⟨u1, rfl, E2, hO1⟩; have hs2 := E2.size
      refine Xl Z<|Un u1 Z<|Xv Z<|Yr u1 Z<|Zz Z<|Zn<|Zq<|Zp<|Yi Z<|Ym Z<|Zn<|Xa Z fun h5 => ?_; refine Zv<|Zp<|Vb v Z<|Vb u1 Z<|Zr Z (Qz (a := v) (b := .int _ _) (c := u1) (d := .int _ _) Tryz.call174 Z Z Z Z) (k1 _ _ _ ((Mono.mono exq h)) ((Owned.read hO1))) ?_; rintro _ w3 ⟨u2, rfl, E3, hO2⟩; refine Un u2 Z<|Xv Z<|Yr u2 Z<|Zz Z<|Zn<|Zy ?_; refine Ve (v := .tuple #[u2, .bool _]) Z ?_; exact ⟨_, rfl, exq, hO2.toB.o.mono Ka⟩; contradiction
 by_cases e3:k=3
 ·subst e3
  have et:t=[]:=by rcases hk1 with h | h | h;exact absurd h Kc;exact absurd h Kc;exact h
  subst et
  by_cases en:Nod p n
  ·have k2 : ∀ (w:World) (v:Value),ESl Ints w v p→Does Tryz.prog 94 [v,.int .i64 n] w (Ret w (.bool true)):=fun w v h=>by
    have:=Qu w v p h n;rwa [decide_eq_true en] at this
   have hrow:p[0].length=p.length:=hp.row hp1
   have en2:=en.2
   obtain ⟨i,rfl⟩ : ∃ i:Nat,n=i:=⟨n.toNat,Ka⟩
   have hil:i < p.length:=Ka
   have hbit:bit p 0 i=p[0][i]:=by unfold bit;rw [Ya hp1,Ya (show i < p[0].length by omega)]
   have h01:p[0][i]=0∨p[0][i]=1:=(hp.2.2 _ (List.getElem_mem hp1)).2 _ (List.getElem_mem Ka)
   by_cases eb:p[0][i]=1
   ·have hm:M=some (lst p i):=hMd.trans (by simp only [madeV];rw [if_neg (fun h=>absurd h.1 Kc),if_neg (fun h=>absurd h.1 Kc),if_neg (fun h=>absurd h.1 Kc),if_pos ⟨trivial,trivial,Ka,Ka,by rw [Int.toNat_natCast,hbit,eb]⟩,Int.toNat_natCast])
    have hl:=lst_pic hp (a:=i) hil
    have k3 : ∀ (w:World) (v:Value),ESl Ints w v p→Does Tryz.prog 153 [v,.int .i64 (i:Int)] w (RetOB w XR (lst p i) true):=fun w v h=>by
     have:=leastOf_ok w v p h hp.gr i hil
     rwa [if_pos hl.2.1,decide_eq_true hl.2.1] at this
    have eb0 : ¬p[0][i]=0:=by rw [eb];decide
    rw [hm,show og (some (lst p i))=lst p i from rfl,show (some (lst p i)).isSome=true from rfl]
    focus
     refine Zp<|Yl Z Z Z ?_;rintro b1 w1 hb1 E1 hB1;have hlb1:=hB1.lt;refine Ys Z<|Zz Z<|Zn<|Zq<|Zp<|Vn Kq Kl Z<|Yk Km hB1 Z<|Zn<|Zw<|Zp<|Vm Z<|Zz Z<|Zn<|Vj Z fun h1=>?_;refine Zp<|Vm Z<|Zz Z<|Zn<|Zs Z (fun h2=>?_) (fun h2=>?_);refine Zq<|Zq<|Xx Xr Kb Z ?_;refine Qj v Z<|Uw Kq Kl Z<|Xs (v:=.int _ _) Z (fun w' hw'=>Vt Km Z ((hB1.ext hw').cell Z)) ?_;refine Ut Z (fun _ _=>Yg (a:=v) (b:=.int _ _) Jx Z Z) (fun w' hw'=>(k2 _ _ ((Mono.mono exq h)))) ?_;refine Wqnot Z<|Sb Z (fun _ _=>Vq (v:=.bool _) Z) (fun h3=>?_) (fun h3=>?_);contradiction
     refine Qj v Z<|Xn (k:=0) Kp Kt Kz Z (fun _=>Z) Z h E1 Z Kf ?_;rintro _ u1 hu1;refine Uw Kq Kl Z<|Xs (v:=.int _ _) Z (fun w' hw'=>Vt Km Z ((hB1.ext hw').cell Z)) ?_;refine Xn Kn Kl Km Z (fun _=>Z) Z hu1 E1 Z Kf ?_;rintro _ _ rfl;refine Rg Z<|Rc Z<|Xu (fun w2 E2=>?_);have hs2:=E2.size;refine Vj Z fun h4=>?_;refine Zv<|Zq<|Vf<|Vb v Z<|Vn Kq Kl Z<|Yk Km (hB1.ext E2) Z<|Zr Z (Yg (a:=v) (b:=.int _ _) Tryz.call153 Z Z) (k3 _ _ ((Mono.mono exq h))) ?_;rintro _ w3 ⟨u2,rfl,E3,hO1⟩
     refine Un u2 Z<|Xv Z<|Yr u2 Z<|Zz Z<|Zn<|Zy ?_;refine Ve (v:=.tuple #[u2,.bool _]) Z ?_;exact ⟨_,rfl,exq,hO1.toB.o.mono Ka⟩;contradiction
   ·have eb0:p[0][i]=0:=by omega
    have hm:M=none:=hMd.trans (by simp only [madeV];rw [if_neg (fun h=>absurd h.1 Kc),if_neg (fun h=>absurd h.1 Kc),if_neg (fun h=>absurd h.1 Kc),if_neg (fun h=>eb (by have:=h.2.2.2.2;rwa [Int.toNat_natCast,hbit] at this))])
    rw [hm,show og none=[] from rfl,show (none:Option (List (List Int))).isSome=false from rfl]
    focus
     refine Zp<|Yl Z Z Z ?_;rintro b1 w1 hb1 E1 hB1;refine Ys Z<|Zz Z<|Zn<|Zq<|Zp<|Vn Kq Kl Z<|Yk Km hB1 Z<|Zn<|Zw<|Zp<|Vm Z<|Zz Z<|Zn<|Vj Z fun h1=>?_;refine Zp<|Vm Z<|Zz Z<|Zn<|Zs Z (fun h2=>?_) (fun h2=>?_);refine Zq<|Zq<|Xx Xr Kb Z ?_;refine Qj v Z<|Uw Kq Kl Z<|Xs (v:=.int _ _) Z (fun w' hw'=>Vt Km Z ((hB1.ext hw').cell Z)) ?_;refine Ut Z (fun _ _=>Yg (a:=v) (b:=.int _ _) Jx Z Z) (fun w' hw'=>(k2 _ _ ((Mono.mono exq h)))) ?_;refine Wqnot Z<|Sb Z (fun _ _=>Vq (v:=.bool _) Z) (fun h3=>?_) (fun h3=>?_);contradiction
     refine Qj v Z<|Xn (k:=0) Kp Kt Kz Z (fun _=>Z) Z h E1 Z Kf ?_;rintro _ u1 hu1;refine Uw Kq Kl Z<|Xs (v:=.int _ _) Z (fun w' hw'=>Vt Km Z ((hB1.ext hw').cell Z)) ?_;refine Xn Kn Kl Km Z (fun _=>Z) Z hu1 E1 Z Kf ?_;rintro _ _ rfl;refine Rg Z<|Rc Z<|Xu (fun w2 E2=>?_);refine Zs Z (fun h4=>?_) (fun h4=>?_);refine Zp<|Ys Z<|Zz Z<|Zn<|Zy ?_;refine Ve (v:=.tuple #[.slice _ _ _,.bool _]) Z ?_;exact ⟨_,rfl,exq,Owned.nil⟩;contradiction;contradiction
  ·have k2 : ∀ (w:World) (v:Value),ESl Ints w v p→Does Tryz.prog 94 [v,.int .i64 n] w (Ret w (.bool false)):=fun w v h=>by
    have:=Qu w v p h n;rwa [decide_eq_false en] at this
   have hm:M=none:=hMd.trans (by simp only [madeV];rw [if_neg (fun h=>absurd h.1 Kc),if_neg (fun h=>absurd h.1 Kc),if_neg (fun h=>absurd h.1 Kc),if_neg (fun h=>en ⟨hp,h.2.2.1,by have:=h.2.2.2.1;omega⟩)])
   rw [hm,show og none=[] from rfl,show (none:Option (List (List Int))).isSome=false from rfl]
   focus
    refine Zp<|Yl Z Z Z ?_;rintro b1 w1 hb1 E1 hB1;refine Ys Z<|Zz Z<|Zn<|Zq<|Zp<|Vn Kq Kl Z<|Yk Km hB1 Z<|Zn<|Zw<|Zp<|Vm Z<|Zz Z<|Zn<|Vj Z fun h1=>?_;refine Zp<|Vm Z<|Zz Z<|Zn<|Zs Z (fun h2=>?_) (fun h2=>?_);refine Zq<|Zq<|Xx Xr Kb Z ?_;refine Qj v Z<|Uw Kq Kl Z<|Xs (v:=.int _ _) Z (fun w' hw'=>Vt Km Z ((hB1.ext hw').cell Z)) ?_;refine Ut Z (fun _ _=>Yg (a:=v) (b:=.int _ _) Jx Z Z) (fun w' hw'=>(k2 _ _ ((Mono.mono exq h)))) ?_;refine Wqnot Z<|Sb Z (fun _ _=>Vq (v:=.bool _) Z) (fun h3=>?_) (fun h3=>?_)
    refine Va Z<|Va Z<|Va Z<|Va Z<|Va Z<|Va Z<|Va Z<|Va Z<|Nt Z<|Xu (fun w2 E2=>?_);refine Vv Z ?_;refine Zq<|Vf<|Ys Z<|Zz Z<|Zn<|Zy ?_;refine Ve (v:=.tuple #[.slice _ _ _,.bool _]) Z ?_;exact ⟨_,rfl,exq,Owned.nil⟩;contradiction;contradiction
 have hm:M=none:=hMd.trans (by simp only [madeV];rw [if_neg (fun h=>e0 h.1),if_neg (fun h=>e1 h.1),if_neg (fun h=>e2 h.1),if_neg (fun h=>e3 h.1)])
 rw [hm,show og none=[] from rfl,show (none:Option (List (List Int))).isSome=false from rfl]
 focus
  refine Zp<|Yl Z Z Z ?_;rintro b1 w1 hb1 E1 hB1;refine Ys Z<|Zz Z<|Zn<|Zq<|Zp<|Vn Kq Kl Z<|Yk Km hB1 Z<|Zn<|Zw<|Zp<|Vm Z<|Zz Z<|Zn<|Vj Z fun h1=>?_;refine Zp<|Vm Z<|Zz Z<|Zn<|Vj Z fun h2=>?_;refine Zp<|Vm Z<|Zz Z<|Zn<|Vj Z fun h3=>?_;refine Zp<|Vm Z<|Zz Z<|Zn<|Vj Z fun h4=>?_;refine Zv<|Zp<|Ys Z<|Zz Z<|Zn<|Zy ?_;refine Ve (v:=.tuple #[.slice _ _ _,.bool _]) Z ?_;exact ⟨_,rfl,E1,Owned.nil⟩
theorem marksS_get : ∀ (p:List (List Int)) (k0:Int) (i:Nat) (hi:i < p.length),(marksS k0 p)[i]'(by rw [Rk];exact hi)=marks (k0+total (p.take i)) p[i].length:=by
 intro p
 induction p with
 | nil=>intro k0 i hi;cases hi
 | cons a p ih =>
   intro k0 i hi
   cases i with
   | zero => simp [marksS, total]
   | succ i =>
     simp only [marksS, List.getElem_cons_succ, List.take_succ_cons, total]
     rw [ih _ i (by simpa using hi)]
     congr 1; omega
theorem heldIntSS_ok (w:World) (v:Value) (p:List (List Int)) (k0:Int) (h:ESl Ints w v (marksS k0 p)) (hk0:0≤k0∧k0≤1048576) (hn:p.length≤1048576) (ht:total p≤1099511627776 - 1048576):Does Tryz.prog 89 [v,.int .i64 k0] w (Ret w (.int .i64 (k0+total p))):=by
 have hml:=Rk k0 p
 refine Vh Tryz.func89 Z Tryz.results89 Tryz.ntmps89 Z ?_
 focus
  refine Zp<|Vg Z<|Zn<|Zq<|Zp<|Vg Z<|Zn<|Zw ?_
 refine Vy [1,4,5,6,7,8,9,10,11,12,13,14,15,16,17,18,19] (fun (k,m)=>[(5,.int .i64 (k:Nat)),(1,.int .i64 (m:Int))]) (fun (k,m) w'=>Ext w w'∧k≤p.length∧m=k0+(total (p.take k):Nat)) (fun x=>p.length - x.1) (0,k0) Kg ?_ ?_
 ·exact ⟨Ext.refl _,Nat.zero_le _,by simp [total]⟩
 rintro ⟨k,m⟩ ρj w1 ⟨E1,hk,hm0⟩
 by_cases hlt:k < p.length
 ·have hg:=marksS_get p k0 k hlt
  have htk:=Tc p k
  have htk1:=Tc p (k+1)
  have hte:=total_ge p hlt
  have kH : ∀ (w:World) (u:Value),Ints w u ((marksS k0 p)[k]'Ka)→Does Tryz.prog 137 [u,.int .i64 m] w (Ret w (.int .i64 (k0+(total (p.take (k+1)):Nat)))):=fun w u h=>by
   rw [hg,← hm0] at h
   have:=heldIntS_ok w u p[k].length m h Ka Ka
   rw [show m+(p[k].length:Int)=k0+(total (p.take (k+1)):Nat) by omega] at this
   exact this
  focus
   refine Zq<|Zp<|Zu Z<|Vb v Z<|Vk Kp Z h<|Vi Z<|Zn<|Zs Z (fun h1=>?_) (fun h1=>?_);refine Zv<|Zq<|Zw<|Zp<|Vb v Z<|Zu Z<|Yb Kp Kt Kz Z (fun _=>Z) Z h E1 Z Kf ?_;rintro _ u1 hu1;refine Zu Z<|Zr Z (Yg (a:=u1) (b:=.int _ _) Tryz.call137 Z Z) (kH _ _ ((Mono.mono E1 hu1))) ?_;rintro _ w2 ⟨rfl,E2⟩;refine Vg Z<|Zn<|Zp<|Zu Z<|Vi Z<|Zn<|Zt Z fun h2=>?_;refine Zv<|Vf<|Zu Z<|Vr Z<|Vg Z<|Zn ?_;rotate_left;(exfalso;omega)
  refine ⟨((k+1,k0+(total (p.take (k+1)):Nat))),Kg,Kh,?_,?_⟩
  ·exact ⟨by first | assumption | exact E1.trans E2,Ka,rfl⟩
  ·simp only;omega
 ·obtain rfl:k=p.length:=by omega
  rw [List.take_length] at hm0
  subst hm0
  focus
   refine Zq<|Zp<|Zu Z<|Vb v Z<|Vk Kp Z h<|Vi Z<|Zn<|Zt Z fun h1=>?_;refine Vw ?_;refine Vd ?_;refine Zp<|Zu Z<|Vg Z<|Zn<|Zy ?_;exact ⟨rfl,E1⟩
end Go.Proofs.YtbgpppaljpngmaaGreatDoor
set_option linter.unusedVariables false
namespace Go.Hs
section
variable {β : Type} {P:Program} {n d:Nat} {N:Env→World→Prop} {ρ : Env} {w:World} {all:Array Oper} {rest:List Oper} {t e ty:TypeId} {pos:String} {after:Array Edge} {g:Option (Nat × Bool)} {x:Operand} {k:IntKind}
theorem Wo_makeN (e2:TypeId) (Y:World→List Nat→Value→β→Prop) (hw:wantedE all ⟨some d,.makeSlice t x x,ty,pos,after,g⟩ ρ = true) (hel:El P t e (.slice none 0 0)) {m:Nat} (hx:evalE ρ x=.int k (m:Int)) (ha:m≤1099511627776)
  (hk : ∀ b w1,w.heap.size≤b→b < w1.heap.size→Ext w w1→Owned w.heap.size (XSl e (XSl e2 Y)) w1 (.slice (some ⟨b,0,none⟩) m m) (List.replicate m [])→Wops P n all rest N (upd ρ d (.slice (some ⟨b,0,none⟩) m m)) w1) :
  Wops P n all (⟨some d,.makeSlice t x x,ty,pos,after,g⟩::rest) N ρ w:=Wo_make hw hel hx ha (fun w=>XSl.nil w) hk
end
theorem opc_val2 {P:Program} {ρ : Env} {w:World} {ty:TypeId} {f:FuncId} {cap:List Value} {x x0 x1:Operand} {ts:Array TypeId} {a b:Value} (hc : ∀ args w,Sem.run P (callFunc f args) w=.ok (.enter f args) w)
  (hx:evalE ρ x=.func (.func f) [].toArray cap.toArray) (h0:evalE ρ x0=a) (h1:evalE ρ x1=b) :
  OpC P (.call { callee:=.value x,args:=#[x0,x1],argTypes:=ts }) ty ρ w f (a::b::cap):=opc_val (first:=[]) (vs:=[a,b]) hc hx (by simp [h0,h1])
end Go.Hs
namespace Go.Proofs.YtbgpppaljpngmaaGreatDoor
open Go.Hs
set_option maxRecDepth 10000
set_option maxHeartbeats 4000000
set_option linter.unusedVariables false
set_option linter.unusedSimpArgs false
abbrev XR3:=XSl 23 XR
theorem toIntSSS_ok (w:World) (v:Value) (p:List (List (List Int))) (h:ESl (ESl Ints) w v p) (hl:p.length≤1048576) (hr : ∀ q ∈ p,q.length≤1048576∧∀ r ∈ q,r.length≤1048576):Does Tryz.prog 83 [v] w (RetO w XR3 p):=by
 have hrk : ∀ (k:Nat) (hk:k < p.length),p[k].length≤1048576∧∀ r ∈ p[k],r.length≤1048576:=fun k hk=>hr _ (List.getElem_mem hk)
 refine Vh Tryz.func83 Z Tryz.results83 Tryz.ntmps83 Z ?_
 focus
  refine Zp<|Ys Z<|Zn<|Zp<|Vb v Z<|Vk Jc Z h<|Wo_makeN 88 (XSl 3 XInt) Z el24 Z Ka ?_;rintro b1 w1 hb1 b1lt E1 hO1;refine Ys Z<|Zn<|Zq<|Zp<|Vg Z<|Zn<|Zw ?_
 refine Vy [4,8,9,10,11,12,13,14,15,16,17,18,19,20,21] (fun (k:Nat)=>[(4,.int .i64 (k:Nat))]) (fun k w'=>Ext w w'∧k≤p.length∧Owned w.heap.size XR3 w' (.slice (some ⟨b1,0,none⟩) p.length p.length) (p.take k++List.replicate (p.length - k) [])) (fun x=>p.length - x) 0 Kg ?_ ?_
 ·exact ⟨Kd,Nat.zero_le _,by simpa using hO1⟩
 rintro k ρj w2 ⟨E2,hk,hO2⟩
 by_cases hlt:k < p.length
 ·have hrr:=hrk k hlt
  have hr1:=hrr.1
  have hr2:=hrr.2
  focus
   have szE2:=E2.size;refine Zq<|Zp<|Zu Z<|Vb v Z<|Vk Jc Z h<|Vi Z<|Zn<|Zs Z (fun h1=>?_) (fun h1=>?_);refine Zv<|Zq<|Zw<|Vf<|Up Z<|Zu Z<|Vb v Z<|Zu Z<|Yb Jc Ja Kw Z (fun _=>Z) Z h E2 Z Kf ?_;rintro _ u1 hu1;refine Zr Z (Vx (a:=u1) Tryz.call82 Z) (toIntSS_ok _ _ _ ((Mono.mono E2 hu1)) Kd Kd) ?_;rintro u2 w3 ⟨E3,hO3⟩;refine Wo Z (Yv Jc Ja Z Z Ka) ?_;refine Nb Z Ja Z Z (hO2.toB.ext E3) Kf hO3.toB.o Ka Ka ?_;rintro w4 hO2 On1 K1 hz1;have E4:=On1.ext1 (E2.trans E3) Ka
   refine Zn<|Vf<|Zu Z<|Vr Z<|Vg Z<|Zn ?_;rotate_left;(exfalso;omega)
  refine ⟨(k+1),Kg,Kh,?_,?_⟩
  ·refine ⟨Kd,Ka,?_⟩
   rw [← Ns _ _ Ka];simpa using hO2
  ·omega
 ·obtain rfl:k=p.length:=by omega
  focus
   refine Zq<|Zp<|Zu Z<|Vb v Z<|Vk Jc Z h<|Vi Z<|Zn<|Zt Z fun h1=>?_;refine Vw ?_;refine Vd ?_;refine Zq<|Vf<|Up Z<|Ys Z<|Zn<|Zy ?_;refine ⟨E2,(congrArg (Owned _ _ _ _) ?_).mp (hO2.toB.o.mono Ka)⟩
  simp
theorem eqIntSSS_ok (w:World) (v u:Value) (xs ys:List (List (List Int))) (h:ESl (ESl Ints) w v xs) (h':ESl (ESl Ints) w u ys):Does Tryz.prog 85 [v,u] w (Ret w (.bool (decide (xs=ys)))):=by
 have hle:=h.le
 have hle':=h'.le
 refine Vh Tryz.func85 Z Tryz.results85 Tryz.ntmps85 Z ?_
 focus
  refine Zp<|Zz Z<|Zn<|Zq<|Zp<|Vb v Z<|Vk Jc Z h<|Vb u Z<|Vk Jc Z h'<|Xo Z<|Zn<|Vz Z (fun h1=>?_) (fun h1=>?_);refine Zp<|Zz Z<|Zn<|Zy ?_;refine Ve (v:=.bool _) Z ?_;refine ⟨congrArg Value.bool ?_,(Ext.refl _)⟩;rotate_left;refine Zv<|Zq<|Zp<|Vg Z<|Zn<|Zw ?_;rotate_left
 ·exact (decide_eq_false (fun e=>by subst e;omega)).symm
 refine Vy [4,5,11,12,13,14,15,16,17,18,19,20,21,22,23,24,25,26] (fun (k:Nat)=>[(5,.int .i64 (k:Nat))]) (fun k w'=>Ext w w'∧k≤xs.length∧xs.take k=ys.take k) (fun x=>xs.length - x) 0 Kg ?_ ?_
 ·exact ⟨Ext.refl _,Nat.zero_le _,Ki⟩
 rintro k ρj w1 ⟨E1,hk,he⟩
 focus
  refine Zq<|Zp<|Zu Z<|Vb v Z<|Vk Jc Z h<|Vi Z<|Zn<|Zs Z (fun h2=>?_) (fun h2=>?_);refine Zv<|Zq<|Zw<|Zq<|Xx Xr Kb Z ?_;refine Qj v Z<|Rf Z<|Xn Jc Ja Kw Z (fun _=>Z) Z h E1 Z Kf ?_;rintro _ u1 hu1;refine Qj u Z<|Rf Z<|Xn Jc Ja Kw Z (fun _=>Z) Z h' E1 Z Kf ?_;rintro _ u2 hu2;refine Ut Z (fun _ _=>Yg (a:=u1) (b:=u2) Tryz.call84 Z Z) (fun w' hw'=>(eqIntSS_ok _ _ _ _ _ ((Mono.mono exq hu1)) ((Mono.mono exq hu2)))) ?_;refine Wqnot Z<|Xu (fun w2 E2=>?_);refine Vz Z (fun h3=>?_) (fun h3=>?_);refine Zp<|Zz Z<|Zn<|Zy ?_
  refine Ve (v:=.bool _) Z ?_;refine ⟨congrArg Value.bool ?_,exq⟩;rotate_left;refine Zv<|Vf<|Zu Z<|Vr Z<|Vg Z<|Zn ?_;rotate_left;refine Vw ?_;refine Vd ?_;refine Zp<|Zz Z<|Zn<|Zy ?_;refine Ve (v:=.bool _) Z ?_;refine ⟨congrArg Value.bool ?_,E1⟩;rotate_left
 ·exact (decide_eq_false (ne_at (k:=k) Ka Ka Kd)).symm
 ·refine ⟨(k+1),Kg,Kh,?_,?_⟩
  ·exact ⟨E1.trans E2,Ka,(So Ka Ka).2 ⟨he,Kd⟩⟩
  ·omega
 ·obtain rfl:k=xs.length:=by omega
  exact (decide_eq_true (ext_take Ka he)).symm
theorem markIntSS_mf (w:World) {fp:List Nat} (v:Value) (p:List (List Int)) (hX:XR w fp v p) (hnd:fp.Nodup) (k0:Int) (hk0:0≤k0∧k0≤1099511627776) (hn:p.length≤1048576) (ht:k0+total p≤1099511627776) :
  Does Tryz.prog 86 [v,.int .i64 k0] w (RetMF fp w (.int .i64 (k0+total p)) XR v (marksS k0 p)):=by
 by_cases h0:p=[]
 ·subst h0
  have hR:ESl Ints w v []:=Shows.shows hX
  refine Vh Tryz.func86 Z Tryz.results86 Tryz.ntmps86 Z ?_
  focus
   refine Zp<|Vg Z<|Zn<|Zq<|Zp<|Vg Z<|Zn<|Zw ?_
  refine Vy [1,5,6,7,8,9,10,11,12,13,14,15,16,17] (fun (k:Nat)=>[(5,.int .i64 (k:Nat)),(1,.int .i64 k0)]) (fun k w'=>w'=w∧k=0) (fun x=>0) 0 Kg ?_ ?_
  ·exact ⟨rfl,rfl⟩
  rintro k ρj w1 ⟨rfl,rfl⟩
  focus
   refine Zq<|Zp<|Zu Z<|Vb v Z<|Vk Kp Z hR<|Vi Z<|Zn<|Vj Z fun h1=>?_;refine Vw ?_;refine Vd ?_;refine Zp<|Zu Z<|Vg Z<|Zn<|Zy ?_;refine Ve (v:=.int _ _) Z ?_
  exact ⟨by simp [total],Only.refl,hX⟩
 obtain ⟨b,c,_,_,rfl,_⟩:=hX.lens hnd (i:=0) (List.length_pos_iff.2 h0)
 refine Vh Tryz.func86 Z Tryz.results86 Tryz.ntmps86 Z ?_
 focus
  refine Zp<|Vg Z<|Zn<|Zq<|Zp<|Vg Z<|Zn<|Zw ?_
 refine Vy [1,5,6,7,8,9,10,11,12,13,14,15,16,17] (fun (k,m)=>[(5,.int .i64 (k:Nat)),(1,.int .i64 (m:Int))]) (fun (k,m) w'=>Only fp w w'∧k≤p.length∧m=k0+(total (p.take k):Nat)∧XR w' fp (.slice (some ⟨b,0,none⟩) p.length c) (marksS k0 (p.take k)++p.drop k)) (fun x=>p.length - x.1) (0,k0) Kg ?_ ?_
 ·exact ⟨Only.refl,Nat.zero_le _,by simp [total],by simpa [marksS] using hX⟩
 rintro ⟨k,m⟩ ρj w1 ⟨S1,hk,hm0,hX1⟩
 have hml:(marksS k0 (p.take k)++p.drop k).length=p.length:=by simp [Rk];omega
 by_cases hlt:k < p.length
 ·have htk:=total_ge p hlt
  have htl:=Tc p (k+1)
  obtain ⟨b',c',f,u,e,hcell,hXu,hfn,hsub,hback⟩:=hX1.lens hnd (i:=k) Ka
  simp only [Value.slice.injEq,Option.some.injEq,Addr.mk.injEq] at e
  obtain ⟨⟨rfl,_⟩,_,rfl⟩:=e
  have hrow:(marksS k0 (p.take k)++p.drop k)[k]'Ka=p[k]:=by
   rw [List.getElem_append_right (by rw [Rk];simp;omega)]
   simp [Rk,Nat.min_eq_left hk]
  rw [hrow] at hXu
  have hfe:=XI_fp hXu
  have hcall : ∀ w2,w2=w1→Does Tryz.prog 136 [u,.int .i64 m] w2 (RetS 0 w2.heap.size w2 (Value.int .i64) (fun n w'=>n=m+p[k].length∧Only fp w2 w'∧XR w' fp (.slice (some ⟨b,0,none⟩) p.length c) (marksS k0 (p.take (k+1))++p.drop (k+1)))):=by
   rintro w2 rfl
   obtain ⟨lb,hb,hin,hlo⟩ : ∃ lb hb,(∀ k ∈ f,lb≤k∧k < hb)∧(∀ k,lb≤k→k < hb→k ∈ f):=by
    cases hob:u.ownBlock with
    | none=>rw [hob] at hfe;subst hfe;exact ⟨0,0,Ki,fun k _ h=>Ka⟩
    | some br=>rw [hob] at hfe;subst hfe;exact ⟨br,br+1,Ki,fun k h1 h2=>by simp;omega⟩
   refine (markIntS_ok w2 (lo:=lb) (hi:=hb) u p[k] ⟨f,hfn,hin,hXu⟩ m Ka Ka).mono ?_
   rintro r w3 ⟨rfl,Sp,fp',h1,h2,h3⟩
   have hfe':=XI_fp h3
   have hff:fp'=f:=hfe'.trans hfe.symm
   subst hff
   have hblk : ∀ j,j ∉ fp'→j < w2.heap.size→w3.heap[j]? = w2.heap[j]?:=fun j hj hl=>Sp.block j (by
    rcases Nat.lt_or_ge j lb with h5 | h5
    ·exact .inl h5
    ·right
     rcases Nat.lt_or_ge j hb with h6 | h6
     ·exact absurd (hlo j h5 h6) hj
     ·exact h6) hl
   refine ⟨_,Z,⟨Sp.os,Sp.tape,Sp.output,Sp.size,fun j hj hl=>Ka⟩,Z,⟨Sp.os,Sp.tape,Sp.output,Sp.size,fun j hj hl=>hblk j (fun hm=>hj (hsub j hm)) hl⟩,?_⟩
   have:=hback w3 _ hblk h3
   rw [hm0,marksS_set hlt] at this
   exact this
  have hcell':w1.cell? ⟨b,0+k,none⟩=some u:=by rw [Nat.zero_add];exact hcell
  clear hback hX1
  focus
   refine Zq<|Zp<|Zu Z<|Up Z<|Wo Z (Qf Kp Z)<|Vi Z<|Zn<|Zs Z (fun h1=>?_) (fun h1=>?_);refine Zv<|Zq<|Zw<|Vf<|Up Z<|Zu Z<|Wo Z (Yv Kp Kt Z Z Ka) ?_;refine Wo Z (Vt Kz Z Kd) ?_;refine Zu Z<|Zr Z (Yg (a:=u) (b:=.int _ _) Tryz.call136 Z Z) (hcall _ (by rfl)) ?_;rintro _ w2 ⟨y1,rfl,E1,hy1⟩;refine Vg Z<|Zn<|Vf<|Zu Z<|Vr Z<|Vg Z<|Zn ?_;rotate_left;(exfalso;omega)
  refine ⟨((k+1,y1)),Kg,Kh,?_,?_⟩
  ·refine ⟨S1.trans hy1.2.1,Ka,?_,hy1.2.2⟩
   rw [hy1.1,hm0,htk];omega
  ·simp only;omega
 ·obtain rfl:k=p.length:=by omega
  focus
   refine Zq<|Zp<|Zu Z<|Up Z<|Wo Z (Qf Kp Z)<|Vi Z<|Zn<|Zt Z fun h1=>?_;refine Vw ?_;refine Vd ?_;refine Zp<|Zu Z<|Vg Z<|Zn<|Zy ?_;refine Ve (v:=.int _ _) Z ?_
  exact ⟨by rw [hm0,List.take_length],S1,by simpa using hX1⟩
theorem markIntSSS_mf (w:World) {fp:List Nat} (v:Value) (p:List (List (List Int))) (hX:XSl 23 XR w fp v p) (hnd:fp.Nodup) (k0:Int) (hk0:0≤k0∧k0≤1099511627776) (hn:p.length≤1048576) (hq : ∀ q ∈ p,q.length≤1048576) (ht:k0+total3 p≤1099511627776) :
  Does Tryz.prog 87 [v,.int .i64 k0] w (RetMF fp w (.int .i64 (k0+total3 p)) (XSl 23 XR) v (marks3 k0 p)):=by
 by_cases h0:p=[]
 ·subst h0
  have hR:ESl (ESl Ints) w v []:=Shows.shows hX
  refine Vh Tryz.func87 Z Tryz.results87 Tryz.ntmps87 Z ?_
  focus
   refine Zp<|Vg Z<|Zn<|Zq<|Zp<|Vg Z<|Zn<|Zw ?_
  refine Vy [1,5,6,7,8,9,10,11,12,13,14,15,16,17] (fun (k:Nat)=>[(5,.int .i64 (k:Nat)),(1,.int .i64 k0)]) (fun k w'=>w'=w∧k=0) (fun x=>0) 0 Kg ?_ ?_
  ·exact ⟨rfl,rfl⟩
  rintro k ρj w1 ⟨rfl,rfl⟩
  focus
   refine Zq<|Zp<|Zu Z<|Vb v Z<|Vk Jc Z hR<|Vi Z<|Zn<|Vj Z fun h1=>?_;refine Vw ?_;refine Vd ?_;refine Zp<|Zu Z<|Vg Z<|Zn<|Zy ?_;refine Ve (v:=.int _ _) Z ?_
  exact ⟨by simp [total3],Only.refl,hX⟩
 obtain ⟨b,c,_,_,rfl,_⟩:=hX.lens hnd (i:=0) (List.length_pos_iff.2 h0)
 refine Vh Tryz.func87 Z Tryz.results87 Tryz.ntmps87 Z ?_
 focus
  refine Zp<|Vg Z<|Zn<|Zq<|Zp<|Vg Z<|Zn<|Zw ?_
 refine Vy [1,5,6,7,8,9,10,11,12,13,14,15,16,17] (fun (k,m)=>[(5,.int .i64 (k:Nat)),(1,.int .i64 (m:Int))]) (fun (k,m) w'=>Only fp w w'∧k≤p.length∧m=k0+(total3 (p.take k):Nat)∧XSl 23 XR w' fp (.slice (some ⟨b,0,none⟩) p.length c) (marks3 k0 (p.take k)++p.drop k)) (fun x=>p.length - x.1) (0,k0) Kg ?_ ?_
 ·exact ⟨Only.refl,Nat.zero_le _,by simp [total3],by simpa [marks3] using hX⟩
 rintro ⟨k,m⟩ ρj w1 ⟨S1,hk,hm0,hX1⟩
 have hml:(marks3 k0 (p.take k)++p.drop k).length=p.length:=by simp [Sw];omega
 by_cases hlt:k < p.length
 ·have htk:=total3_ge p hlt
  have htl:=Nc p (k+1)
  obtain ⟨b',c',f,u,e,hcell,hXu,hfn,hsub,hback⟩:=hX1.lens hnd (i:=k) Ka
  simp only [Value.slice.injEq,Option.some.injEq,Addr.mk.injEq] at e
  obtain ⟨⟨rfl,_⟩,_,rfl⟩:=e
  have hrow:(marks3 k0 (p.take k)++p.drop k)[k]'Ka=p[k]:=by
   rw [List.getElem_append_right (by rw [Sw];simp;omega)]
   simp [Sw,Nat.min_eq_left hk]
  rw [hrow] at hXu
  have hcall : ∀ w2,w2=w1→Does Tryz.prog 86 [u,.int .i64 m] w2 (RetS 0 w2.heap.size w2 (Value.int .i64) (fun n w'=>n=m+total p[k]∧Only fp w2 w'∧XSl 23 XR w' fp (.slice (some ⟨b,0,none⟩) p.length c) (marks3 k0 (p.take (k+1))++p.drop (k+1)))):=by
   rintro w2 rfl
   refine (markIntSS_mf w2 u p[k] hXu hfn m Ka (hq _ (List.getElem_mem hlt)) Ka).mono ?_
   rintro r w3 ⟨rfl,O,h3⟩
   refine ⟨_,Z,⟨O.os,O.tape,O.output,O.size,fun j hj hl=>Ka⟩,Z,O.mono hsub,?_⟩
   have:=hback w3 _ O.block h3
   rw [hm0,marks3_set hlt] at this
   exact this
  have hcell':w1.cell? ⟨b,0+k,none⟩=some u:=by rw [Nat.zero_add];exact hcell
  clear hback hX1
  focus
   refine Zq<|Zp<|Zu Z<|Up Z<|Wo Z (Qf Jc Z)<|Vi Z<|Zn<|Zs Z (fun h1=>?_) (fun h1=>?_);refine Zv<|Zq<|Zw<|Vf<|Up Z<|Zu Z<|Wo Z (Yv Jc Ja Z Z Ka) ?_;refine Wo Z (Vt Kw Z Kd) ?_;refine Zu Z<|Zr Z (Yg (a:=u) (b:=.int _ _) Tryz.call86 Z Z) (hcall _ (by rfl)) ?_;rintro _ w2 ⟨y1,rfl,E1,hy1⟩;refine Vg Z<|Zn<|Vf<|Zu Z<|Vr Z<|Vg Z<|Zn ?_;rotate_left;(exfalso;omega)
  refine ⟨((k+1,y1)),Kg,Kh,?_,?_⟩
  ·refine ⟨S1.trans hy1.2.1,Ka,?_,hy1.2.2⟩
   rw [hy1.1,hm0,htk];omega
  ·simp only;omega
 ·obtain rfl:k=p.length:=by omega
  focus
   refine Zq<|Zp<|Zu Z<|Up Z<|Wo Z (Qf Jc Z)<|Vi Z<|Zn<|Zt Z fun h1=>?_;refine Vw ?_;refine Vd ?_;refine Zp<|Zu Z<|Vg Z<|Zn<|Zy ?_;refine Ve (v:=.int _ _) Z ?_
  exact ⟨by rw [hm0,List.take_length],S1,by simpa using hX1⟩
theorem markIntSSS_ok (w:World) {lo hi:Nat} (v:Value) (p:List (List (List Int))) (h:OwnedB lo hi (XSl 23 XR) w v p) (k0:Int) (hk0:0≤k0∧k0≤1099511627776) (hn:p.length≤1048576) (hq : ∀ q ∈ p,q.length≤1048576) (ht:k0+total3 p≤1099511627776) :
  Does Tryz.prog 87 [v,.int .i64 k0] w (RetSO lo hi w (.int .i64 (k0+total3 p)) (XSl 23 XR) v (marks3 k0 p)):=by
 obtain ⟨fp,h1,h2,h3⟩:=h
 refine (markIntSSS_mf w v p h3 h1 k0 hk0 hn hq ht).mono ?_
 rintro r w' ⟨rfl,O,h4⟩
 exact ⟨rfl,Span.of_only O h2,fp,h1,h2,h4⟩
theorem heldIntSSS_ok (w:World) (v:Value) (p:List (List (List Int))) (k0:Int) (h:ESl (ESl Ints) w v (marks3 k0 p)) (hk0:0≤k0) (hn:p.length≤1048576) (hq : ∀ q ∈ p,q.length≤1048576) (ht:k0+total3 p≤1048576):Does Tryz.prog 90 [v,.int .i64 k0] w (Ret w (.int .i64 (k0+(total3 p:Nat)))):=by
 have hml:=Sw k0 p
 refine Vh Tryz.func90 Z Tryz.results90 Tryz.ntmps90 Z ?_
 focus
  refine Zp<|Vg Z<|Zn<|Zq<|Zp<|Vg Z<|Zn<|Zw ?_
 refine Vy [1,4,5,6,7,8,9,10,11,12,13,14,15,16,17,18,19] (fun (k,m)=>[(5,.int .i64 (k:Nat)),(1,.int .i64 (m:Int))]) (fun (k,m) w'=>Ext w w'∧k≤p.length∧m=k0+(total3 (p.take k):Nat)) (fun x=>p.length - x.1) (0,k0) Kg ?_ ?_
 ·exact ⟨Ext.refl _,Nat.zero_le _,by simp [total3]⟩
 rintro ⟨k,m⟩ ρj w1 ⟨E1,hk,hm0⟩
 by_cases hlt:k < p.length
 ·have hg:=marks3_get p k0 k hlt
  have htk:=Nc p k
  have htk1:=Nc p (k+1)
  have hte:=total3_ge p hlt
  have kH : ∀ (w:World) (u:Value),ESl Ints w u ((marks3 k0 p)[k]'Ka)→Does Tryz.prog 89 [u,.int .i64 m] w (Ret w (.int .i64 (k0+(total3 (p.take (k+1)):Nat)))):=fun w u h=>by
   rw [hg,← hm0] at h
   have:=heldIntSS_ok w u p[k] m h Ka (hq _ (List.getElem_mem hlt)) Ka
   rw [show m+((total p[k]:Nat):Int)=k0+(total3 (p.take (k+1)):Nat) by omega] at this
   exact this
  focus
   refine Zq<|Zp<|Zu Z<|Vb v Z<|Vk Jc Z h<|Vi Z<|Zn<|Zs Z (fun h1=>?_) (fun h1=>?_);refine Zv<|Zq<|Zw<|Zp<|Vb v Z<|Zu Z<|Yb Jc Ja Kw Z (fun _=>Z) Z h E1 Z Kf ?_;rintro _ u1 hu1;refine Zu Z<|Zr Z (Yg (a:=u1) (b:=.int _ _) Tryz.call89 Z Z) (kH _ _ ((Mono.mono E1 hu1))) ?_;rintro _ w2 ⟨rfl,E2⟩;refine Vg Z<|Zn<|Zp<|Zu Z<|Vi Z<|Zn<|Zt Z fun h2=>?_;refine Zv<|Vf<|Zu Z<|Vr Z<|Vg Z<|Zn ?_;rotate_left;(exfalso;omega)
  refine ⟨((k+1,k0+(total3 (p.take (k+1)):Nat))),Kg,Kh,?_,?_⟩
  ·exact ⟨by first | assumption | exact E1.trans E2,Ka,rfl⟩
  ·simp only;omega
 ·obtain rfl:k=p.length:=by omega
  rw [List.take_length] at hm0
  subst hm0
  focus
   refine Zq<|Zp<|Zu Z<|Vb v Z<|Vk Jc Z h<|Vi Z<|Zn<|Zt Z fun h1=>?_;refine Vw ?_;refine Vd ?_;refine Zp<|Zu Z<|Vg Z<|Zn<|Zy ?_;exact ⟨rfl,E1⟩
theorem eqDesk_ok (w:World) (u1 u2 v1 v2:Value) (p p':List (List Int)) (q q':List (List (List Int))) (h1:ESl Ints w u1 p) (h2:ESl (ESl Ints) w u2 q) (h3:ESl Ints w v1 p') (h4:ESl (ESl Ints) w v2 q') :
  Does Tryz.prog 29 [.agg #[u1,u2],.agg #[v1,v2]] w (Ret w (.bool (decide (p=p'∧q=q')))):=by
 refine Vh Tryz.func29 Z Tryz.results29 Tryz.ntmps29 Z ?_
 focus
  refine Zp<|Yl Z Z Z ?_;rintro b1 w1 hb1 E1 hB1;have hlb1:=hB1.lt;have hs1:=E1.size;refine Yl Z Z Z ?_;rintro b2 w2 hb2 E2 hB2;have hlb2:=hB2.lt;have hs2:=E2.size;refine Zz Z<|Zn<|Zq<|Zp<|Vn Ky Ja Z<|Yu u1 Kw (hB1.ext E2) Z<|Vn Ky Ja Z<|Yu v1 Kw hB2 Z<|Zr Z (Yg (a:=u1) (b:=v1) Tryz.call84 Z Z) (eqIntSS_ok _ _ _ _ _ ((Mono.mono exq h1)) ((Mono.mono exq h3))) ?_;rintro _ w3 ⟨rfl,E3⟩;have hs3:=E3.size;refine Ym Z<|Zn<|Vz Z (fun h5=>?_) (fun h5=>?_);refine Zp<|Zz Z<|Zn<|Zy ?_;refine Ve (v:=.bool _) Z ?_;refine ⟨congrArg Value.bool ?_,exq⟩;rotate_left
  refine Zv<|Zq<|Zp<|Vn Ky Jb Z<|Yu u2 Jf (hB1.ext exq) Z<|Vn Ky Jb Z<|Yu v2 Jf (hB2.ext E3) Z<|Zr Z (Yg (a:=u2) (b:=v2) Tryz.call85 Z Z) (eqIntSSS_ok _ _ _ _ _ ((Mono.mono exq h2)) ((Mono.mono exq h4))) ?_;rintro _ w4 ⟨rfl,E4⟩;have hs4:=E4.size;refine Ym Z<|Zn<|Vz Z (fun h6=>?_) (fun h6=>?_);refine Zp<|Zz Z<|Zn<|Zy ?_;refine Ve (v:=.bool _) Z ?_;refine ⟨congrArg Value.bool ?_,exq⟩;rotate_left;refine Zv<|Zp<|Zz Z<|Zn<|Zy ?_;refine Ve (v:=.bool _) Z ?_;refine ⟨congrArg Value.bool ?_,exq⟩;rotate_left
 all_goals first
  | exact (decide_eq_true (by simp_all)).symm
  | exact (decide_eq_false (by simp_all)).symm
theorem markDesk_ok (w:World) {lo m hi:Nat} (u1 u2:Value) (p:List (List Int)) (q:List (List (List Int))) (h1:OwnedB lo m XR w u1 p) (h2:OwnedB m hi (XSl 23 XR) w u2 q) (hlm:lo≤m) (hmh:m≤hi) (hhi:hi≤w.heap.size) (k0:Int) (hk0:0≤k0∧k0≤1048576) (hn:p.length≤1048576) (ht:total p≤1048576)
  (hq:q.length≤1048576) (hqq : ∀ r ∈ q,r.length≤1048576) (ht3:total3 q≤1048576) :
  Does Tryz.prog 31 [.agg #[u1,u2],.int .i64 k0] w (RetS lo hi w (Value.int .i64) (fun z w'=>z=k0+(total p:Nat)+(total3 q:Nat)∧OwnedB lo m XR w' u1 (marksS k0 p)∧OwnedB m hi (XSl 23 XR) w' u2 (marks3 (k0+(total p:Nat)) q))):=by
 have k1 : ∀ (w:World),OwnedB lo m XR w u1 p→Does Tryz.prog 86 [u1,.int .i64 k0] w (RetSO lo m w (.int .i64 (k0+total p)) XR u1 (marksS k0 p)):=fun w h=>markIntSS_ok w u1 p h k0 hk0 hn Ka
 have k2 : ∀ (w:World),OwnedB m hi (XSl 23 XR) w u2 q→Does Tryz.prog 87 [u2,.int .i64 (k0+total p)] w (RetSO m hi w (.int .i64 (k0+total p+total3 q)) (XSl 23 XR) u2 (marks3 (k0+total p) q)):=fun w h=>markIntSSS_ok w u2 q h _ Ka hq hqq Ka
 refine Vh Tryz.func31 Z Tryz.results31 Tryz.ntmps31 Z ?_
 focus
  refine Zp<|Yl Z Z Z ?_;rintro b1 w1 hb1 E1 hB1;refine Vg Z<|Zn<|Zq<|Vf<|Vn Ky Ja Z<|Yu u1 Kw hB1 Z<|Zu Z<|Zr Z (Yg (a:=u1) (b:=.int _ _) Tryz.call86 Z Z) (k1 _ ((h1.ext E1))) ?_;rintro _ w2 ⟨rfl,E2,hO1⟩;have h2:=(h2.ext E1).span E2 Ka;have hB1:=hB1.span E2 Ka;refine Vg Z<|Zn<|Zp<|Vn Ky Jb Z<|Yu u2 Jf hB1 Z<|Zu Z<|Zr Z (Yg (a:=u2) (b:=.int _ _) Tryz.call87 Z Z) (k2 _ (h2)) ?_;rintro _ w3 ⟨rfl,E3,hO2⟩;have hO1:=hO1.span E3 Ka;refine Vg Z<|Zn<|Zp<|Zu Z<|Vg Z<|Zn<|Zy ?_;refine Ve (v:=.int _ _) Z ?_
 exact ⟨_,rfl,(Span.of_only (Ext.only (fp:=[]) E1) (fun k hk=>by cases hk)).trans ((E2.mono (Nat.le_refl _) hmh).trans (E3.mono hlm (Nat.le_refl _))),rfl,hO1,hO2⟩
theorem heldDesk_ok (w:World) (u1 u2:Value) (p:List (List Int)) (q:List (List (List Int))) (k0:Int) (h1:ESl Ints w u1 (marksS k0 p)) (h2:ESl (ESl Ints) w u2 (marks3 (k0+(total p:Nat)) q)) (hk0:0≤k0) (hn:p.length≤1048576)
  (hq:q.length≤1048576) (hqq : ∀ r ∈ q,r.length≤1048576) (ht3:k0+(total p:Nat)+total3 q≤1048576) :
  Does Tryz.prog 33 [.agg #[u1,u2],.int .i64 k0] w (Ret w (.int .i64 (k0+(total p:Nat)+(total3 q:Nat)))):=by
 have k1 : ∀ (w:World),ESl Ints w u1 (marksS k0 p)→Does Tryz.prog 89 [u1,.int .i64 k0] w (Ret w (.int .i64 (k0+total p))):=fun w h=>heldIntSS_ok w u1 p k0 h Ka hn Ka
 have k2 : ∀ (w:World),ESl (ESl Ints) w u2 (marks3 (k0+total p) q)→Does Tryz.prog 90 [u2,.int .i64 (k0+total p)] w (Ret w (.int .i64 (k0+total p+total3 q))):=fun w h=>heldIntSSS_ok w u2 q _ h Ka hq hqq ht3
 refine Vh Tryz.func33 Z Tryz.results33 Tryz.ntmps33 Z ?_
 focus
  refine Zp<|Yl Z Z Z ?_;rintro b1 w1 hb1 E1 hB1;refine Vg Z<|Zn<|Zq<|Vf<|Vn Ky Ja Z<|Yu u1 Kw hB1 Z<|Zu Z<|Zr Z (Yg (a:=u1) (b:=.int _ _) Tryz.call89 Z Z) (k1 _ ((Mono.mono E1 h1))) ?_;rintro _ w2 ⟨rfl,E2⟩;refine Vg Z<|Zn<|Zq<|Zp<|Zu Z<|Vi Z<|Zn<|Zt Z fun h3=>?_;refine Zv<|Zp<|Vn Ky Jb Z<|Yu u2 Jf (hB1.ext E2) Z<|Zu Z<|Zr Z (Yg (a:=u2) (b:=.int _ _) Tryz.call90 Z Z) (k2 _ ((Mono.mono exq h2))) ?_;rintro _ w3 ⟨rfl,E3⟩;refine Vg Z<|Zn<|Zq<|Zp<|Zu Z<|Vi Z<|Zn<|Zt Z fun h4=>?_;refine Zv<|Zp<|Zu Z<|Vg Z<|Zn<|Zy ?_;exact ⟨rfl,exq⟩
def ptR (p:List (List Int)) (K:List Int) (x:Int) (j:Nat) (y:Int):Int:=b01 ((List.range j).any (ptF p K x y))
def ptM (p:List (List Int)) (K L:List Int) (x:Int) (j m:Nat):List Int:=(L.take m).map (ptR p K x (j+1))++(L.drop m).map (ptR p K x j)
theorem ptM_len {p:List (List Int)} {K L:List Int} {x:Int} {j m:Nat} : (ptM p K L x j m).length=L.length:=by
 unfold ptM
 rw [List.length_append,List.length_map,List.length_map,← List.length_append,List.take_append_drop]
theorem ptR_succ {p:List (List Int)} {K:List Int} {x y:Int} {j:Nat} : ptR p K x (j+1) y=if ptF p K x y j then 1 else ptR p K x j y:=by
 unfold ptR
 rw [any_range_succ']
 cases ptF p K x y j <;> cases (List.range j).any (ptF p K x y) <;> rfl
theorem ptM_yes {p:List (List Int)} {K L:List Int} {x:Int} {j m:Nat} (hm:m < L.length) (hf:ptF p K x L[m] j=true):(ptM p K L x j m).set m 1=ptM p K L x j (m+1):=by
 have hl:((L.take m).map (ptR p K x (j+1))).length=m:=by simp;omega
 unfold ptM
 rw [List.set_append_right _ _ Ka,hl,Nat.sub_self,List.drop_eq_getElem_cons hm,List.map_cons,List.set_cons_zero,Yd _ _ hm,List.map_append,List.append_assoc]
 congr 1
 rw [List.map_cons,List.map_nil,ptR_succ,hf]
 rfl
theorem ptM_no {p:List (List Int)} {K L:List Int} {x:Int} {j m:Nat} (hm:m < L.length) (hf:ptF p K x L[m] j=false):ptM p K L x j m=ptM p K L x j (m+1):=by
 unfold ptM
 rw [List.drop_eq_getElem_cons hm,List.map_cons,Yd _ _ hm,List.map_append,List.append_assoc]
 congr 1
 rw [List.map_cons,List.map_nil,ptR_succ,hf]
 rfl
theorem ptM_zero {p:List (List Int)} {K L:List Int} {x:Int} {j:Nat} : ptM p K L x j 0=L.map (ptR p K x j):=by simp [ptM]
theorem ptM_all {p:List (List Int)} {K L:List Int} {x:Int} {j:Nat} : ptM p K L x j L.length=L.map (ptR p K x (j+1)):=by simp [ptM]
theorem ptR_none {p:List (List Int)} {K L:List Int} {x:Int} : L.map (ptR p K x 0)=List.replicate L.length 0:=by
 rw [← List.map_const']
 exact List.map_congr_left fun y _=>rfl
theorem l4Part_ok (w:World) (v u t:Value) (p:List (List Int)) (K L:List Int) (h:ESl Ints w v p) (hK:Ints w u K) (hL:Ints w t L) (hp:Gr p) (hk:K.length=p.length) (hl : ∀ x ∈ L,0≤x∧x < p.length) (hn:L.length≤1000) :
  Does Tryz.prog 195 [v,u,t] w (RetO w XR (ptV p K L)):=by
 have hp5:=hp.2.1
 have hpl:=ptV_len (p:=p) (K:=K) (L:=L)
 refine Vh Tryz.func195 Z Tryz.results195 Tryz.ntmps195 Z ?_
 focus
  refine Zp<|Ys Z<|Zn<|Zp<|Yz (XSl 3 XInt) Z Ra Kt ?_;rintro b1 w1 hb1 b1lt E1 hO1;refine Ys Z<|Zn<|Zq<|Zp<|Vg Z<|Zn<|Zw ?_
 refine Vy [7,8,9,10,11,13,14,15,16,17,18,19,20,21,22,23,24,25,26,27,28,29,30,31,32,33,34,35,36,37,38,39,40,41,42,43,44,45,46,47,48,49,50,51,52,53,54,55,56,57,58,59,60,61,62,63,64,65] (fun ((k,o):Nat × Value)=>[(8,.int .i64 (k:Nat)),(7,o)]) (fun (k,o) w'=>Ext w w'∧k≤L.length∧Owned w.heap.size XR w' o ((ptV p K L).take k)) (fun x=>L.length - x.1) (0,.slice (some ⟨b1,0,none⟩) 0 0) Kg ?_ ?_
 ·exact ⟨Kd,Nat.zero_le _,by simpa using hO1⟩
 clear hO1
 rintro ⟨k,o⟩ ρj w2 ⟨E2,hkl,hO1⟩
 by_cases hlt:k < L.length
 ·have hLk:=hl L[k] (List.getElem_mem hlt)
  have hrow:=hp.row (i:=L[k].toNat) Ka
  have htl:((ptV p K L).take k).length=k:=by simp;omega
  focus
   have szE2:=E2.size;refine Zq<|Zp<|Zu Z<|Vb t Z<|Vk Kn Z hL<|Vi Z<|Zn<|Zs Z (fun h1=>?_) (fun h1=>?_);refine Zv<|Zq<|Zw<|Zq<|Vf<|Vb t Z<|Vk Kn Z hL<|Tw Z Ux Z Ka ?_;rintro b2 w3 hb2 b2lt E3 hO2;refine Ys Z<|Zn<|Zq<|Zp<|Vg Z<|Zn<|Zw ?_;rotate_left;(exfalso;omega)
  refine Vy [10,11,22,23,24,25,26,27,28,29,30,31,32,33,34,35,36,37,38,39,40,41,42,43,44,45,46,47,48,49,50,51,52,53,54,55,56,57,58,59,60,61] (fun (j:Nat)=>[(10,.int .i64 (j:Nat))]) (fun j w'=>Ext w w'∧w2.heap.size≤w'.heap.size∧j≤p.length∧OwnedB w.heap.size w2.heap.size XR w' o ((ptV p K L).take k)∧Owned w2.heap.size XI w' (.slice (some ⟨b2,0,none⟩) L.length L.length) (L.map (ptR p K L[k] j))) (fun j=>p.length - j) 0 Kg ?_ ?_
  ·exact ⟨E2.trans E3,E3.size,Nat.zero_le _,hO1.toB.ext E3,by rw [ptR_none];exact hO2⟩
  clear hO1 hO2
  rintro j ρk w4 ⟨E4,hs4,hj,hO1,hO2⟩
  by_cases hjl:j < p.length
  ·focus
    refine Zq<|Zp<|Zu Z<|Vb v Z<|Vk Kp Z h<|Vi Z<|Zn<|Zs Z (fun h2=>?_) (fun h2=>?_);refine Zv<|Zq<|Zw<|Zp<|Vg Z<|Zn<|Zw ?_;rotate_left;(exfalso;omega)
   refine Vy [11,28,29,30,31,32,33,34,35,36,37,38,39,40,41,42,43,44,45,46,47,48,49,50,51,52,53,54,55,56,57,58,59,60,61] (fun (m:Nat)=>[(11,.int .i64 (m:Nat))]) (fun m w'=>Ext w w'∧w2.heap.size≤w'.heap.size∧m≤L.length∧OwnedB w.heap.size w2.heap.size XR w' o ((ptV p K L).take k)∧Owned w2.heap.size XI w' (.slice (some ⟨b2,0,none⟩) L.length L.length) (ptM p K L L[k] j m)) (fun m=>L.length - m) 0 Kg ?_ ?_
   ·exact ⟨E4,hs4,Nat.zero_le _,hO1,by rw [ptM_zero];exact hO2⟩
   clear hO1 hO2
   rintro m ρl w5 ⟨E5,hs5,hm,hO1,hO2⟩
   have hpm:=ptM_len (p:=p) (K:=K) (L:=L) (x:=L[k]) (j:=j) (m:=m)
   by_cases hml:m < L.length
   ·have hLm:=hl L[m] (List.getElem_mem hml)
    have eF:ptF p K L[k] L[m] j=(decide (p[L[k].toNat][j]=1) && decide (K[j]=K[L[m].toNat])):=by
     unfold ptF
     rw [Ya (show L[k].toNat < p.length by omega),Ya (show j < p[L[k].toNat].length by omega),Ya (show j < K.length by omega),Ya (show L[m].toNat < K.length by omega)]
    by_cases c1:p[L[k].toNat][j]=1
    ·by_cases c2:K[j]=K[L[m].toNat]
     ·focus
       refine Zq<|Zp<|Zu Z<|Vb t Z<|Vk Kn Z hL<|Vi Z<|Zn<|Zs Z (fun h3=>?_) (fun h3=>?_);refine Zv<|Zq<|Zw<|Zq<|Xx Xr Kb Z ?_;refine Qj v Z<|Qj t Z<|Rf Z<|Xn Kn Kl Km Z (fun _=>Z) Z hL E5 Z Kf ?_;rintro _ _ rfl;refine Ti Kp Kt Kz Z (fun _=>Z) Z h E5 Z Kf ?_;rintro _ u1 hu1;refine Rf Z<|Xn Kn Kl Km Z (fun _=>Z) Z hu1 E5 Z Kf ?_;rintro _ _ rfl;refine Rg Z<|Uy Z (fun h4=>?_) (fun h4=>?_)
       refine Qj u Z<|Rf Z<|Xn Kn Kl Km Z (fun _=>Z) Z hK E5 Z Kf ?_;rintro _ _ rfl;refine Qj u Z<|Qj t Z<|Rf Z<|Xn Kn Kl Km Z (fun _=>Z) Z hL E5 Z Kf ?_;rintro _ _ rfl;refine Ti Kn Kl Km Z (fun _=>Z) Z hK E5 Z Kf ?_;rintro _ _ rfl;refine Rg Z<|Nt Z<|Xu (fun w6 E6=>?_);have hs3:=E6.size;refine Zs Z (fun h5=>?_) (fun h5=>?_);refine Vf<|Up Z<|Zu Z<|Wo Z (Yv Kn Kl Z Z Ka) ?_;refine Nb Z Kl Z Z (hO2.toB.ext E6) Kf Owned.int (Nat.le_refl _) Ka ?_
       rintro w7 hO2 On1 K1 hz1;have E7:=On1.ext1 (E5.trans E6) Ka;have hO1:=(hO1.ext E6).wrote K1 Ka;refine Zn<|Vf<|Zu Z<|Vr Z<|Vg Z<|Zn ?_;rotate_left;contradiction;contradiction;(exfalso;omega)
      refine ⟨(m+1),Kg,Kh,?_,?_⟩
      ·refine ⟨Kd,Ka,Ka,Kd,?_⟩
       rw [← ptM_yes hml (by rw [eF,decide_eq_true c1,decide_eq_true c2];rfl)]
       assumption
      ·omega
     ·focus
       refine Zq<|Zp<|Zu Z<|Vb t Z<|Vk Kn Z hL<|Vi Z<|Zn<|Zs Z (fun h3=>?_) (fun h3=>?_);refine Zv<|Zq<|Zw<|Zq<|Xx Xr Kb Z ?_;refine Qj v Z<|Qj t Z<|Rf Z<|Xn Kn Kl Km Z (fun _=>Z) Z hL E5 Z Kf ?_;rintro _ _ rfl;refine Ti Kp Kt Kz Z (fun _=>Z) Z h E5 Z Kf ?_;rintro _ u1 hu1;refine Rf Z<|Xn Kn Kl Km Z (fun _=>Z) Z hu1 E5 Z Kf ?_;rintro _ _ rfl;refine Rg Z<|Uy Z (fun h4=>?_) (fun h4=>?_)
       refine Qj u Z<|Rf Z<|Xn Kn Kl Km Z (fun _=>Z) Z hK E5 Z Kf ?_;rintro _ _ rfl;refine Qj u Z<|Qj t Z<|Rf Z<|Xn Kn Kl Km Z (fun _=>Z) Z hL E5 Z Kf ?_;rintro _ _ rfl;refine Ti Kn Kl Km Z (fun _=>Z) Z hK E5 Z Kf ?_;rintro _ _ rfl;refine Rg Z<|Nt Z<|Xu (fun w6 E6=>?_);have hs3:=E6.size;refine Vj Z fun h5=>?_;refine Zv<|Vf<|Zu Z<|Vr Z<|Vg Z<|Zn ?_;rotate_left;contradiction;(exfalso;omega)
      refine ⟨(m+1),Kg,Kh,?_,?_⟩
      ·refine ⟨by first | assumption | exact E5.trans Kd,Ka,Ka,by first | assumption | exact hO1.ext Kd,?_⟩
       rw [← ptM_no hml (by rw [eF,decide_eq_false c2];simp)]
       first | assumption | exact hO2.ext Kd
      ·omega
    ·focus
      refine Zq<|Zp<|Zu Z<|Vb t Z<|Vk Kn Z hL<|Vi Z<|Zn<|Zs Z (fun h3=>?_) (fun h3=>?_);refine Zv<|Zq<|Zw<|Zq<|Xx Xr Kb Z ?_;refine Qj v Z<|Qj t Z<|Rf Z<|Xn Kn Kl Km Z (fun _=>Z) Z hL E5 Z Kf ?_;rintro _ _ rfl;refine Ti Kp Kt Kz Z (fun _=>Z) Z h E5 Z Kf ?_;rintro _ u1 hu1;refine Rf Z<|Xn Kn Kl Km Z (fun _=>Z) Z hu1 E5 Z Kf ?_;rintro _ _ rfl;refine Rg Z<|Uy Z (fun h4=>?_) (fun h4=>?_);contradiction
      refine Va Z<|Va Z<|Va Z<|Va Z<|Va Z<|Va Z<|Va Z<|Va Z<|Va Z<|Va Z<|Va Z<|Va Z<|Rc Z<|Xu (fun w6 E6=>?_);have hs3:=E6.size;refine Zx Z ?_;refine Zv<|Vf<|Zu Z<|Vr Z<|Vg Z<|Zn ?_;rotate_left;(exfalso;omega)
     refine ⟨(m+1),Kg,Kh,?_,?_⟩
     ·refine ⟨by first | assumption | exact E5.trans Kd,Ka,Ka,by first | assumption | exact hO1.ext Kd,?_⟩
      rw [← ptM_no hml (by rw [eF,decide_eq_false c1];simp)]
      first | assumption | exact hO2.ext Kd
     ·omega
   ·obtain rfl:m=L.length:=by omega
    focus
     refine Zq<|Zp<|Zu Z<|Vb t Z<|Vk Kn Z hL<|Vi Z<|Zn<|Zt Z fun h3=>?_;refine Vw ?_;refine Vd ?_;refine Vf<|Zu Z<|Vr Z<|Vg Z<|Zn ?_
    refine ⟨(j+1),Kg,Kh,?_,?_⟩
    ·refine ⟨Kd,Ka,Ka,Kd,?_⟩
     rw [← ptM_all];assumption
    ·omega
  ·obtain rfl:j=p.length:=by omega
   have hrl:(L.map (ptR p K L[k] p.length)).length=L.length:=Ki
   focus
    have szE4:=E4.size;have szE2:=E2.size;refine Zq<|Zp<|Zu Z<|Vb v Z<|Vk Kp Z h<|Vi Z<|Zn<|Zt Z fun h2=>?_;refine Vw ?_;refine Vd ?_;refine Vf<|Vb o Z<|Up Z<|Xm (ps:=[(0,.slice _ _ _)]) (cs:=[_]) Z Kp Kt Jv Z Z Z Z ?_;rintro b3 w5 hb3 E5 hB1;have hs3:=E5.size;refine Xh Z Ra Z Z hB1 (hO1.ext E5) (hO2.toB.ext E5).o Ka Kf Ka Ka (E4.trans E5) Ka ?_;rintro v1 w6 hO1 E6 M1;refine Yr v1 Z<|Zn<|Vf<|Zu Z<|Vr Z<|Vg Z<|Zn ?_
   refine ⟨((k+1,v1)),Kg,Kh,?_,?_⟩
   ·refine ⟨Kd,Ka,?_⟩
    rw [Yd _ _ Ka]
    have e:(ptV p K L)[k]'Ka=L.map (ptR p K L[k] p.length):=by simp only [ptV,List.getElem_map];rfl
    rw [e]
    assumption
   ·simp only;omega
 ·obtain rfl:k=L.length:=by omega
  focus
   refine Zq<|Zp<|Zu Z<|Vb t Z<|Vk Kn Z hL<|Vi Z<|Zn<|Zt Z fun h1=>?_;refine Vw ?_;refine Vd ?_;refine Zp<|Vb o Z<|Yr o Z<|Zn<|Zy ?_;refine ⟨E2,(congrArg (Owned _ _ _ _) ?_).mp (hO1.toB.o.mono Ka)⟩
  rw [List.take_of_length_le Ka]
theorem JoinedOf_ok (w:World) (v:Value) (p:List (List Int)) (h:ESl Ints w v p) (z:Int):Does Tryz.prog 165 [v,.int .i64 z] w (RetDX w XR (fun c=>(Nod p z→Cand p z.toNat c)∧(¬Nod p z→c=[]))):=by
 by_cases hz:Nod p z
 ·obtain ⟨hp,hz0,hz1⟩:=id hz
  obtain ⟨i,rfl⟩:=Int.eq_ofNat_of_zero_le hz0
  have hi:i < p.length:=Ka
  have hp5:=hp.2.1
  have k1 : ∀ (w:World) (v:Value),ESl Ints w v p→Does Tryz.prog 161 [v,.int .i64 (i:Int)] w (RetO w XI (ints (rf p i))):=fun w v h=>by
   have:=Rz w v p i h
   rw [show rfV p (i:Int)=rf p i from if_pos hz] at this;exact this
  have k2 : ∀ (w:World) (v:Value),ESl Ints w v p→Does Tryz.prog 194 [v] w (RetO w XI (ints (kndL p))):=fun w v h=>by
   have:=spec_KindsOf_ok w v p h
   rw [if_pos hp] at this;exact this
  have hrl:=Ma (p:=p) (i:=i)
  have hril:=Yy (rf p i)
  have hr0:0 < (rf p i).length:=List.length_pos_iff.2 fun e=>by
   have:=(Qn hp.gr hi).2 (Rch.refl i)
   rw [e] at this;cases this
  have hkl:=Sy (p:=p)
  have k4 : ∀ (w:World) (v u t:Value) (L:List Nat),ESl Ints w v p→Ints w u (ints (kndL p))→Ints w t (ints L)→(∀ x ∈ L,x < p.length)→L.length≤p.length→Does Tryz.prog 195 [v,u,t] w (RetO w XR (qp p (L.map (knd p)))):=fun w v u t L h1 h2 h3 h4 h5=>by
   rw [← ptV_qp hp.gr h4]
   refine l4Part_ok w v u t p _ _ h1 h2 h3 hp.gr hkl (fun x hx=>?_) (by rw [Yy];omega)
   obtain ⟨y,hy,rfl⟩:=List.mem_map.1 hx
   have:=h4 y hy
   omega
  refine Vh Tryz.func165 Z Tryz.results165 Tryz.ntmps165 Z ?_
  focus
   refine Zp<|Ys Z<|Zn<|Zp<|Vb v Z<|Zu Z<|Zr Z (Yg (a:=v) (b:=.int _ _) Tryz.call161 Z Z) (k1 _ _ (h)) ?_;rintro u1 w1 ⟨E1,hO1⟩;have hs1:=E1.size;refine Yr u1 Z<|Zn<|Zp<|Vb v Z<|Zr Z (Vx (a:=v) Tryz.call194 Z) (k2 _ _ ((Mono.mono E1 h))) ?_;rintro u2 w2 ⟨E2,hO2⟩;have hs2:=E2.size;refine Yr u2 Z<|Zn<|Zq<|Zp<|Vb u1 Z<|Vk Kn Z (Owned.read hO1)<|Vm Z<|Zn<|Zt Z fun h1=>?_;refine Zv<|Zp<|Zu Z<|Ye (ps:=[(0,.int _ _)]) (cs:=[_]) Z Kn Kl Jg Z Z Z Z ?_;rintro b1 w3 hb1 E3 hB1 hHb1;refine Ys Z<|Zn<|Zq<|Zp<|Vg Z<|Zn<|Zw ?_
  have hO3:Owned w2.heap.size XI w3 (.slice (some ⟨b1,0,none⟩) 1 1) (ints [i]):=Owned.block hHb1 hb1 rfl Kc ⟨⟨rfl,rfl⟩,trivial⟩
  have r1:=hO1.read
  have r2:=hO2.read
  clear hHb1 hB1 hO1 hO2
  refine Vy [7,8,9,10,22,23,24,25,26,27,28,29,30,31,32,33,34,35,36,37,38,39,40,41,42,43,44,45,46,47,48,49,50,51,52,53,54,55,56,57,58,59] (fun ((k,u,L):Nat × Value × List Nat)=>[(8,.int .i64 (k:Nat)),(7,u)]) (fun (k,u,L) w'=>Ext w2 w'∧Owned w2.heap.size XI w' u (ints L)∧k≤(rf p i).length∧Fnd p i k L) (fun x=>(rf p i).length - x.1) (0,.slice (some ⟨b1,0,none⟩) 1 1,[i]) Kg ?_ ?_
  ·exact ⟨Kd,hO3,Nat.zero_le _,Fnd.zero⟩
  clear hO3
  rintro ⟨k,u,L⟩ ρj w4 ⟨E4,hO3,hk,hF⟩
  have hLl:=hF.len hp.gr hi
  have hLil:=Yy L
  by_cases hlt:k < (rf p i).length
  ·have hrk:=(Qn hp.gr hi).1 (List.getElem_mem hlt) |>.lt hp.gr hi
   have hgk:(ints (rf p i))[k]'Ka=((rf p i)[k]:Int):=Xz hlt
   focus
    have szE4:=E4.size;refine Zq<|Zp<|Zu Z<|Vb u1 Z<|Vk Kn Z r1<|Vi Z<|Zn<|Zs Z (fun h2=>?_) (fun h2=>?_);refine Zv<|Zq<|Zw<|Zp<|Zz Z<|Zn<|Zq<|Zp<|Vg Z<|Zn<|Zw ?_;rotate_left;(exfalso;omega)
   refine Vy [9,10,28,29,30,31,32,33,34,35,36,37,38,39,40,41,42,43,44,45,46,47,48,49,50,51] (fun ((j,f):Nat × Bool)=>[(10,.int .i64 (j:Nat)),(9,.bool f)]) (fun (j,f) w'=>Ext w4 w'∧j≤L.length∧(f=true↔knd p (rf p i)[k] ∉ (L.take j).map (knd p))) (fun x=>L.length - x.1) (0,true) Kg ?_ ?_
   ·exact ⟨Ext.refl _,Nat.zero_le _,Ki⟩
   rintro ⟨j,f⟩ ρk w5 ⟨E5,hj,hf⟩
   by_cases hjl:j < L.length
   ·have hLj:=hF.lt hp.gr hi (List.getElem_mem hjl)
    have hgj:(ints L)[j]'Ka=(L[j]:Int):=Xz hjl
    have hkj:(ints (kndL p))[((ints L)[j]'Ka).toNat]'Ka=(knd p L[j]:Int):=by
     simp only [hgj,Int.toNat_natCast];exact Re _
    have hkk:(ints (kndL p))[((ints (rf p i))[k]'Ka).toNat]'Ka=(knd p (rf p i)[k]:Int):=by
     simp only [hgk,Int.toNat_natCast];exact Re _
    have hts:=Yd _ _ hjl
    have bj:((ints L)[j]'Ka).toNat < (ints (kndL p)).length:=by rw [hkl,hgj];omega
    have bk:((ints (rf p i))[k]'Ka).toNat < (ints (kndL p)).length:=by rw [hkl,hgk];omega
    cases f
    ·focus
      refine Zq<|Zp<|Zu Z<|Vb u Z<|Vk Kn Z (Owned.read hO3)<|Vi Z<|Zn<|Zs Z (fun h3=>?_) (fun h3=>?_);refine Zv<|Zq<|Zw<|Xx Xr Kb Z ?_;refine Rv Z<|Rv Z<|Va Z<|Va Z<|Va Z<|Va Z<|Va Z<|Va Z<|Va Z<|Va Z<|Va Z<|Va Z<|Va Z<|Va Z<|Va Z<|Va Z<|Va Z<|Rc Z<|Tp Z<|Xu (fun w6 E6=>?_);refine Vf<|Zu Z<|Vr Z<|Vg Z<|Zn ?_;rotate_left;(exfalso;omega)
     refine ⟨((j+1,false)),Kg,Kh,?_,?_⟩
     ·refine ⟨by exact exq,Ka,⟨fun h=>(by cases h),fun h=>?_⟩⟩
      rw [hts,List.map_append,List.mem_append,not_or] at h
      exact absurd (hf.2 h.1) Ki
     ·simp only;omega
    ·focus
      refine Zq<|Zp<|Zu Z<|Vb u Z<|Vk Kn Z (Owned.read hO3)<|Vi Z<|Zn<|Zs Z (fun h3=>?_) (fun h3=>?_);refine Zv<|Zq<|Zw<|Xx Xr Kb Z ?_;refine Rv Z<|Rv Z<|Qj u2 Z<|Qj u Z<|Rf Z<|Xn Kn Kl Km Z (fun _=>Z) Z (Owned.read hO3) E5 Z Kf ?_;rintro _ _ rfl;refine Ti Kn Kl Km Z (fun _=>Z) Z r2 exq Z Kf ?_;rintro _ _ rfl;refine Qj u2 Z<|Qj u1 Z<|Rf Z<|Xn Kn Kl Km Z (fun _=>Z) Z r1 exq Z Kf ?_;rintro _ _ rfl
      refine Ti Kn Kl Km Z (fun _=>Z) Z r2 exq Z Kf ?_;rintro _ _ rfl;refine Wqneq Z<|Nt Z<|Tp Z<|Xu (fun w6 E6=>?_);refine Vf<|Zu Z<|Vr Z<|Vg Z<|Zn ?_;rotate_left;(exfalso;omega)
     refine ⟨((j+1,!decide ((ints (kndL p))[((ints L)[j]'Ka).toNat]'bj=(ints (kndL p))[((ints (rf p i))[k]'Ka).toNat]'bk))),Kg,Kh,?_,?_⟩
     ·refine ⟨by exact exq,Ka,?_⟩
      rw [hkj,hkk,hts,List.map_append,List.mem_append,not_or]
      have hf':=hf.1 rfl
      simp only [List.map_cons,List.map_nil,List.mem_singleton,Bool.not_eq_true',decide_eq_false_iff_not]
      constructor
      ·intro h;exact ⟨hf',fun e=>h (by rw [e])⟩
      ·intro h e;exact h.2 Ka
     ·simp only;omega
   ·obtain rfl:j=L.length:=by omega
    rw [List.take_length] at hf
    cases f
    ·focus
      refine Zq<|Zp<|Zu Z<|Vb u Z<|Vk Kn Z (Owned.read hO3)<|Vi Z<|Zn<|Zt Z fun h3=>?_;refine Vw ?_;refine Vd ?_;refine Zp<|Yi Z<|Zn<|Zx Z ?_;refine Zv<|Vf<|Zu Z<|Vr Z<|Vg Z<|Zn ?_
     refine ⟨((k+1,u,L)),Kg,Kh,?_,?_⟩
     ·refine ⟨by exact exq,by exact (Mono.mono E5 hO3),Ka,hF.skip hlt ?_⟩
      exact Classical.byContradiction fun h=>absurd (hf.2 h) Ki
     ·simp only;omega
    ·focus
      have szE5:=E5.size;have szE4:=E4.size;refine Zq<|Zp<|Zu Z<|Vb u Z<|Vk Kn Z (Owned.read hO3)<|Vi Z<|Zn<|Zt Z fun h3=>?_;refine Vw ?_;refine Vd ?_;refine Zp<|Yi Z<|Zn<|Vv Z ?_;refine Vf<|Vb u Z<|Vb u1 Z<|Zu Z<|Yb Kn Kl Km Z (fun _=>Z) Z r1 exq Z Kf ?_;rintro _ _ rfl;refine Ye (ps:=[(0,.int _ _)]) (cs:=[_]) Z Kn Kl Jg Z Z Z Z ?_;rintro b2 w6 hb2 E6 hB1 hHb2;have hs4:=E6.size;refine Xh Z Ux Z Z hB1 (hO3.toB.ext (E5.trans E6)) Owned.int (Nat.le_refl _) Kf Ka Ka ((((E1.trans E2).trans E4).trans E5).trans E6) Ka ?_
      have hT1:=(hO3.toB.ext (E5.trans E6));rintro v1 w7 hO3 E7 M1;have E9:=M1.ext hT1 ((E4.trans E5).trans E6) Ka;refine Yr v1 Z<|Zn<|Vf<|Zu Z<|Vr Z<|Vg Z<|Zn ?_
     refine ⟨((k+1,v1,L++[(rf p i)[k]])),Kg,Kh,?_,?_⟩
     ·refine ⟨Kd,?_,Ka,hF.step hp.gr hi hlt (hf.1 Z)⟩
      rw [ints_append,show ints [(rf p i)[k]]=[(ints (rf p i))[k]'Ka] by rw [hgk];rfl]
      assumption
     ·simp only;omega
  ·have hK:=hF.kds hp.gr hi Ka
   have hLt : ∀ x ∈ L,x < p.length:=fun x hx=>hF.lt hp.gr hi hx
   focus
    have szE4:=E4.size;refine Zq<|Zp<|Zu Z<|Vb u1 Z<|Vk Kn Z r1<|Vi Z<|Zn<|Zt Z fun h2=>?_;refine Vw ?_;refine Vd ?_;refine Zp<|Vb v Z<|Vb u2 Z<|Vb u Z<|Zr Z (Ud (a:=v) (b:=u2) (c:=u) Tryz.call195 Z Z Z) (k4 _ _ _ _ _ ((Mono.mono exq h)) ((Mono.mono E4 r2)) ((Owned.read hO3)) Kd Kd) ?_;rintro u3 w5 ⟨E5,hO1⟩;refine Yr u3 Z<|Zn<|Zy ?_;refine Ve (v:=u3) Z ?_
   refine ⟨_,by exact (((E1.trans E2).trans E4).trans E5),hO1.mono Ka,fun _=>⟨_,hK,Z⟩,fun h=>absurd hz h⟩
 ·have k1 : ∀ (w:World) (v:Value),ESl Ints w v p→Does Tryz.prog 161 [v,.int .i64 z] w (RetO w XI []):=fun w v h=>by
   have:=Rz w v p z h
   rw [show rfV p z=[] from if_neg hz] at this;exact this
  have k2 : ∀ (w:World) (v:Value),ESl Ints w v p→Does Tryz.prog 194 [v] w (RetO w XI (if Pic p then ints (kndL p) else [])):=fun w v h=>spec_KindsOf_ok w v p h
  have hnil:(([]:List Int).length:Int)=0:=rfl
  refine Vh Tryz.func165 Z Tryz.results165 Tryz.ntmps165 Z ?_
  focus
   refine Zp<|Ys Z<|Zn<|Zp<|Vb v Z<|Zu Z<|Zr Z (Yg (a:=v) (b:=.int _ _) Tryz.call161 Z Z) (k1 _ _ (h)) ?_;rintro u1 w1 ⟨E1,hO1⟩;have hs1:=E1.size;refine Yr u1 Z<|Zn<|Zp<|Vb v Z<|Zr Z (Vx (a:=v) Tryz.call194 Z) (k2 _ _ ((Mono.mono E1 h))) ?_;rintro u2 w2 ⟨E2,hO2⟩;have hs2:=E2.size;refine Yr u2 Z<|Zn<|Zq<|Zp<|Vb u1 Z<|Vk Kn Z (Owned.read hO1)<|Vm Z<|Zn<|Zs Z (fun h1=>?_) (fun h1=>?_);refine Zp<|Yz (XSl 3 XInt) Z Ra Kt ?_;rintro b1 w3 hb1 b1lt E3 hO3;refine Ys Z<|Zn<|Zy ?_;refine Ve (v:=.slice _ _ _) Z ?_;rotate_left;contradiction
  exact ⟨_,by exact ((E1.trans E2).trans E3),hO3.mono Ka,fun h=>absurd h hz,fun _=>rfl⟩
end Go.Proofs.YtbgpppaljpngmaaGreatDoor
set_option linter.unusedVariables false
set_option linter.unusedSimpArgs false
namespace Go.Hs
def oxt (x:Nat) (o:List Nat):List (List Nat):=((List.range x).filter fun y=>decide (1≤y) && !o.contains y).map fun y=>o++[y]
theorem ordS_succ (n k:Nat):ordS n (k+1)=(ordS n k).flatMap (oxt n):=rfl
theorem oxt_one (o:List Nat):oxt 1 o=[]:=rfl
theorem oxt_yes {x:Nat} {o:List Nat} (hx:1≤x) (h:o.contains x=false):oxt (x+1) o=oxt x o++[o++[x]]:=by
 unfold oxt
 rw [Xq,decide_eq_true hx,h]
 simp
theorem oxt_no {x:Nat} {o:List Nat} (h:o.contains x=true):oxt (x+1) o=oxt x o:=by
 unfold oxt
 rw [Xq,h]
 simp
theorem oxt_len (x:Nat) (o:List Nat):(oxt x o).length≤x:=by
 unfold oxt
 rw [List.length_map]
 exact Nat.le_trans (List.length_filter_le _ _) Ki
theorem flatMap_len {α β : Type} (f : α→List β) (m:Nat) : ∀ (l:List α),(∀ x ∈ l,(f x).length≤m)→(l.flatMap f).length≤l.length*m
 | [],_=>by simp
 | x :: l, h => by
   rw [List.flatMap_cons, List.length_append, List.length_cons]
   have := flatMap_len f m l fun y hy => h y (by simp [hy])
   have := h x Ki
   rw [Nat.succ_mul]; omega
theorem ordS_len (n:Nat) : ∀ k,(ordS n k).length≤n ^ k
 | 0=>by simp [ordS]
 | k + 1 => by
   rw [ordS_succ]
   have h1 := flatMap_len (oxt n) n (ordS n k) fun x _ => oxt_len n x
   have h2 := Nat.mul_le_mul_right n (ordS_len n k)
   rw [Nat.pow_succ]; omega
theorem ordS_len5 {n k:Nat} (hn:n≤5) (hk:k≤5):(ordS n k).length≤3125:=by
 have h1:=ordS_len n k
 have h2:n ^ k≤5 ^ k:=Nat.pow_le_pow_left hn k
 have h3:5 ^ k≤5 ^ 5:=Nat.pow_le_pow_right Ka hk
 have:(5:Nat) ^ 5=3125:=rfl
 omega
theorem iis_get {D:List (List Nat)} {i:Nat} (h:i < (D.map ints).length):(D.map ints)[i]=ints (D[i]'(by simpa using h)):=Ki
end Go.Hs
namespace Go.Proofs.YtbgpppaljpngmaaGreatDoor
open Go.Hs
set_option maxRecDepth 10000
set_option maxHeartbeats 4000000
set_option linter.unusedVariables false
set_option linter.unusedSimpArgs false
theorem l4Orders_ok (w:World) (n:Nat) (hn:1≤n∧n≤5):Does Tryz.prog 166 [.int .i64 (n:Int)] w (RetO w XR ((orders n).map ints)):=by
 refine Vh Tryz.func166 Z Tryz.results166 Tryz.ntmps166 Z ?_
 have keepR:True:=trivial
 focus
  refine Zp<|Ys Z<|Zn<|Zp<|Ye (ps:=[(0,.int _ _)]) (cs:=[_]) Z Kn Kl Jg Z Z Z Z ?_;rintro b1 w1 hb1 E1 hB1 hHb1;have hlb1:=hB1.lt;refine Ye (ps:=[(0,.slice _ _ _)]) (cs:=[_]) Z Kp Kt Jv Z Z Z Z ?_;rintro b2 w2 hb2 E2 hB2 hHb2;refine Ys Z<|Zn<|Zq<|Zp<|Vg Z<|Zn<|Zw ?_
 clear keepR
 have hOr:Owned w.heap.size XI w1 (.slice (some ⟨b1,0,none⟩) 1 1) [0]:=Owned.block hHb1 hb1 rfl Kc ⟨⟨rfl,rfl⟩,trivial⟩
 have hO0:Owned w.heap.size XR w2 (.slice (some ⟨b2,0,none⟩) 1 1) [[0]]:=Owned.single (hOr.toB.ext E2) hHb2 Ka Ka
 clear hOr hHb1 hHb2 hB1 hB2
 refine Vy [3,4,5,6,7,8,9,12,13,14,15,16,17,18,19,20,21,22,23,24,25,26,27,28,29,30,31,32,33,34,35,36,37,38,39,40,41,42,43,44,45,46,47,48,49,50,51,52,53,54,55,56,57,58,59,60,61,62,63,64] (fun ((k,u):Nat × Value)=>[(4,.int .i64 (k:Nat)),(3,u)]) (fun (k,u) w'=>Ext w w'∧1≤k∧k≤n∧Owned w.heap.size XR w' u ((ordS n (k - 1)).map ints)) (fun x=>n - x.1) (1,.slice (some ⟨b2,0,none⟩) 1 1) Kg ?_ ?_
 ·exact ⟨by first | assumption | exact E1.trans E2,Nat.le_refl _,hn.1,hO0⟩
 clear hO0
 rintro ⟨k,u⟩ ρj w3 ⟨E3,hk1,hkn,hO1⟩
 by_cases hlt:k < n
 ·obtain ⟨D,hD⟩ : ∃ D,D=ordS n (k - 1):=⟨_,rfl⟩
  have hDl:D.length≤3125:=hD ▸ ordS_len5 hn.2 Ka
  have hDo : ∀ o ∈ D,o.length=k:=fun o ho=>by
   have:=((mem_ordS hn.1 (k - 1) o).1 (hD ▸ ho)).1
   omega
  rw [← hD] at hO1
  have hDm:(D.map ints).length=D.length:=Ki
  have hR:=hO1.read
  clear hO1
  focus
   have szE3:=E3.size;refine Zq<|Zp<|Zu Z<|Zu Z<|Vi Z<|Zn<|Zs Z (fun h1=>?_) (fun h1=>?_);refine Zv<|Zq<|Zw<|Zp<|Yz (XSl 3 XInt) Z Ra Kt ?_;rintro b3 w4 hb3 b3lt E4 hO1;refine Ys Z<|Zn<|Zq<|Zq<|Vf<|Vg Z<|Zn<|Zw ?_;rotate_left;(exfalso;omega)
  refine Vy [5,6,7,8,9,18,19,20,21,22,23,24,25,26,27,28,29,30,31,32,33,34,35,36,37,38,39,40,41,42,43,44,45,46,47,48,49,50,51,52,53,54,55,56,57,58,59,60,61,62,63] (fun ((i,nx):Nat × Value)=>[(6,.int .i64 (i:Nat)),(5,nx)]) (fun (i,nx) w'=>Ext w3 w'∧i≤D.length∧Owned w3.heap.size XR w' nx (((D.take i).flatMap (oxt n)).map ints)) (fun x=>D.length - x.1) (0,.slice (some ⟨b3,0,none⟩) 0 0) Kg ?_ ?_
  ·exact ⟨Kd,Nat.zero_le _,by simpa using hO1⟩
  clear hO1
  rintro ⟨i,nx⟩ ρk w5 ⟨E5,hi,hO1⟩
  by_cases hil:i < D.length
  ·have hgi:=iis_get (D:=D) (i:=i) Ka
   have hol:=hDo D[i] (List.getElem_mem hil)
   have hil2:=Yy D[i]
   have hfl:((D.take i).flatMap (oxt n)).length≤15625:=by
    have:=flatMap_len (oxt n) n (D.take i) fun x _=>oxt_len n x
    have h2:(D.take i).length≤3125:=by simp;omega
    have h3:=Nat.mul_le_mul h2 hn.2
    omega
   focus
    refine Zq<|Zp<|Zu Z<|Vb u Z<|Vk Kp Z hR<|Vi Z<|Zn<|Zs Z (fun h2=>?_) (fun h2=>?_);refine Zv<|Zq<|Zw<|Zp<|Vg Z<|Zn<|Zw ?_;rotate_left;(exfalso;omega)
   refine Vy [5,7,8,9,24,25,26,27,28,29,30,31,32,33,34,35,36,37,38,39,40,41,42,43,44,45,46,47,48,49,50,51,52,53,54,55,56,57,58,59,60,61,62,63] (fun ((x,nx):Nat × Value)=>[(7,.int .i64 (x:Nat)),(5,nx)]) (fun (x,nx) w'=>Ext w3 w'∧1≤x∧x≤n∧Owned w3.heap.size XR w' nx (((D.take i).flatMap (oxt n)++oxt x D[i]).map ints)) (fun x=>n - x.1) (1,nx) Kg ?_ ?_
   ·exact ⟨Kd,Nat.le_refl _,hn.1,by rw [oxt_one];simpa using hO1⟩
   clear hO1
   rintro ⟨x,ny⟩ ρl w6 ⟨E6,hx1,hxn,hO1⟩
   have hml:(((D.take i).flatMap (oxt n)++oxt x D[i]).map ints).length≤15630:=by
    have:=oxt_len x D[i]
    simp only [List.length_map,List.length_append];omega
   by_cases hxl:x < n
   ·focus
     have szE6:=E6.size;refine Zq<|Zp<|Zu Z<|Zu Z<|Vi Z<|Zn<|Zs Z (fun h3=>?_) (fun h3=>?_);refine Zv<|Zq<|Zw<|Zp<|Zz Z<|Zn<|Zq<|Zp<|Vg Z<|Zn<|Zw ?_;rotate_left;(exfalso;omega)
    refine Vy [8,9,29,30,31,32,33,34,35,36,37,38,39,40,41,42,43,44,45,46,47,48,49] (fun ((j,f):Nat × Bool)=>[(9,.int .i64 (j:Nat)),(8,.bool f)]) (fun (j,f) w'=>Ext w6 w'∧j≤D[i].length∧f=(D[i].take j).contains x) (fun y=>D[i].length - y.1) (0,false) Kg ?_ ?_
    ·exact ⟨Ext.refl _,Nat.zero_le _,Ki⟩
    rintro ⟨j,f⟩ ρm w7 ⟨E7,hj,hf⟩
    by_cases hjl:j < D[i].length
    ·have hgj:(ints D[i])[j]'Ka=(D[i][j]:Int):=Xz hjl
     have hts:=Yd _ _ hjl
     have hgg:((D.map ints)[i]'Ka)[j]'(by rw [hgi];omega)=(D[i][j]:Int):=by simp only [hgi];exact hgj
     have hrl:((D.map ints)[i]'Ka).length=D[i].length:=by rw [hgi];exact hil2
     have hct:(D[i].take (j+1)).contains x=((D[i].take j).contains x || decide (D[i][j]=x)):=by
      rw [hts,Bool.eq_iff_iff]
      simp only [List.contains_eq_mem,List.mem_append,List.mem_singleton,decide_eq_true_eq,Bool.or_eq_true]
      exact or_congr Iff.rfl ⟨fun h=>h.symm,fun h=>h.symm⟩
     cases f
     ·focus
       refine Zq<|Zp<|Zu Z<|Vb u Z<|Zu Z<|Yb Kp Kt Kz Z (fun _=>Z) Z hR exq Z Kf ?_;rintro _ u1 hu1;refine Vk Kn Z hu1<|Vi Z<|Zn<|Zs Z (fun h4=>?_) (fun h4=>?_);refine Zv<|Zq<|Zw<|Vf<|Yi Z<|Yi Z<|Vb u Z<|Zu Z<|Yb Kp Kt Kz Z (fun _=>Z) Z hR exq Z Kf ?_;rintro _ u2 hu2;refine Zu Z<|Yb Kn Kl Km Z (fun _=>Z) Z hu2 exq Z Kf ?_;rintro _ _ rfl;refine Zu Z<|Vm Z<|Vp Z<|Zz Z<|Zn<|Vf<|Zu Z<|Vr Z<|Vg Z<|Zn ?_;rotate_left;(exfalso;omega)
      refine ⟨((j+1,decide (((D.map ints)[i]'Ka)[j]'(by rw [hgi];omega)=(x:Int)))),Kg,Kh,?_,?_⟩
      ·refine ⟨by exact E7,Ka,?_⟩
       rw [hct,← hf,Bool.false_or,decide_eq_decide,hgg]
       omega
      ·simp only;omega
     ·focus
       refine Zq<|Zp<|Zu Z<|Vb u Z<|Zu Z<|Yb Kp Kt Kz Z (fun _=>Z) Z hR exq Z Kf ?_;rintro _ u1 hu1;refine Vk Kn Z hu1<|Vi Z<|Zn<|Zs Z (fun h4=>?_) (fun h4=>?_);refine Zv<|Zq<|Zw<|Vf<|Yi Z<|Yi Z<|Zo Z<|Zo Z<|Zo Z<|Zo Z<|Zo Z<|Zo Z<|Zo Z<|Zo Z<|Zo Z<|Yq Z<|Zz Z<|Zn<|Vf<|Zu Z<|Vr Z<|Vg Z<|Zn ?_;rotate_left;(exfalso;omega)
      refine ⟨((j+1,true)),Kg,Kh,?_,?_⟩
      ·refine ⟨by exact E7,Ka,?_⟩
       rw [hct,← hf];rfl
      ·simp only;omega
    ·obtain rfl:j=D[i].length:=by omega
     rw [List.take_length] at hf
     have hrl:((D.map ints)[i]'Ka).length=D[i].length:=by rw [hgi];exact hil2
     cases f
     ·focus
       have szE7:=E7.size;have szE6:=E6.size;have szE3:=E3.size;refine Zq<|Zp<|Zu Z<|Vb u Z<|Zu Z<|Yb Kp Kt Kz Z (fun _=>Z) Z hR exq Z Kf ?_;rintro _ u1 hu1;refine Vk Kn Z hu1<|Vi Z<|Zn<|Zt Z fun h4=>?_;refine Vw ?_;refine Vd ?_;refine Zp<|Yi Z<|Ym Z<|Zn<|Xg Z (fun h5=>?_) (fun h5=>?_);refine Vf<|Vb ny Z<|Yz XInt Z Ux Kl ?_;rintro b4 w8 hb4 b4lt E8 hO2;have hs4:=E8.size;refine Vb u Z<|Zu Z<|Yb Kp Kt Kz Z (fun _=>Z) Z hR exq Z Kf ?_;rintro _ u2 hu2
       refine Wo_appS Z Ux Z Z (Mono.mono ((E6.trans E7).trans E8) hu2) hO2.toB Kf Ka Ka (((E3.trans E6).trans E7).trans E8) Ka ?_;have hT1:=hO2.toB;rintro v1 w9 hO2 E9 M1;have E10:=M1.ext hT1 ((E6.trans E7).trans E8) Ka;have E11:=M1.ext hT1 (E7.trans E8) Ka;have E12:=M1.ext hT1 E8 Ka;have szE12:=E12.size;have hO1:=(hO1.toB.ext exq).moves M1 hT1 Ka;refine Zu Z<|Ye (ps:=[(0,.int _ _)]) (cs:=[_]) Z Kn Kl Jg Z Z Z Z ?_;rintro b5 w10 hb5 E13 hB1 hHb5;have hs6:=E13.size;refine Xh Z Ux Z Z hB1 (hO2.toB.ext E13) Owned.int (Nat.le_refl _) Kf Ka Ka (E9.trans E13) Ka ?_;have hT2:=(hO2.toB.ext E13);rintro v2 w11 hO2 E14 M2
       have E15:=M2.ext hT2 (E10.trans E13) Ka;have szE15:=E15.size;have hO1:=(hO1.ext E13).moves M2 hT2 Ka;refine Ua Z Kp Kt Jv Z (OwnedB.isC hO2.toB) Z ?_;rintro b6 w12 hb6 E18 hB2 hHb6;have hs8:=E18.size;refine Xh Z Ra Z Z hB2 (hO1.ext E18) (hO2.toB.ext E18).o Ka Kf Ka Ka (E14.trans E18) Ka ?_;have hT3:=(hO1.ext E18);rintro v3 w13 hO1 E19 M3;have E20:=M3.ext hT3 (E15.trans E18) Ka;refine Yr v3 Z<|Zn<|Vf<|Zu Z<|Vr Z<|Vg Z<|Zn ?_;rotate_left;contradiction
      refine ⟨((x+1,v3)),Kg,Kh,?_,?_⟩
      ·refine ⟨by exact E20,Ka,Ka,?_⟩
       rw [oxt_yes hx1 hf.symm,← List.append_assoc,List.map_append]
       have e:[ints (D[i]++[x])]=[[]++(D.map ints)[i]'Ka++[(x:Int)]]:=by rw [ints_append,hgi];rfl
       rw [List.map_cons,List.map_nil,e]
       assumption
      ·simp only;omega
     ·focus
       refine Zq<|Zp<|Zu Z<|Vb u Z<|Zu Z<|Yb Kp Kt Kz Z (fun _=>Z) Z hR exq Z Kf ?_;rintro _ u1 hu1;refine Vk Kn Z hu1<|Vi Z<|Zn<|Zt Z fun h4=>?_;refine Vw ?_;refine Vd ?_;refine Zp<|Yi Z<|Ym Z<|Zn<|Xa Z fun h5=>?_;refine Zv<|Vf<|Zu Z<|Vr Z<|Vg Z<|Zn ?_
      refine ⟨((x+1,ny)),Kg,Kh,?_,?_⟩
      ·refine ⟨by exact exq,Ka,Ka,?_⟩
       rw [oxt_no hf.symm]
       exact (Mono.mono E7 hO1)
      ·simp only;omega
   ·obtain rfl:x=n:=by omega
    focus
     refine Zq<|Zp<|Zu Z<|Zu Z<|Vi Z<|Zn<|Zt Z fun h3=>?_;refine Vw ?_;refine Vd ?_;refine Vf<|Zu Z<|Vr Z<|Vg Z<|Zn ?_
    refine ⟨((i+1,ny)),Kg,Kh,?_,?_⟩
    ·refine ⟨by exact E6,Ka,?_⟩
     rw [Yd _ _ hil,List.flatMap_append,List.flatMap_cons,List.flatMap_nil,List.append_nil]
     exact hO1
    ·simp only;omega
  ·obtain rfl:i=D.length:=by omega
   focus
    have szE5:=E5.size;have szE4:=E4.size;have szE3:=E3.size;have szE2:=E2.size;have szE1:=E1.size;refine Zq<|Zp<|Zu Z<|Vb u Z<|Vk Kp Z hR<|Vi Z<|Zn<|Zt Z fun h2=>?_;refine Vw ?_;refine Vd ?_;refine Vf<|Vb nx Z<|Yr nx Z<|Zn<|Vf<|Zu Z<|Vr Z<|Vg Z<|Zn ?_
   refine ⟨((k+1,nx)),Kg,Kh,?_,?_⟩
   ·refine ⟨by exact (E3.trans E5),Ka,Ka,?_⟩
    rw [show k+1 - 1=(k - 1)+1 by omega,ordS_succ,← hD]
    rw [List.take_length] at hO1
    exact hO1.mono Ka
   ·simp only;omega
 ·obtain rfl:k=n:=by omega
  focus
   refine Zq<|Zp<|Zu Z<|Zu Z<|Vi Z<|Zn<|Zt Z fun h1=>?_;refine Vw ?_;refine Vd ?_;refine Zp<|Vb u Z<|Yr u Z<|Zn<|Zy ?_;exact ⟨E3,hO1.toB.o.mono Ka⟩
theorem Reordered_ok (w:World) (v u:Value) (c:List (List Int)) (o:List Nat) (h:ESl Ints w v c) (hu:Ints w u (ints o)) (hc:Pic c) (ho:Ord c.length o) :
  Does Tryz.prog 167 [v,u] w (RetO w XR (reo c o)):=by
 have hp5:=hc.2.1
 obtain ⟨hol,hnd,hhd,hlt⟩:=id ho
 have hil:=Yy o
 have k1 : ∀ (w:World) (v:Value),ESl Ints w v c→Does Tryz.prog 115 [v] w (Ret w (.bool true)):=fun w v h=>by
  have:=Ue w v c h
  rw [decide_eq_true hc] at this;exact this
 have h2:=pow_le5 (k:=c.length) Ka
 have h1p : ∀ j,j < c.length→1 <<< j < 2 ^ c.length:=fun j hj=>by rw [Nat.one_shiftLeft];exact Nat.pow_lt_pow_right Ka hj
 have h1b : ∀ j k,(1 <<< j).testBit k=decide (j=k):=fun j k=>by rw [Nat.one_shiftLeft,Nat.testBit_two_pow]
 have hsh:((1 <<< c.length:Nat):Int)=((2 ^ c.length:Nat):Int):=by rw [Nat.one_shiftLeft]
 have hgo : ∀ (k:Nat) (hk:k < o.length),(ints o)[k]'Ka=(o[k]:Int):=fun k hk=>Xz hk
 refine Vh Tryz.func167 Z Tryz.results167 Tryz.ntmps167 Z ?_
 focus
  refine Zp<|Ys Z<|Zn<|Zp<|Yz (XSl 3 XInt) Z Ra Kt ?_;rintro b1 w1 hb1 b1lt E1 hO1;refine Ys Z<|Zn<|Zq<|Zp<|Vb v Z<|Zr Z (Vx (a:=v) Jr Z) (k1 _ _ ((Mono.mono E1 h))) ?_;rintro _ w2 ⟨rfl,E2⟩;refine Ym Z<|Yn Z (Vq (v:=.bool _) Z) (fun h1=>?_) (fun h1=>?_);contradiction;refine Vb u Z<|Vk Kn Z hu<|Vb v Z<|Vk Kp Z h<|Xo Z<|Vp Z<|Zn<|Xt Z fun h3=>?_;refine Zv<|Zp<|Vg Z<|Zn<|Zq<|Zp<|Vg Z<|Zn<|Zw ?_
 refine Vy [4,6,7,23,24,25,26,27,28,29,30,31,32,33,34,35,36,37,38,39,40,41,42,43,44,45] (fun ((k,M):Nat × Nat)=>[(7,.int .i64 (k:Nat)),(6,.int .i64 (M:Nat))]) (fun (k,M) w'=>Ext w2 w'∧k≤c.length∧M < 2 ^ c.length∧∀ j,M.testBit j=(o.take k).contains j) (fun x=>c.length - x.1) (0,0) Kg ?_ ?_
 ·exact ⟨Ext.refl _,Nat.zero_le _,Nat.two_pow_pos _,fun j=>Ki⟩
 rintro ⟨k,M⟩ ρj w3 ⟨E3,hk,hM,hB⟩
 by_cases hkl:k < c.length
 ·have hok:=hlt o[k] (List.getElem_mem Ka)
  have hgk:=hgo k Ka
  have hsl:=shl_le (g:=1) (k:=o[k]) Ka Ka
  have hts:=Yd o k Ka
  have hsl2:(1:Int).toNat <<< ((ints o)[k]'Ka).toNat≤4096:=by simp only [hgk,Int.toNat_natCast];exact Nat.le_trans hsl Ka
  focus
   refine Zq<|Zp<|Zu Z<|Vb u Z<|Vk Kn Z hu<|Vi Z<|Zn<|Zs Z (fun h4=>?_) (fun h4=>?_);refine Zv<|Zq<|Zw<|Zq<|Zp<|Vb u Z<|Zu Z<|Yb Kn Kl Km Z (fun _=>Z) Z hu exq Z Kf ?_;rintro _ _ rfl;refine Vb v Z<|Vk Kp Z h<|Qm Z<|Zr Z (Ud (a:=.int _ _) (b:=.int _ _) (c:=.int _ _) Jl Z Z Z) (Uz _ _ _ _) ?_;rintro _ w4 ⟨rfl,E4⟩;refine Ym Z<|Zn<|Xt Z fun h5=>?_;refine Zv<|Vf<|Zu Z<|Vb u Z<|Zu Z<|Yb Kn Kl Km Z (fun _=>Z) Z hu exq Z Kf ?_;rintro _ _ rfl;refine Wo Z (opv_shl Z Z Ka) ?_
   refine Wo Z (opv_or Z Z ⟨Int.natCast_nonneg _,Ka,Int.natCast_nonneg _,Int.le_trans (Int.ofNat_le.2 (show _≤4096 by assumption)) Kc⟩) ?_;refine Vg Z<|Zn<|Vf<|Zu Z<|Vr Z<|Vg Z<|Zn ?_;rotate_left;(exfalso;omega)
  refine ⟨((k+1,(M:Int).toNat ||| (((1:Int).toNat <<< ((ints o)[k]'Ka).toNat:Nat):Int).toNat)),Kg,Kh,?_,?_⟩
  ·have e:(M:Int).toNat ||| (((1:Int).toNat <<< ((ints o)[k]'Ka).toNat:Nat):Int).toNat=M ||| 1 <<< o[k]:=by simp only [hgk,Int.toNat_natCast];rfl
   rw [e]
   refine ⟨by exact (E3.trans E4),Ka,Nat.or_lt_two_pow hM (h1p _ hok),fun j=>?_⟩
   rw [Nat.testBit_or,hB,h1b,hts,Bool.eq_iff_iff]
   simp only [List.contains_eq_mem,List.mem_append,List.mem_singleton,decide_eq_true_eq,Bool.or_eq_true]
   exact or_congr Iff.rfl ⟨fun h=>h.symm,fun h=>h.symm⟩
  ·simp only;omega
 ·obtain rfl:k=c.length:=by omega
  have hMe:M=2 ^ c.length - 1:=by
   apply Nat.eq_of_testBit_eq
   intro j
   rw [hB,Nat.testBit_two_pow_sub_one,List.take_of_length_le Ka,List.contains_eq_mem,decide_eq_decide,ho.perm.mem_iff,List.mem_range]
  have hs1:(((1:Int).toNat <<< ((c.length:Nat):Int).toNat:Nat):Int)=((2 ^ c.length:Nat):Int):=by rw [Int.toNat_natCast,show (1:Int).toNat=1 from rfl,Nat.one_shiftLeft]
  have hs2:=Nat.one_le_two_pow (n:=c.length)
  have hrl:=reo_len (c:=c) (o:=o)
  focus
   refine Zq<|Zp<|Zu Z<|Vb u Z<|Vk Kn Z hu<|Vi Z<|Zn<|Zt Z fun h4=>?_;refine Vw ?_;refine Vd ?_;refine Zq<|Zp<|Zu Z<|Vb v Z<|Vk Kp Z h<|Wo Z (opv_shl Z Z Ka) ?_;refine Qm Z<|Xo Z<|Zn<|Xt Z fun h5=>?_;refine Zv<|Zq<|Zp<|Vg Z<|Zn<|Zw ?_
  refine Vy [5,8,9,10,53,54,55,56,57,58,59,60,61,62,63,64,65,66,67,68,69,70,71,72,73,74,75,76,77,78,79,80,81,82,83,84,85] (fun ((k,x):Nat × Value)=>[(8,.int .i64 (k:Nat)),(5,x)]) (fun (k,x) w'=>Ext w w'∧k≤c.length∧Owned w.heap.size XR w' x ((reo c o).take k)) (fun x=>c.length - x.1) (0,.slice (some ⟨b1,0,none⟩) 0 0) Kg ?_ ?_
  ·exact ⟨by exact ((E1.trans E2).trans E3),Nat.zero_le _,by rw [List.take_zero];exact (Mono.mono (E2.trans E3) hO1)⟩
  clear hO1
  rintro ⟨k,x⟩ ρk w4 ⟨E4,hk,hO1⟩
  by_cases hkl:k < c.length
  ·have hok:=hlt o[k] (List.getElem_mem Ka)
   have hgk:=hgo k Ka
   have hrow:=hc.row (i:=o[k]) Ka
   have hck:(c[((ints o)[k]'Ka).toNat]'(by simp only [hgk,Int.toNat_natCast];omega)).length=c.length:=by simp only [hgk,Int.toNat_natCast];exact hrow
   have htl:((reo c o).take k).length=k:=by simp;omega
   focus
    have szE4:=E4.size;refine Zq<|Zp<|Zu Z<|Vb u Z<|Vk Kn Z hu<|Vi Z<|Zn<|Zs Z (fun h6=>?_) (fun h6=>?_);refine Zv<|Zq<|Zw<|Zp<|Yz XInt Z Ux Kl ?_;rintro b2 w5 hb2 b2lt E5 hO2;have hs3:=E5.size;refine Ys Z<|Zn<|Zq<|Zp<|Vg Z<|Zn<|Zw ?_;rotate_left;(exfalso;omega)
   refine Vy [9,10,60,61,62,63,64,65,66,67,68,69,70,71,72,73,74,75,76,77,78,79,80,81] (fun ((j,r):Nat × Value)=>[(10,.int .i64 (j:Nat)),(9,r)]) (fun (j,r) w'=>Ext w w'∧w4.heap.size≤w'.heap.size∧j≤c.length∧OwnedB w.heap.size w4.heap.size XR w' x ((reo c o).take k)∧Owned w4.heap.size XI w' r ((o.map fun m=>bit c o[k] m).take j)) (fun x=>c.length - x.1) (0,.slice (some ⟨b2,0,none⟩) 0 0) Kg ?_ ?_
   ·exact ⟨by exact (E4.trans E5),Ka,Nat.zero_le _,hO1.toB.ext (by exact E5),by simpa using hO2⟩
   clear hO1 hO2
   rintro ⟨j,r⟩ ρl w6 ⟨E6,hs6,hj,hO1,hO2⟩
   have hml:(o.map fun m=>bit c o[k] m).length=c.length:=by simp;omega
   have htl2:((o.map fun m=>bit c o[k] m).take j).length=j:=by simp;omega
   by_cases hjl:j < c.length
   ·have hoj:=hlt o[j] (List.getElem_mem Ka)
    have hgj:=hgo j Ka
    have hel:(c[((ints o)[k]'Ka).toNat]'(by simp only [hgk,Int.toNat_natCast];omega))[((ints o)[j]'Ka).toNat]'(by rw [hck];simp only [hgj,Int.toNat_natCast];omega)=bit c o[k] o[j]:=by
     simp only [hgk,hgj,Int.toNat_natCast]
     unfold bit
     rw [Ya hok,Ya (show o[j] < c[o[k]].length by rw [hrow];exact hoj)]
    have heldS:w=w:=rfl
    focus
     have szE4:=E4.size;refine Zq<|Zp<|Zu Z<|Vb u Z<|Vk Kn Z hu<|Vi Z<|Zn<|Zs Z (fun h7=>?_) (fun h7=>?_);refine Zv<|Zq<|Zw<|Rb (fun w'=>Ext w w') Xr Z Kb ?_;intro w7 E7 K1 hz1;refine WtmV 0 r Z Z exq<|WtmV 1 v Z Z exq<|WtmV 2 u Z Z exq<|WtmI 3 Z Z exq<|Wh_get 4 5 Z Kb Kb Z Z Kb Kb (fun _=>Z) Kn Kl Km Z hu (fun w' hw'=>Ext.trans (Ext.refl _) hw') Z Kf exq ?_;rintro _ _ rfl
     refine Wh_get_z 6 7 Z Kb Kb Z Z Kb Kb (fun _=>Z) Kp Kt Kz Z h (fun w' hw'=>Ext.trans (Ext.refl _) hw') Z Kf exq ?_;rintro _ u1 hu1;refine WtmV 8 u Z Z exq<|WtmI 9 Z Z exq<|Wh_get 10 11 Z Kb Kb Z Z Kb Kb (fun _=>Z) Kn Kl Km Z hu (fun w' hw'=>Ext.trans (Ext.refl _) hw') Z Kf exq ?_;rintro _ _ rfl;refine Wh_get_z 12 13 Z Kb Kb Z Z Kb Kb (fun _=>Z) Kn Kl Km Z hu1 (fun w' hw'=>Ext.trans (Ext.refl _) hw') Z Kf exq ?_;rintro _ _ rfl
     refine Wha [14]<|Wh1 Z<|Ye (ps:=[(0,.int _ _)]) (cs:=[_]) Z Kn Kl Jg Z Z Z Z ?_;rintro b3 w8 hb3 E8 hB1 hHb3;have hlb3:=hB1.lt;have hs5:=E8.size;refine Wnx exq<|Wha [15]<|Wh1 Z<|Xh Z Ux Z Z hB1 (hO2.toB.ext (E7.trans E8)) Owned.int (Nat.le_refl _) Kf Ka Ka ((E6.trans E7).trans E8) Ka ?_;have hT1:=(hO2.toB.ext (E7.trans E8));rintro v1 w9 hO2 E9 M1;have hO1:=(hO1.ext exq).moves M1 hT1 Ka;refine Wnx E9<|WtaV 16 v1 Z Z E9<|Yh Kb ?_;refine Vf<|Zu Z<|Vr Z<|Vg Z<|Zn ?_;rotate_left;(exfalso;omega)
    refine ⟨((j+1,v1)),Kg,Kh,?_,?_⟩
    ·refine ⟨by exact E9,by have:=M1.1.size;omega,Ka,by exact hO1,?_⟩
     rw [Yd _ _ Ka]
     have e:(o.map fun m=>bit c o[k] m)[j]'Ka=bit c o[k] o[j]:=Ki
     rw [e,← hel]
     assumption
    ·simp only;omega
   ·obtain rfl:j=c.length:=by omega
    obtain ⟨rb,rc,rfl,_⟩:=hO2.lit Ka
    have hrb:=hO2.lt_own (k:=rb) rfl
    focus
     have szE4:=E4.size;refine Zq<|Zp<|Zu Z<|Vb u Z<|Vk Kn Z hu<|Vi Z<|Zn<|Vj Z fun h7=>?_;refine Vw ?_;refine Vd ?_;refine Vf<|Vb x Z<|Up Z<|Xm (ps:=[(0,.slice _ _ _)]) (cs:=[_]) Z Kp Kt Jv Z Z Z Z ?_;rintro b3 w7 hb3 E7 hB1;have hlb3:=hB1.lt;refine Xh Z Ra Z Z hB1 (hO1.ext E7) (hO2.toB.ext E7).o Ka Kf Ka Ka (E6.trans E7) Ka ?_;rintro v1 w8 hO1 E8 M1;refine Yr v1 Z<|Zn<|Vf<|Zu Z<|Vr Z<|Vg Z<|Zn ?_
    refine ⟨((k+1,v1)),Kg,Kh,?_,?_⟩
    ·refine ⟨by exact E8,Ka,?_⟩
     rw [Yd _ _ Ka]
     have e:(reo c o)[k]'Ka=(o.map fun m=>bit c o[k] m).take c.length:=by rw [List.take_of_length_le Ka];simp [reo]
     rw [e]
     assumption
    ·simp only;omega
  ·obtain rfl:k=c.length:=by omega
   focus
    refine Zq<|Zp<|Zu Z<|Vb u Z<|Vk Kn Z hu<|Vi Z<|Zn<|Vj Z fun h6=>?_;refine Vw ?_;refine Vd ?_;refine Zp<|Vb x Z<|Yr x Z<|Zn<|Zy ?_;refine ⟨E4,(congrArg (Owned _ _ _ _) ?_).mp (hO1.toB.o.mono Ka)⟩
   rw [List.take_of_length_le Ka]
theorem Sz (w:World) (v:Value) (p:List (List Int)) (h:ESl Ints w v p) (z:Int):Does Tryz.prog 126 [v,.int .i64 z] w (RetO w XR (if Nod p z then lst p z.toNat else [])):=by
 have hle:=h.le
 have k1 : ∀ (w:World) (v:Value),ESl Ints w v p→Does Tryz.prog 165 [v,.int .i64 z] w (RetDX w XR (fun c=>(Nod p z→Cand p z.toNat c)∧(¬Nod p z→c=[]))):=fun w v h=>JoinedOf_ok w v p h z
 refine Vh Tryz.func126 Z Tryz.results126 Tryz.ntmps126 Z ?_
 have stop2:True:=trivial
 focus
  refine Zp<|Ys Z<|Zn<|Zp<|Vb v Z<|Zu Z<|Zr Z (Yg (a:=v) (b:=.int _ _) Tryz.call165 Z Z) (k1 _ _ (h)) ?_;rintro u1 w1 ⟨x1,E1,hO1,hy1⟩;have hs1:=E1.size;refine Yr u1 Z<|Zn<|Zq<|Zq ?_
 clear stop2
 by_cases hz:Nod p z
 ·rw [if_pos hz]
  have hC:=hy1.1 hz
  obtain ⟨hp,hz0,hz1⟩:=id hz
  have hi:z.toNat < p.length:=Ka
  have hcg:=hC.gr hp.gr hi
  have hcl:x1.length≤p.length:=by
   obtain ⟨L,hL,rfl⟩:=hC
   rw [qp_len];exact (hL.len hp.gr hi).2
  have hp5:=hp.2.1
  have hcp:=hC.pic hp.gr hi Ka
  have hc1:=hcp.1
  have k2 : ∀ (w:World),Does Tryz.prog 166 [.int .i64 (x1.length:Int)] w (RetO w XR ((orders x1.length).map ints)):=fun w=>l4Orders_ok w _ ⟨Ka,Ka⟩
  focus
   have szE1:=E1.size;refine Vf<|Vb u1 Z<|Vk Kp Z (Owned.read hO1)<|Vm Z<|Zn<|Zt Z fun h1=>?_;refine Zv<|Zp<|Vb u1 Z<|Yr u1 Z<|Zn<|Zp<|Vb u1 Z<|Vk Kp Z (Owned.read hO1)<|Zr Z (Vx (a:=.int _ _) Tryz.call166 Z) (k2 _) ?_;rintro u2 w2 ⟨E2,hO2⟩;have hs2:=E2.size;refine Yr u2 Z<|Zn<|Zq<|Zq<|Vf<|Vg Z<|Zn<|Zw ?_
  have hlo:(orders x1.length).length≤3125:=ordS_len5 Ka Ka
  have hlm:((orders x1.length).map ints).length=(orders x1.length).length:=Ki
  have r2:=hO2.read
  have hO1':=hO1.ext (by assumption:Ext w1 w2)
  refine Vy [6,8,9,21,22,23,24,25,26,27,28,29,30,31,32,33,34,35,36,37,38] (fun ((k,u,bs):Nat × Value × List (List Int))=>[(8,.int .i64 (k:Nat)),(6,u)]) (fun (k,u,bs) w'=>Ext w2 w'∧k≤(orders x1.length).length∧Owned w.heap.size XR w' u bs∧Cand p z.toNat bs∧bs=((orders x1.length).take k).foldl (fun best o=>lstep x1 best (reo x1 o)) x1) (fun x=>(orders x1.length).length - x.1) (0,u1,x1) Kg ?_ ?_
  ·exact ⟨Ext.refl _,Nat.zero_le _,hO1',hC,rfl⟩
  rintro ⟨k,u,bs⟩ ρj w3 ⟨E3,hk,hOb,hCb,hbs⟩
  by_cases hlt:k < (orders x1.length).length
  ·have hgo:=iis_get (D:=orders x1.length) (i:=k) Ka
   have hOrd:=(mem_orders Ka).1 (List.getElem_mem hlt)
   have hcb:=hCb.pic hp.gr hi (by have:=hCb.len hC;omega)
   have hcr:=reo_cand hC hOrd
   have hcrp:=hcr.pic hp.gr hi (by have:=hcr.len hC;omega)
   have k3 : ∀ (w:World) (v u:Value),ESl Ints w v x1→Ints w u ((orders x1.length).map ints)[k]→Does Tryz.prog 167 [v,u] w (RetO w XR (reo x1 (orders x1.length)[k])):=fun w v u h h'=>Reordered_ok w v u x1 _ h (hgo ▸ h') hcp hOrd
   have k4 : ∀ (w:World) (v:Value),ESl Ints w v bs→Does Tryz.prog 62 [v] w (Ret w (str (txt bs))):=fun w v h=>by
    have:=Uk w v bs h
    rw [if_pos hcb] at this;exact this
   have k5 : ∀ (w:World) (v:Value),ESl Ints w v (reo x1 (orders x1.length)[k])→Does Tryz.prog 62 [v] w (Ret w (str (txt (reo x1 (orders x1.length)[k])))):=fun w v h=>by
    have:=Uk w v _ h
    rw [if_pos hcrp] at this;exact this
   have hstep:((orders x1.length).take (k+1)).foldl (fun best o=>lstep x1 best (reo x1 o)) x1=lstep x1 bs (reo x1 (orders x1.length)[k]):=by rw [Yd _ _ hlt,List.foldl_append,← hbs];rfl
   focus
    have szE3:=E3.size;have szE2:=E2.size;have szE1:=E1.size;refine Zq<|Zp<|Zu Z<|Vb u2 Z<|Vk Kp Z r2<|Vi Z<|Zn<|Zs Z (fun h2=>?_) (fun h2=>?_);refine Zv<|Zq<|Zw<|Zq<|Vf<|Vb u1 Z<|Vb u2 Z<|Zu Z<|Yb Kp Kt Kz Z (fun _=>Z) Z r2 E3 Z Kf ?_;rintro _ u3 hu1;refine Zr Z (Yg (a:=u1) (b:=u3) Tryz.call167 Z Z) (k3 _ _ _ ((Mono.mono E3 (Owned.read hO1'))) ((Mono.mono E3 hu1))) ?_;rintro u4 w4 ⟨E4,hO3⟩;have hs3:=E4.size;refine Yr u4 Z<|Zn<|Zp<|Vb u4 Z<|Zr Z (Vx (a:=u4) Jy Z) (k5 _ _ ((Owned.read hO3))) ?_;rintro _ w5 ⟨rfl,E5⟩;have hs4:=E5.size
    refine Vb u Z<|Zr Z (Vx (a:=u) Jy Z) (k4 _ _ ((Mono.mono exq (Owned.read hOb)))) ?_;rintro _ w6 ⟨rfl,E6⟩;have hs5:=E6.size;refine Wo Z (opv_lss_str Z Z)<|Zn<|Xg Z (fun h3=>?_) (fun h3=>?_);refine Vf<|Vb u4 Z<|Yr u4 Z<|Zn<|Vf<|Zu Z<|Vr Z<|Vg Z<|Zn ?_;rotate_left;refine Zv<|Vf<|Zu Z<|Vr Z<|Vg Z<|Zn ?_;rotate_left;(exfalso;omega)
   ·refine ⟨((k+1,u4,reo x1 (orders x1.length)[k])),Kg,Kh,?_,?_⟩
    ·refine ⟨by exact (((E3.trans E4).trans E5).trans E6),Ka,(hO3.ext (by exact (E5.trans E6):Ext w4 w6)).mono Ka,hcr,?_⟩
     rw [hstep]
     exact (if_pos Kd).symm
    ·simp only;omega
   ·refine ⟨((k+1,u,bs)),Kg,Kh,?_,?_⟩
    ·refine ⟨by exact (((E3.trans E4).trans E5).trans E6),Ka,by exact (Mono.mono ((E4.trans E5).trans E6) hOb),hCb,?_⟩
     rw [hstep]
     exact (if_neg (by simp only [Bool.not_eq_true];assumption)).symm
    ·simp only;omega
  ·obtain rfl:k=(orders x1.length).length:=by omega
   focus
    have szE3:=E3.size;have szE2:=E2.size;have szE1:=E1.size;refine Zq<|Zp<|Zu Z<|Vb u2 Z<|Vk Kp Z r2<|Vi Z<|Zn<|Zt Z fun h2=>?_;refine Vw ?_;refine Vd ?_;refine Zp<|Vb u Z<|Yr u Z<|Zn<|Zy ?_;refine ⟨exq,(congrArg (Owned _ _ _ _) ?_).mp (hOb.toB.o.mono Ka)⟩
   rw [hbs,List.take_length]
   exact lst_fold_eq hp.gr hi hC
 ·rw [if_neg hz]
  obtain rfl:=hy1.2 hz
  have hnil:(([]:List (List Int)).length:Int)=0:=rfl
  focus
   have szE1:=E1.size;refine Vf<|Vb u1 Z<|Vk Kp Z (Owned.read hO1)<|Vm Z<|Zn<|Zs Z (fun h1=>?_) (fun h1=>?_);refine Zp<|Vb u1 Z<|Yr u1 Z<|Zn<|Zy ?_;exact ⟨E1,hO1.toB.o.mono Ka⟩;contradiction
theorem Xf:Flat Tryz.prog 26 [.slice none 0 0,.slice none 0 0]:=⟨_,Tryz.underlying26,fun _=>Kb,fun _=>Kb⟩
theorem copyRowsI_ok (w:World) (v:Value) (p:List (List Int)) (h:ESl Ints w v p) (hp:p.length≤100) (hr : ∀ r ∈ p,r.length≤100):Does Tryz.prog 128 [v] w (RetO w XR p):=by
 refine Vh Tryz.func128 Z Tryz.results128 Tryz.ntmps128 Z ?_
 focus
  refine Zp<|Ys Z<|Zn<|Zp<|Yz (XSl 3 XInt) Z Ra Kt ?_;rintro b1 w1 hb1 b1lt E1 hO1;refine Ys Z<|Zn<|Zq<|Zp<|Vb v Z<|Vk Kp Z h<|Zu Z<|Zn<|Zw ?_
 refine Vy [3,5,9,10,11,12,13,14,15,16,17,18,19] (fun ((k,u):Nat × Value)=>[(9,.int .i64 (k:Nat)),(3,u)]) (fun (k,u) w'=>Ext w w'∧k≤p.length∧Owned w.heap.size XR w' u (p.take k)) (fun x=>p.length - x.1) (0,.slice (some ⟨b1,0,none⟩) 0 0) Kg ?_ ?_
 ·exact ⟨by exact E1,Nat.zero_le _,by simpa using hO1⟩
 clear hO1
 rintro ⟨k,u⟩ ρj w2 ⟨E2,hk,hO1⟩
 have hlt':(p.take k).length=k:=by simp;omega
 by_cases hlt:k < p.length
 ·have hrl:=hr _ (List.getElem_mem hlt)
  focus
   have szE2:=E2.size;refine Zp<|Vi Z<|Zn<|Zq<|Zs Z (fun h1=>?_) (fun h1=>?_);refine Zv<|Zq<|Zw<|Zp<|Yb Kp Kt Kz Z (fun _=>Z) Z h E2 Z Kf ?_;rintro _ u1 hu1;refine Yr u1 Z<|Zn<|Vf<|Vb u Z<|Yz XInt Z Ux Kl ?_;rintro b2 w3 hb2 b2lt E3 hO2;have hs2:=E3.size;refine Vb u1 Z<|Wo_appS Z Ux Z Z (Mono.mono (E2.trans E3) hu1) hO2.toB Kf Ka Ka (E2.trans E3) Ka ?_;have hT1:=hO2.toB;rintro v1 w4 hO2 E4 M1;have hO1:=(hO1.toB.ext E3).moves M1 hT1 Ka;have szM1:=M1.1.size;refine Ua Z Kp Kt Jv Z (OwnedB.isC hO2.toB) Z ?_;rintro b3 w5 hb3 E6 hB1 hHb3;have hs4:=E6.size
   refine Xh Z Ra Z Z hB1 (hO1.ext E6) (hO2.toB.ext E6).o Ka Kf Ka Ka (E4.trans E6) Ka ?_;rintro v2 w6 hO1 E7 M2;refine Yr v2 Z<|Zn<|Vf<|Vr Z<|Zu Z<|Zn ?_;rotate_left;(exfalso;omega)
  refine ⟨((k+1,v2)),Kg,Kh,?_,?_⟩
  ·refine ⟨by exact E7,Ka,?_⟩
   rw [Yd _ _ hlt]
   exact hO1
  ·simp only;omega
 ·obtain rfl:k=p.length:=by omega
  rw [List.take_length] at hO1
  focus
   refine Zp<|Vi Z<|Zn<|Zq<|Zt Z fun h1=>?_;refine Vw ?_;refine Vd ?_;refine Zp<|Vb u Z<|Yr u Z<|Zn<|Zy ?_;exact ⟨E2,hO1.toB.o.mono Ka⟩
theorem Sh (w:World) (u1 u2:Value) (now:List (List Int)) (past:List (List (List Int))) (h1:ESl Ints w u1 now) (h2:ESl (ESl Ints) w u2 past) (hn:now.length≤100∧∀ r ∈ now,r.length≤100) (hpl:past.length≤100) (hp : ∀ p ∈ past,p.length≤100∧∀ r ∈ p,r.length≤100) :
  Does Tryz.prog 77 [.agg #[u1,u2]] w (RetDk w 23 88 3 now past):=by
 have icu1:isCell u1=true:=Uu h1
 have icu2:isCell u2=true:=Uu h2
 have k1 : ∀ (w:World) (v:Value),ESl Ints w v now→Does Tryz.prog 128 [v] w (RetO w XR now):=fun w v h=>copyRowsI_ok w v now h hn.1 hn.2
 have k2 : ∀ (k:Nat) (hk:k < past.length) (w:World) (v:Value),ESl Ints w v past[k]→Does Tryz.prog 128 [v] w (RetO w XR past[k]):=fun k hk w v h=>copyRowsI_ok w v _ h (hp _ (List.getElem_mem hk)).1 (hp _ (List.getElem_mem hk)).2
 refine fn_of_Wc Tryz.func77 Z Tryz.results77 Tryz.ntmps77 Z Ks Ko ?_
 focus
  refine Zp<|Yl Z Z Z ?_;rintro b1 w1 hb1 E1 hB1;have hlb1:=hB1.lt;refine Yp Z Xf ?_;rintro b2 w2 hb2 E2 hB2;have hlb2:=hB2.lt;have hs2:=E2.size;refine Zn<|Zp<|Vn Ky Ja Z<|Yu u1 Kw (hB1.ext E2) Z<|Zr Z (Vx (a:=u1) Tryz.call128 Z) (k1 _ _ ((Mono.mono exq h1))) ?_;rintro u3 w3 ⟨E3,hO1⟩;have ichO1:=OwnedB.isC (Owned.toB hO1);have hs3:=E3.size;refine Wo Z (opv_buildF0 Xf Z (OwnedB.isC hO1.toB))<|Yp Z Xf ?_;rintro b3 w4 hb3 E4 hB3;have hlb3:=hB3.lt;have hs4:=E4.size;refine Xj Z Ko Z Z Ke Ke hB3 Ka (((E1.trans E2).trans E3).trans E4) ?_;rintro w5 E5 hB3 K1 hz1;have E6:=((E2.trans E3).trans E4).wroteAt exq E5 K1 hz1 Ka;have szE6:=E6.size
  have E7:=(E3.trans E4).wroteAt exq E5 K1 hz1 Ka;have szE7:=E7.size;have E8:=E4.wroteAt exq E5 K1 hz1 Ka;simp only [List.set] at hB3;have hB1:=(hB1.ext exq).of_heap (K1 _ Ka);have hB2:=(hB2.ext exq).of_heap (K1 _ Ka);have hO1:=(hO1.toB.ext E4).wrote K1 Ka;refine Zn<|Zq<|Zp<|Vn Ky Jb Z<|Yu u2 Jf hB1 Z<|Vk Jc Z h2<|Zu Z<|Zn<|Zw ?_
 have hO0:Owned w4.heap.size (XSl 23 XR) w5 (.slice none 0 0) ([]:List (List (List Int))):=Owned.nil
 have hN:=hO1
 clear hO1 hB1 hB2 k1
 refine Vy [5,13,14,15,16,17,18,19,20,21,22,23,24] (fun ((k,u):Nat × Value)=>[(13,.int .i64 (k:Nat))]) (fun (k,u) w'=>Ext w3 w'∧k≤past.length∧w4.heap.size≤w'.heap.size∧Blk w' b3 [u3,u]∧Owned w4.heap.size (XSl 23 XR) w' u (past.take k)∧OwnedB w2.heap.size w3.heap.size XR w' u3 now) (fun x=>past.length - x.1) (0,.slice none 0 0) Kg ?_ ?_
 ·exact ⟨by exact E8,Nat.zero_le _,Ka,hB3,by simpa using hO0,hN⟩
 clear hO0 hB3 hN
 rintro ⟨k,u⟩ ρj w6 ⟨E6,hk,hsz,hB4,hO1,hN⟩
 have icu:isCell u=true:=OwnedB.isC hO1.toB
 have hlt':(past.take k).length=k:=by simp;omega
 by_cases hlt:k < past.length
 ·have k2k:=k2 k hlt
  have ht:=Yd _ _ hlt
  have heldS:w=w:=rfl
  focus
   have szE5:=E5.size;have szE4:=E4.size;refine Zq<|Vf<|Vi Z<|Zn<|Zq<|Zs Z (fun h3=>?_) (fun h3=>?_);refine Zv<|Zq<|Zw<|Zq<|Vf<|Yb Jc Ja Kw Z (fun _=>Z) Z h2 exq Z Kf ?_;rintro _ u4 hu1;refine Yr u4 Z<|Zn<|Rb (fun w'=>Ext w w') Xr Z Kb ?_;intro w7 E9 K2 hz2;have hs5:=E9.size;refine St 0 Ky Jb Z Z exq<|WtmV 2 u4 Z Z exq<|Wha [1,3]<|Vu Z ?_ ?_;refine Yu u Jf (hB4.ext E9) Z<|Wnx exq<|Wha [3]<|Wh1 Z<|Zr Z (Vx (a:=u4) Tryz.call128 Z) (k2k _ _ ((Mono.mono exq hu1))) ?_;rintro u5 w8 ⟨E10,hO2⟩;have hs6:=E10.size
   refine Wnx exq<|Wha [4]<|Wh1 Z<|Ua Z Jc Ja Ge Z (OwnedB.isC hO2.toB) Z ?_;rintro b4 w9 hb4 E11 hB5 hHb4;have hlb4:=hB5.lt;have hs7:=E11.size;refine Wnx exq<|Wha [5]<|Wh1 Z<|Xh Z el24 Z Z hB5 (hO1.toB.ext ((E9.trans E10).trans E11)) (hO2.toB.ext E11).o Ka Kf Ka Ka ((((((E1.trans E2).trans E3).trans E6).trans E9).trans E10).trans E11) Ka ?_;have hT1:=(hO1.toB.ext ((E9.trans E10).trans E11));rintro v1 w10 hO1 E12 M1;have E15:=M1.ext hT1 (((E6.trans E9).trans E10).trans E11) Ka;have hB4:=(hB4.ext exq).moves M1 hT1 Ka;have hN:=(hN.ext exq).moves M1 hT1 Ka;have szM1:=M1.1.size
   refine Wnx E12<|St 6 Ky Jb Z Z E12<|Wha [7]<|Wh1 Z<|Xk (v:=v1) Z Jb Z Z (OwnedB.isC hO1.toB) hB4 Ki Ka E12 ?_;rintro w11 E16 hB4 K3 hz3;have E19:=E15.wroteAt E12 E16 K3 hz3 Ka;simp only [List.set] at hB4;have hO1:=hO1.toB.wrote K3 Ka;have hN:=hN.wrote K3 Ka;refine Wnx E16<|Yh Kb ?_;refine Vf<|Vr Z<|Zu Z<|Zn ?_;rotate_left;refine Wh1 Z<|Zr Z (Vx (a:=u4) Tryz.call128 Z) (k2k _ _ ((Mono.mono exq hu1))) ?_;rintro u5 w8 ⟨E10,hO2⟩;have hs6:=E10.size;refine Wnx exq<|Wha [1,4]<|Vu Z ?_ ?_;refine Yu u Jf (hB4.ext exq) Z<|Wnx exq<|Wha [4]<|Wh1 Z<|Ua Z Jc Ja Ge Z (OwnedB.isC hO2.toB) Z ?_;rintro b4 w9 hb4 E11 hB5 hHb4
   have hlb4:=hB5.lt;have hs7:=E11.size;refine Wnx exq<|Wha [5]<|Wh1 Z<|Xh Z el24 Z Z hB5 (hO1.toB.ext ((E9.trans E10).trans E11)) (hO2.toB.ext E11).o Ka Kf Ka Ka ((((((E1.trans E2).trans E3).trans E6).trans E9).trans E10).trans E11) Ka ?_;have hT1:=(hO1.toB.ext ((E9.trans E10).trans E11));rintro v1 w10 hO1 E12 M1;have E15:=M1.ext hT1 (((E6.trans E9).trans E10).trans E11) Ka;have hB4:=(hB4.ext exq).moves M1 hT1 Ka;have hN:=(hN.ext exq).moves M1 hT1 Ka;have szM1:=M1.1.size;refine Wnx E12<|St 6 Ky Jb Z Z E12<|Wha [7]<|Wh1 Z<|Xk (v:=v1) Z Jb Z Z (OwnedB.isC hO1.toB) hB4 Ki Ka E12 ?_;rintro w11 E16 hB4 K3 hz3;have E19:=E15.wroteAt E12 E16 K3 hz3 Ka
   simp only [List.set] at hB4;have hO1:=hO1.toB.wrote K3 Ka;have hN:=hN.wrote K3 Ka;refine Wnx E16<|Yh Kb ?_;refine Vf<|Vr Z<|Zu Z<|Zn ?_;rotate_left;refine Wh1 Z<|Ua Z Jc Ja Ge Z (OwnedB.isC hO2.toB) Z ?_;rintro b4 w9 hb4 E11 hB5 hHb4;have hlb4:=hB5.lt;have hs7:=E11.size;refine Wnx exq<|Wha [1]<|Wh1 Z<|Yu u Jf (hB4.ext exq) Z<|Wnx exq<|Wha [5]<|Wh1 Z<|Xh Z el24 Z Z hB5 (hO1.toB.ext ((E9.trans E10).trans E11)) (hO2.toB.ext E11).o Ka Kf Ka Ka ((((((E1.trans E2).trans E3).trans E6).trans E9).trans E10).trans E11) Ka ?_;have hT1:=(hO1.toB.ext ((E9.trans E10).trans E11));rintro v1 w10 hO1 E12 M1
   have E15:=M1.ext hT1 (((E6.trans E9).trans E10).trans E11) Ka;have hB4:=(hB4.ext exq).moves M1 hT1 Ka;have hN:=(hN.ext exq).moves M1 hT1 Ka;have szM1:=M1.1.size;refine Wnx E12<|St 6 Ky Jb Z Z E12<|Wha [7]<|Wh1 Z<|Xk (v:=v1) Z Jb Z Z (OwnedB.isC hO1.toB) hB4 Ki Ka E12 ?_;rintro w11 E16 hB4 K3 hz3;have E19:=E15.wroteAt E12 E16 K3 hz3 Ka;simp only [List.set] at hB4;have hO1:=hO1.toB.wrote K3 Ka;have hN:=hN.wrote K3 Ka;refine Wnx E16<|Yh Kb ?_;refine Vf<|Vr Z<|Zu Z<|Zn ?_;rotate_left;(exfalso;omega)
  all_goals first
   | (refine ⟨(k + 1, v1), Kg, Kh, ?_, Kj⟩
      refine ⟨Kd, Ka, Ka, hB4, ?_, hN⟩
      rw [ht]; exact hO1.o)
 ·obtain rfl:k=past.length:=by omega
  rw [List.take_length] at hO1
  focus
   have szE6:=E6.size;have szE4:=E4.size;refine Zq<|Vf<|Vi Z<|Zn<|Zq<|Zt Z fun h3=>?_;refine Vw ?_;refine Vd ?_;refine Zq<|Vf<|Xc Ks Ko hB4 Z<|Xj Z Ko Z Z Ke Ke (hB2.ext (E3.trans E6)) Ka (((E1.trans E2).trans E3).trans E6) ?_;rintro w7 E9 hB2 K2 hz2;have hN:=hN.wrote K2 Ka;have hO1:=hO1.toB.wrote K2 Ka;refine Zn<|Zy ?_
  refine ⟨b2,u3,u,Z,Kd,u3,u,w3.heap.size,Z,by exact E9,?_,hO1.o.mono Ka,Ka,Ka⟩
  exact hN.wide Ka (Nat.le_refl _)
theorem Te (w:World) (v:Value) (p:List (List Int)) (h:ESl Ints w v p) (hp:Gr p) (a:Nat) (ha:a < p.length):Does Tryz.prog 119 [v,.int .i64 (a:Int)] w (RetO w XI (ints (arr p a))):=by
 have hle:=h.le
 have hp5:=hp.2.1
 have hrow:=hp.row ha
 have har:arr p a=(List.range p.length).filter fun j=>decide (p[a].getD j 0=1):=by unfold arr arrR;rw [Ya ha,hrow]
 refine Vh Tryz.func119 Z Tryz.results119 Tryz.ntmps119 Z ?_
 focus
  refine Zp<|Ys Z<|Zn<|Zp<|Yz XInt Z Ux Kl ?_;rintro b1 w1 hb1 b1lt E1 hO1;refine Ys Z<|Zn<|Zq<|Zp<|Vg Z<|Zn<|Zw ?_
 refine Vy [5,6,8,9,10,11,12,13,14,15,16,17,18,19,20,21,22,23,24,25] (fun ((k,u):Nat × Value)=>[(6,.int .i64 (k:Nat)),(5,u)]) (fun (k,u) w'=>Ext w w'∧k≤p.length∧Owned w.heap.size XI w' u (ints ((List.range k).filter fun j=>decide (p[a].getD j 0=1)))) (fun x=>p.length - x.1) (0,.slice (some ⟨b1,0,none⟩) 0 0) Kg ?_ ?_
 ·exact ⟨by exact E1,Nat.zero_le _,hO1⟩
 clear hO1
 rintro ⟨k,u⟩ ρj w2 ⟨E2,hk,hO1⟩
 have hfl:(ints ((List.range k).filter fun j=>decide (p[a].getD j 0=1))).length≤11:=by
  rw [Yy];exact Nat.le_trans (List.length_filter_le _ _) (by rw [List.length_range];omega)
 by_cases hlt:k < p.length
 ·have hg:p[a].getD k 0=p[a][k]:=Ya Ka
  by_cases hc:p[a][k]=1
  ·focus
    have szE2:=E2.size;refine Zq<|Zp<|Zu Z<|Vb v Z<|Vk Kp Z h<|Vi Z<|Zn<|Zs Z (fun h1=>?_) (fun h1=>?_);refine Zv<|Zq<|Zw<|Zq<|Vf<|Vb v Z<|Zu Z<|Yb Kp Kt Kz Z (fun _=>Z) Z h E2 Z Kf ?_;rintro _ u1 hu1;refine Zu Z<|Yb Kn Kl Km Z (fun _=>Z) Z hu1 E2 Z Kf ?_;rintro _ _ rfl;refine Vm Z<|Zn<|Zs Z (fun h2=>?_) (fun h2=>?_);refine Vf<|Vb u Z<|Zu Z<|Ye (ps:=[(0,.int _ _)]) (cs:=[_]) Z Kn Kl Jg Z Z Z Z ?_;rintro b2 w3 hb2 E3 hB1 hHb2;have hs2:=E3.size
    refine Xh Z Ux Z Z hB1 (hO1.toB.ext E3) Owned.int (Nat.le_refl _) Kf Ka Ka (E2.trans E3) Ka ?_;rintro v1 w4 hO1 E4 M1;refine Yr v1 Z<|Zn<|Vf<|Zu Z<|Vr Z<|Vg Z<|Zn ?_;rotate_left;contradiction;(exfalso;omega)
   refine ⟨((k+1,v1)),Kg,Kh,?_,?_⟩
   ·refine ⟨by exact E4,Ka,?_⟩
    rw [Xq,hg,decide_eq_true hc,ints_append]
    exact hO1
   ·simp only;omega
  ·focus
    refine Zq<|Zp<|Zu Z<|Vb v Z<|Vk Kp Z h<|Vi Z<|Zn<|Zs Z (fun h1=>?_) (fun h1=>?_);refine Zv<|Zq<|Zw<|Zq<|Vf<|Vb v Z<|Zu Z<|Yb Kp Kt Kz Z (fun _=>Z) Z h E2 Z Kf ?_;rintro _ u1 hu1;refine Zu Z<|Yb Kn Kl Km Z (fun _=>Z) Z hu1 E2 Z Kf ?_;rintro _ _ rfl;refine Vm Z<|Zn<|Vj Z fun h2=>?_;refine Zv<|Vf<|Zu Z<|Vr Z<|Vg Z<|Zn ?_;rotate_left;(exfalso;omega)
   refine ⟨((k+1,u)),Kg,Kh,?_,?_⟩
   ·refine ⟨by exact E2,Ka,?_⟩
    rw [Xq,hg,decide_eq_false hc]
    simp only [Bool.false_eq_true,if_false,List.append_nil]
    exact hO1
   ·simp only;omega
 ·obtain rfl:k=p.length:=by omega
  focus
   refine Zq<|Zp<|Zu Z<|Vb v Z<|Vk Kp Z h<|Vi Z<|Zn<|Zt Z fun h1=>?_;refine Vw ?_;refine Vd ?_;refine Zq<|Vf<|Vb u Z<|Yr u Z<|Zn<|Zy ?_;refine ⟨E2,(congrArg (Owned _ _ _ _) ?_).mp (hO1.toB.o.mono Ka)⟩
  rw [har]
open Classical in
theorem Sc (w:World) (v u:Value) (p q:List (List Int)) (h:ESl Ints w v p) (h':ESl Ints w u q) (a b:Int) (ha:Nod p a) (hb:Nod q b):Does Tryz.prog 121 [v,.int .i64 a,u,.int .i64 b] w (Ret w (.bool (decide (Bis p a.toNat q b.toNat)))):=by
 have la:a.toNat < p.length:=by have:=ha.2;omega
 have lb:b.toNat < q.length:=by have:=hb.2;omega
 have hx:=lst_pic ha.1 la
 have hy:=lst_pic hb.1 lb
 have hx1:=hx.1
 have k1 : ∀ (w:World) (v:Value),ESl Ints w v p→Does Tryz.prog 126 [v,.int .i64 a] w (RetO w XR (lst p a.toNat)):=fun w v h=>by
  have:=Sz w v p h a
  rwa [if_pos ha] at this
 have k2 : ∀ (w:World) (v:Value),ESl Ints w v q→Does Tryz.prog 126 [v,.int .i64 b] w (RetO w XR (lst q b.toNat)):=fun w v h=>by
  have:=Sz w v q h b
  rwa [if_pos hb] at this
 have k3 : ∀ (w:World) (v:Value),ESl Ints w v (lst p a.toNat)→Does Tryz.prog 62 [v] w (Ret w (str (txt (lst p a.toNat)))):=fun w v h=>by
  have:=Uk w v _ h
  rwa [if_pos hx] at this
 have k4 : ∀ (w:World) (v:Value),ESl Ints w v (lst q b.toNat)→Does Tryz.prog 62 [v] w (Ret w (str (txt (lst q b.toNat)))):=fun w v h=>by
  have:=Uk w v _ h
  rwa [if_pos hy] at this
 have key:(lst p a.toNat=lst q b.toNat)↔Bis p a.toNat q b.toNat:=lst_same ha.1.gr hb.1.gr la lb
 have key2:txt (lst p a.toNat)=txt (lst q b.toNat)→lst p a.toNat=lst q b.toNat:=txt_inj hx.gr hy.gr
 refine Vh Tryz.func121 Z Tryz.results121 Tryz.ntmps121 Z ?_
 generalize lst p a.toNat=x at *
 generalize lst q b.toNat=y at *
 focus
  refine Zp<|Zz Z<|Zn<|Zp<|Vb v Z<|Zu Z<|Zr Z (Yg (a:=v) (b:=.int _ _) Za Z Z) (k1 _ _ (h)) ?_;rintro u1 w1 ⟨E1,hO1⟩;refine Yr u1 Z<|Zn<|Zp<|Vb u Z<|Zu Z<|Zr Z (Yg (a:=u) (b:=.int _ _) Za Z Z) (k2 _ _ ((Mono.mono E1 h'))) ?_;rintro u2 w2 ⟨E2,hO2⟩;refine Yr u2 Z<|Zn<|Zq<|Vf<|Vb u1 Z<|Vk Kp Z (Owned.read hO1)<|Qe Z<|Yf Z (fun h1=>?_) (fun h1=>?_);refine Vb u1 Z<|Vk Kp Z (Owned.read hO1)<|Vb u2 Z<|Vk Kp Z (Owned.read hO2)<|Vm Z<|Yq Z<|Yf Z (fun h2=>?_) (fun h2=>?_);refine Vb u1 Z<|Zr Z (Vx (a:=u1) Jy Z) (k3 _ _ ((Mono.mono E2 (Owned.read hO1)))) ?_;rintro _ w3 ⟨rfl,E3⟩
  refine Vb u2 Z<|Zr Z (Vx (a:=u2) Jy Z) (k4 _ _ ((Mono.mono E3 (Owned.read hO2)))) ?_;rintro _ w4 ⟨rfl,E4⟩;refine Wo Z (Vc Z Z)<|Yq Z<|Zz Z<|Zn<|Zy ?_;refine Ve (v:=.bool _) Z ?_;refine ⟨congrArg Value.bool ?_,exq⟩;rotate_left;refine Zo Z<|Zo Z<|Zo Z<|Zo Z<|Zo Z<|Vp Z<|Zz Z<|Zn<|Zy ?_;refine Ve (v:=.bool _) Z ?_;refine ⟨congrArg Value.bool ?_,exq⟩;rotate_left;(exfalso;omega)
 ·exact decide_eq_decide.2 ⟨fun e=>key.1 (key2 e),fun e=>by rw [key.2 e]⟩
 ·exact (decide_eq_false fun hb=>by have e:=congrArg List.length (key.2 hb);omega).symm
open Classical in
theorem Mg (w:World) (v:Value) (p:List (List Int)) (h:ESl Ints w v p):Does Tryz.prog 73 [v] w (Ret w (.bool (decide (LeastP p)))):=by
 have hle:=h.le
 by_cases hp:Pic p
 ·have hn:Nod p 0:=⟨hp,Ka,by have:=hp.1;omega⟩
  have hx:=lst_pic hp (a:=0) (by have:=hp.1;omega)
  have hx1:=hx.1
  have k1 : ∀ (w:World) (v:Value),ESl Ints w v p→Does Tryz.prog 126 [v,.int .i64 0] w (RetO w XR (lst p 0)):=fun w v h=>by
   have:=Sz w v p h 0
   rwa [if_pos hn] at this
  have k3 : ∀ (w:World) (v:Value),ESl Ints w v (lst p 0)→Does Tryz.prog 62 [v] w (Ret w (str (txt (lst p 0)))):=fun w v h=>by
   have:=Uk w v _ h
   rwa [if_pos hx] at this
  have k4 : ∀ (w:World) (v:Value),ESl Ints w v p→Does Tryz.prog 62 [v] w (Ret w (str (txt p))):=fun w v h=>by
   have:=Uk w v _ h
   rwa [if_pos hp] at this
  refine Vh Tryz.func73 Z Tryz.results73 Tryz.ntmps73 Z ?_
  have key:LeastP p↔lst p 0=p:=⟨fun h=>h.2,fun h=>⟨hp,h⟩⟩
  have key2:txt (lst p 0)=txt p→lst p 0=p:=txt_inj hx.gr hp.gr
  generalize lst p 0=x at *
  focus
   refine Zp<|Zz Z<|Zn<|Zp<|Vb v Z<|Zr Z (Yg (a:=v) (b:=.int _ _) Za Z Z) (k1 _ _ (h)) ?_;rintro u1 w1 ⟨E1,hO1⟩;refine Yr u1 Z<|Zn<|Zq<|Vf<|Vb u1 Z<|Vk Kp Z (Owned.read hO1)<|Qe Z<|Yf Z (fun h1=>?_) (fun h1=>?_);refine Vb u1 Z<|Vk Kp Z (Owned.read hO1)<|Vb v Z<|Vk Kp Z h<|Vm Z<|Yq Z<|Yf Z (fun h2=>?_) (fun h2=>?_);refine Vb u1 Z<|Zr Z (Vx (a:=u1) Jy Z) (k3 _ _ ((Owned.read hO1))) ?_;rintro _ w2 ⟨rfl,E2⟩;refine Vb v Z<|Zr Z (Vx (a:=v) Jy Z) (k4 _ _ ((Mono.mono exq h))) ?_;rintro _ w3 ⟨rfl,E3⟩;refine Wo Z (Vc Z Z)<|Yq Z<|Zz Z<|Zn<|Zy ?_;refine Ve (v:=.bool _) Z ?_
   refine ⟨congrArg Value.bool ?_,exq⟩;rotate_left;refine Zo Z<|Zo Z<|Zo Z<|Zo Z<|Zo Z<|Vp Z<|Zz Z<|Zn<|Zy ?_;refine Ve (v:=.bool _) Z ?_;refine ⟨congrArg Value.bool ?_,E1⟩;rotate_left;(exfalso;omega)
  ·exact decide_eq_decide.2 ⟨fun e=>key.2 (key2 e),fun e=>by rw [key.1 e]⟩
  ·exact (decide_eq_false fun hb=>by have e:=congrArg List.length (key.1 hb);omega).symm
 ·have hn : ¬Nod p 0:=fun h=>hp h.1
  have k1 : ∀ (w:World) (v:Value),ESl Ints w v p→Does Tryz.prog 126 [v,.int .i64 0] w (RetO w XR []):=fun w v h=>by
   have:=Sz w v p h 0
   rwa [if_neg hn] at this
  have hnil:(([]:List (List Int)).length:Int)=0:=rfl
  refine Vh Tryz.func73 Z Tryz.results73 Tryz.ntmps73 Z ?_
  focus
   refine Zp<|Zz Z<|Zn<|Zp<|Vb v Z<|Zr Z (Yg (a:=v) (b:=.int _ _) Za Z Z) (k1 _ _ (h)) ?_;rintro u1 w1 ⟨E1,hO1⟩;refine Yr u1 Z<|Zn<|Zq<|Vf<|Vb u1 Z<|Vk Kp Z (Owned.read hO1)<|Qe Z<|Yw Z fun h1=>?_;refine Zo Z<|Zo Z<|Zo Z<|Zo Z<|Zo Z<|Vp Z<|Yi Z<|Zo Z<|Zo Z<|Zo Z<|Zo Z<|Zo Z<|Vp Z<|Zz Z<|Zn<|Zy ?_;refine Ve (v:=.bool _) Z ?_;refine ⟨congrArg Value.bool ?_,E1⟩
  exact (decide_eq_false fun hb=>hp hb.1).symm
open Classical in
theorem Rd (w:World) (u1 u2:Value) (d:Dsk) (h1:ESl Ints w u1 d.now) (h2:ESl (ESl Ints) w u2 d.past):Does Tryz.prog 16 [.agg #[u1,u2]] w (Ret w (.bool (decide (DkOk d)))):=by
 obtain ⟨p,pp⟩:=d
 have hle:=h2.le
 simp only at h1 h2 hle
 have icu1:isCell u1=true:=by obtain ⟨_,_,rfl,_⟩:=h1;rfl
 have icu2:isCell u2=true:=by obtain ⟨_,_,rfl,_⟩:=h2;rfl
 refine Vh Tryz.func16 Z Tryz.results16 Tryz.ntmps16 Z ?_
 focus
  refine Zp<|Yl Z Z Z ?_;rintro b1 w1 hb1 E1 hB1;refine Zz Z<|Zn<|Zq<|Zp<|Vg Z<|Zn<|Zw ?_
 refine Vy [2,3,4,5,6,7,8,9,10,11,12,13,14,15,16,17] (fun (k:Nat)=>[(3,.int .i64 (k:Nat))]) (fun k w'=>Ext w1 w'∧k≤pp.length∧∀ q ∈ pp.take k,LeastP q) (fun x=>pp.length - x) 0 Kg ?_ ?_
 ·exact ⟨Ext.refl _,Nat.zero_le _,Ki⟩
 rintro k ρj w2 ⟨E2,hk,hall⟩
 by_cases hlt:k < pp.length
 ·by_cases hq:LeastP pp[k]
  ·have kq : ∀ (w:World) (v:Value),ESl Ints w v pp[k]→Does Tryz.prog 73 [v] w (Ret w (.bool true)):=fun w v h=>by
    have:=Mg w v _ h
    rwa [decide_eq_true hq] at this
   focus
    refine Zq<|Zp<|Zu Z<|Vn Ky Jb Z<|Yu u2 Jf (hB1.ext E2) Z<|Vk Jc Z h2<|Vi Z<|Zn<|Zs Z (fun h3=>?_) (fun h3=>?_);refine Zv<|Zq<|Zw<|Zp<|Vn Ky Jb Z<|Yu u2 Jf (hB1.ext E2) Z<|Zu Z<|Yb Jc Ja Kw Z (fun _=>Z) Z h2 exq Z Kf ?_;rintro _ u3 hu1;refine Zr Z (Vx (a:=u3) Tryz.call73 Z) (kq _ _ ((Mono.mono exq hu1))) ?_;rintro _ w3 ⟨rfl,E3⟩;refine Ym Z<|Zn<|Xa Z fun h4=>?_;refine Zv<|Vf<|Zu Z<|Vr Z<|Vg Z<|Zn ?_;rotate_left;(exfalso;omega)
   refine ⟨(k+1),Kg,Kh,?_,?_⟩
   ·refine ⟨by exact (E2.trans E3),Ka,fun q hq'=>?_⟩
    rw [Yd _ _ hlt] at hq'
    rcases List.mem_append.1 hq' with h | h
    ·exact hall q h
    ·rw [List.mem_singleton.1 h];exact hq
   ·omega
  ·have kq : ∀ (w:World) (v:Value),ESl Ints w v pp[k]→Does Tryz.prog 73 [v] w (Ret w (.bool false)):=fun w v h=>by
    have:=Mg w v _ h
    rwa [decide_eq_false hq] at this
   focus
    refine Zq<|Zp<|Zu Z<|Vn Ky Jb Z<|Yu u2 Jf (hB1.ext E2) Z<|Vk Jc Z h2<|Vi Z<|Zn<|Zs Z (fun h3=>?_) (fun h3=>?_);refine Zv<|Zq<|Zw<|Zp<|Vn Ky Jb Z<|Yu u2 Jf (hB1.ext E2) Z<|Zu Z<|Yb Jc Ja Kw Z (fun _=>Z) Z h2 exq Z Kf ?_;rintro _ u3 hu1;refine Zr Z (Vx (a:=u3) Tryz.call73 Z) (kq _ _ ((Mono.mono exq hu1))) ?_;rintro _ w3 ⟨rfl,E3⟩;refine Ym Z<|Zn<|Xg Z (fun h4=>?_) (fun h4=>?_);refine Zp<|Zz Z<|Zn<|Zy ?_;refine Ve (v:=.bool _) Z ?_;refine ⟨congrArg Value.bool ?_,exq⟩;rotate_left;contradiction;(exfalso;omega)
   exact (decide_eq_false fun h=>hq (h.2.2 _ (List.getElem_mem hlt))).symm
 ·obtain rfl:k=pp.length:=by omega
  rw [List.take_length] at hall
  by_cases hq:LeastP p
  ·have kq : ∀ (w:World) (v:Value),ESl Ints w v p→Does Tryz.prog 73 [v] w (Ret w (.bool true)):=fun w v h=>by
    have:=Mg w v _ h
    rwa [decide_eq_true hq] at this
   focus
    refine Zq<|Zp<|Zu Z<|Vn Ky Jb Z<|Yu u2 Jf (hB1.ext E2) Z<|Vk Jc Z h2<|Vi Z<|Zn<|Zt Z fun h3=>?_;refine Vw ?_;refine Vd ?_;refine Zp<|Vn Ky Ja Z<|Yu u1 Kw (hB1.ext E2) Z<|Zr Z (Vx (a:=u1) Tryz.call73 Z) (kq _ _ ((Mono.mono exq h1))) ?_;rintro _ w3 ⟨rfl,E3⟩;refine Yi Z<|Vn Ky Jb Z<|Yu u2 Jf (hB1.ext exq) Z<|Vk Jc Z h2<|Wsleq Z<|Yq Z<|Zz Z<|Zn<|Zy ?_;refine Ve (v:=.bool _) Z ?_;refine ⟨congrArg Value.bool ?_,exq⟩
   exact decide_eq_decide.2 ⟨fun h=>⟨hq,show pp.length≤8 by omega,hall⟩,fun h=>by have:pp.length≤8:=h.2.1;omega⟩
  ·have kq : ∀ (w:World) (v:Value),ESl Ints w v p→Does Tryz.prog 73 [v] w (Ret w (.bool false)):=fun w v h=>by
    have:=Mg w v _ h
    rwa [decide_eq_false hq] at this
   focus
    refine Zq<|Zp<|Zu Z<|Vn Ky Jb Z<|Yu u2 Jf (hB1.ext E2) Z<|Vk Jc Z h2<|Vi Z<|Zn<|Zt Z fun h3=>?_;refine Vw ?_;refine Vd ?_;refine Zp<|Vn Ky Ja Z<|Yu u1 Kw (hB1.ext E2) Z<|Zr Z (Vx (a:=u1) Tryz.call73 Z) (kq _ _ ((Mono.mono exq h1))) ?_;rintro _ w3 ⟨rfl,E3⟩;refine Yi Z<|Zo Z<|Zo Z<|Zo Z<|Zo Z<|Vp Z<|Zz Z<|Zn<|Zy ?_;refine Ve (v:=.bool _) Z ?_;refine ⟨congrArg Value.bool ?_,exq⟩
   exact (decide_eq_false fun h=>hq h.1).symm
theorem EqualI_ok (w:World) (v u:Value) (xs ys:List Int) (h:Ints w v xs) (h':Ints w u ys):Does Tryz.prog 140 [v,u] w (Ret w (.bool (decide (xs=ys)))):=by
 have hle:=h.le
 have hle':=h'.le
 refine Vh Tryz.func140 Z Tryz.results140 Tryz.ntmps140 Z ?_
 focus
  refine Zp<|Zz Z<|Zn<|Zq<|Zp<|Vb v Z<|Vk Kn Z h<|Vb u Z<|Vk Kn Z h'<|Xo Z<|Zn<|Vz Z (fun h1=>?_) (fun h1=>?_);refine Zp<|Zz Z<|Zn<|Zy ?_;refine Ve (v:=.bool _) Z ?_;refine ⟨congrArg Value.bool ?_,(Ext.refl _)⟩;rotate_left;refine Zv<|Zq<|Zp<|Vb v Z<|Vk Kn Z h<|Zu Z<|Zn<|Zw ?_;rotate_left
 ·exact (decide_eq_false (fun e=>by subst e;omega)).symm
 refine Vy [4,5,13,14,15,16,17,18,19,20,21,22,23,24,25] (fun (k:Nat)=>[(13,.int .i64 (k:Nat))]) (fun k w'=>Ext w w'∧k≤xs.length∧xs.take k=ys.take k) (fun x=>xs.length - x) 0 Kg ?_ ?_
 ·exact ⟨Ext.refl _,Nat.zero_le _,Ki⟩
 rintro k ρj w1 ⟨E1,hk,he⟩
 focus
  refine Zp<|Vi Z<|Zn<|Zq<|Zs Z (fun h2=>?_) (fun h2=>?_);refine Zv<|Zq<|Zw<|Zp<|Zu Z<|Vg Z<|Zn<|Zq<|Xx Xr Kb Z ?_;refine Qj v Z<|Rf Z<|Xn Kn Kl Km Z (fun _=>Z) Z h E1 Z Kf ?_;rintro _ _ rfl;refine Qj u Z<|Rf Z<|Xn Kn Kl Km Z (fun _=>Z) Z h' E1 Z Kf ?_;rintro _ _ rfl;refine Wqneq Z<|Xu (fun w2 E2=>?_);refine Vz Z (fun h3=>?_) (fun h3=>?_);refine Zp<|Zz Z<|Zn<|Zy ?_;refine Ve (v:=.bool _) Z ?_;refine ⟨congrArg Value.bool ?_,exq⟩;rotate_left;refine Zv<|Vf<|Vr Z<|Zu Z<|Zn ?_;rotate_left;refine Vw ?_
  refine Vd ?_;refine Zp<|Zz Z<|Zn<|Zy ?_;refine Ve (v:=.bool _) Z ?_;refine ⟨congrArg Value.bool ?_,E1⟩;rotate_left
 ·exact (decide_eq_false (ne_at (k:=k) Ka Ka Kd)).symm
 ·refine ⟨(k+1),Kg,Kh,?_,?_⟩
  ·exact ⟨E1.trans E2,Ka,(So Ka Ka).2 ⟨he,Kd⟩⟩
  ·omega
 ·obtain rfl:k=xs.length:=by omega
  exact (decide_eq_true (ext_take Ka he)).symm
theorem Mb (w:World) (v u:Value) (xs ys:List (List Int)) (h:ESl Ints w v xs) (h':ESl Ints w u ys) (hc : ∀ args w,Sem.run Tryz.prog (callFunc 140 args) w=.ok (.enter 140 args) w) :
  Does Tryz.prog 139 [v,u,.func (.func 140) [].toArray [].toArray] w (Ret w (.bool (decide (xs=ys)))):=by
 have hle:=h.le
 have hle':=h'.le
 refine Vh Tryz.func139 Z Tryz.results139 Tryz.ntmps139 Z ?_
 focus
  refine Zp<|Zz Z<|Zn<|Zq<|Zp<|Vb v Z<|Vk Kp Z h<|Vb u Z<|Vk Kp Z h'<|Xo Z<|Zn<|Vz Z (fun h1=>?_) (fun h1=>?_);refine Zp<|Zz Z<|Zn<|Zy ?_;refine Ve (v:=.bool _) Z ?_;refine ⟨congrArg Value.bool ?_,(Ext.refl _)⟩;rotate_left;refine Zv<|Zq<|Zp<|Vb v Z<|Vk Kp Z h<|Zu Z<|Zn<|Zw ?_;rotate_left
 ·exact (decide_eq_false (fun e=>by subst e;omega)).symm
 refine Vy [6,7,8,9,17,18,19,20,21,22,23,24,25,26,27,28,29,30,31] (fun (k:Nat)=>[(17,.int .i64 (k:Nat))]) (fun k w'=>Ext w w'∧k≤xs.length∧xs.take k=ys.take k) (fun x=>xs.length - x) 0 Kg ?_ ?_
 ·exact ⟨Ext.refl _,Nat.zero_le _,Ki⟩
 rintro k ρj w1 ⟨E1,hk,he⟩
 focus
  refine Zp<|Vi Z<|Zn<|Zq<|Zs Z (fun h2=>?_) (fun h2=>?_);refine Zv<|Zq<|Zw<|Zp<|Zu Z<|Yb Kp Kt Kz Z (fun _=>Z) Z h E1 Z Kf ?_;rintro _ u1 hu1;refine Vg Z<|Yr u1 Z<|Zn<|Zp<|Vb u Z<|Zu Z<|Yb Kp Kt Kz Z (fun _=>Z) Z h' E1 Z Kf ?_;rintro _ u2 hu2;refine Yr u2 Z<|Zn<|Zq<|Vf<|Vb (.func _ _ _) Z<|Vb u1 Z<|Vb u2 Z<|Zr Z (opc_val2 Tryz.call140 Z Z Z) (EqualI_ok _ _ _ _ _ ((Mono.mono E1 hu1)) ((Mono.mono E1 hu2))) ?_;rintro _ w2 ⟨rfl,E2⟩;refine Ym Z<|Zn<|Vz Z (fun h3=>?_) (fun h3=>?_);refine Zp<|Zz Z<|Zn<|Zy ?_
  refine Ve (v:=.bool _) Z ?_;refine ⟨congrArg Value.bool ?_,exq⟩;rotate_left;refine Zv<|Vf<|Vr Z<|Zu Z<|Zn ?_;rotate_left;refine Vw ?_;refine Vd ?_;refine Zp<|Zz Z<|Zn<|Zy ?_;refine Ve (v:=.bool _) Z ?_;refine ⟨congrArg Value.bool ?_,E1⟩;rotate_left
 ·exact (decide_eq_false (ne_at (k:=k) Ka Ka Kd)).symm
 ·refine ⟨(k+1),Kg,Kh,?_,?_⟩
  ·exact ⟨E1.trans E2,Ka,(So Ka Ka).2 ⟨he,Kd⟩⟩
  ·omega
 ·obtain rfl:k=xs.length:=by omega
  exact (decide_eq_true (ext_take Ka he)).symm
theorem IndexFuncP_ok (w:World) (v:Value) (xs:List (List (List Int))) (h:ESl (ESl Ints) w v xs) (fid:FuncId) (cap:List Value) (g:List (List Int)→Bool) (hc : ∀ args w,Sem.run Tryz.prog (callFunc fid args) w=.ok (.enter fid args) w)
  (hf : ∀ (x:List (List Int)) (u:Value) (w':World),ESl Ints w' u x→Ext w w'→Does Tryz.prog fid (u::cap) w' (Ret w' (.bool (g x)))) :
  Does Tryz.prog 154 [v,.func (.func fid) [].toArray cap.toArray] w (RetX w (Value.int .i64) (fun n _=>(n = -1∧xs.any g=false)∨(0≤n∧xs.any g=true))):=by
 have hle:=h.le
 refine Vh Tryz.func154 Z Tryz.results154 Tryz.ntmps154 Z ?_
 focus
  refine Zp<|Vg Z<|Zn<|Zq<|Zp<|Vb v Z<|Vk Jc Z h<|Zu Z<|Zn<|Zw ?_
 refine Vy [4,5,8,9,10,11,12,13,14,15,16,17,18] (fun (k:Nat)=>[(8,.int .i64 (k:Nat))]) (fun k w'=>Ext w w'∧k≤xs.length∧(xs.take k).any g=false) (fun x=>xs.length - x) 0 Kg ?_ ?_
 ·exact ⟨Ext.refl _,Nat.zero_le _,Ki⟩
 rintro k ρj w1 ⟨E1,hk,hg⟩
 by_cases hlt:k < xs.length
 ·have hmem:=List.getElem_mem hlt
  have hf':=hf xs[k]
  focus
   refine Zp<|Vi Z<|Zn<|Zq<|Zs Z (fun h1=>?_) (fun h1=>?_);refine Zv<|Zq<|Zw<|Zp<|Zu Z<|Vg Z<|Zn<|Zp<|Vb (.func _ _ _) Z<|Vb v Z<|Zu Z<|Yb Jc Ja Kw Z (fun _=>Z) Z h E1 Z Kf ?_;rintro _ u1 hu1;refine Zr Z (opc_val1 (a:=u1) Kd Z Z) (hf' _ _ ((Mono.mono E1 hu1)) (E1)) ?_;rintro _ w2 ⟨rfl,E2⟩;refine Zn<|Xg Z (fun h2=>?_) (fun h2=>?_);refine Zq<|Vf<|Zu Z<|Vg Z<|Zn<|Zy ?_;refine Ve (v:=.int _ _) Z ?_;refine ⟨exq,_,Z,?_⟩;(try dsimp only);rotate_left;refine Zv<|Vf<|Vr Z<|Zu Z<|Zn ?_;rotate_left;(exfalso;omega)
  ·right
   refine ⟨Ka,List.any_eq_true.2 ⟨_,hmem,Kd⟩⟩
  ·refine ⟨(k+1),Kg,Kh,?_,?_⟩
   ·refine ⟨E1.trans E2,Ka,?_⟩
    rw [Yd _ _ hlt,List.any_append,hg]
    simpa using by assumption
   ·omega
 ·obtain rfl:k=xs.length:=by omega
  focus
   refine Zp<|Vi Z<|Zn<|Zq<|Zt Z fun h1=>?_;refine Vw ?_;refine Vd ?_;refine Zp<|Vg Z<|Zn<|Zy ?_;refine Ve (v:=.int _ _) Z ?_;refine ⟨E1,_,Z,?_⟩;(try dsimp only)
  exact .inl ⟨rfl,by simpa using hg⟩
theorem ContainsFuncP_ok (w:World) (v:Value) (xs:List (List (List Int))) (h:ESl (ESl Ints) w v xs) (fid:FuncId) (cap:List Value) (g:List (List Int)→Bool) (hc : ∀ args w,Sem.run Tryz.prog (callFunc fid args) w=.ok (.enter fid args) w)
  (hf : ∀ (x:List (List Int)) (u:Value) (w':World),ESl Ints w' u x→Ext w w'→Does Tryz.prog fid (u::cap) w' (Ret w' (.bool (g x)))) :
  Does Tryz.prog 110 [v,.func (.func fid) [].toArray cap.toArray] w (Ret w (.bool (xs.any g))):=by
 have hi:=IndexFuncP_ok w v xs h fid cap g hc hf
 refine Vh Tryz.func110 Z Tryz.results110 Tryz.ntmps110 Z ?_
 focus
  refine Zp<|Zz Z<|Zn<|Zp<|Vb v Z<|Vb (.func _ _ _) Z<|Zr Z (Yg (a:=v) (b:=.func _ _ _) Tryz.call154 Z Z) (hi) ?_;rintro _ w1 ⟨E1,y1,rfl,hy1⟩;refine Qk Z<|Zz Z<|Zn<|Zy ?_;refine Ve (v:=.bool _) Z ?_;refine ⟨congrArg Value.bool ?_,E1⟩
 rcases hy1 with ⟨rfl,h9⟩ | ⟨h8,h9⟩
 ·rw [h9];rfl
 ·rw [h9];exact decide_eq_true h8
open Classical in
theorem isLeast_ok (w:World) (v:Value) (p:List (List Int)) (h:ESl Ints w v p) (hp:Pic p):Does Tryz.prog 109 [v] w (Ret w (.bool (decide (LeastP p)))):=by
 have hl:=lst_pic hp (a:=0) (by have:=hp.1;omega)
 have e:(LeastP p)=(lst p 0=p):=propext ⟨fun h=>h.2,fun h=>⟨hp,h⟩⟩
 have k1 : ∀ (w:World) (v:Value),ESl Ints w v p→Does Tryz.prog 153 [v,.int .i64 0] w (RetOB w XR (lst p 0) true):=fun w v h=>by
  have:=leastOf_ok w v p h hp.gr 0 (by have:=hp.1;omega)
  rwa [if_pos hl.2.1,decide_eq_true hl.2.1] at this
 have k2:=fun (w:World) (v u:Value) (h:ESl Ints w v (lst p 0)) (h':ESl Ints w u p)=>Mb w v u (lst p 0) p h h' Tryz.call140
 rw [show decide (LeastP p)=decide (lst p 0=p) from decide_eq_decide.2 (iff_of_eq e)]
 refine Vh Tryz.func109 Z Tryz.results109 Tryz.ntmps109 Z ?_
 focus
  refine Zp<|Zz Z<|Zn<|Zp<|Vb v Z<|Zr Z (Yg (a:=v) (b:=.int _ _) Tryz.call153 Z Z) (k1 _ _ (h)) ?_;rintro _ w1 ⟨u1,rfl,E1,hO1⟩;refine Xl Z<|Un u1 Z<|Xv Z<|Yr u1 Z<|Zz Z<|Zn<|Zp<|Vb u1 Z<|Vb v Z<|Zr Z (Ud (a:=u1) (b:=v) (c:=.func _ _ _) Tryz.call139 Z Z Z) (k2 _ _ _ ((Owned.read hO1)) ((Mono.mono E1 h))) ?_;rintro _ w2 ⟨rfl,E2⟩;refine Zz Z<|Zn<|Zy ?_;exact ⟨rfl,exq⟩
open Classical in
theorem isDesk1_ok (w:World) (v:Value) (p:List (List Int)) (h:ESl Ints w v p):Does Tryz.prog 111 [v] w (Ret w (.bool (!decide (LeastP p)))):=by
 by_cases hp:Pic p
 ·have k0 : ∀ (w:World) (v:Value),ESl Ints w v p→Does Tryz.prog 78 [v] w (Ret w (.bool true)):=fun w v h=>by
   have:=Sq w v p h;rwa [decide_eq_true hp] at this
  have k1 : ∀ (w:World) (v:Value),ESl Ints w v p→Does Tryz.prog 109 [v] w (Ret w (.bool (decide (LeastP p)))):=fun w v h=>isLeast_ok w v p h hp
  refine Vh Tryz.func111 Z Tryz.results111 Tryz.ntmps111 Z ?_
  focus
   refine Zp<|Zz Z<|Zn<|Zp<|Vb v Z<|Zr Z (Vx (a:=v) Tryz.call78 Z) (k0 _ _ (h)) ?_;rintro _ w1 ⟨rfl,E1⟩;refine Ym Z<|Yn Z (Vq (v:=.bool _) Z) (fun h1=>?_) (fun h1=>?_);contradiction;refine Vb v Z<|Zr Z (Vx (a:=v) Tryz.call109 Z) (k1 _ _ ((Mono.mono E1 h))) ?_;rintro _ w2 ⟨rfl,E2⟩;refine Ym Z<|Vp Z<|Zz Z<|Zn<|Zy ?_;exact ⟨rfl,exq⟩
 ·have hd:decide (LeastP p)=false:=decide_eq_false fun h=>hp h.1
  rw [hd]
  have k0 : ∀ (w:World) (v:Value),ESl Ints w v p→Does Tryz.prog 78 [v] w (Ret w (.bool false)):=fun w v h=>by
   have:=Sq w v p h;rwa [decide_eq_false hp] at this
  refine Vh Tryz.func111 Z Tryz.results111 Tryz.ntmps111 Z ?_
  focus
   refine Zp<|Zz Z<|Zn<|Zp<|Vb v Z<|Zr Z (Vx (a:=v) Tryz.call78 Z) (k0 _ _ (h)) ?_;rintro _ w1 ⟨rfl,E1⟩;refine Ym Z<|Yn Z (Vq (v:=.bool _) Z) (fun h1=>?_) (fun h1=>?_);refine Zo Z<|Zo Z<|Zo Z<|Yq Z<|Zz Z<|Zn<|Zy ?_;exact ⟨rfl,E1⟩;contradiction
open Classical in
theorem isDesk_ok (w:World) (u1 u2:Value) (d:Dsk) (h1:ESl Ints w u1 d.now) (h2:ESl (ESl Ints) w u2 d.past):Does Tryz.prog 58 [.agg #[u1,u2]] w (Ret w (.bool (decide (DkOk d)))):=by
 obtain ⟨p,pp⟩:=d
 have hle:=h2.le
 simp only at h1 h2 hle
 have icu1:isCell u1=true:=Uu h1
 have icu2:isCell u2=true:=Uu h2
 refine Vh Tryz.func58 Z Tryz.results58 Tryz.ntmps58 Z ?_
 have k2:=fun (w:World) (v:Value) (h:ESl (ESl Ints) w v pp)=>ContainsFuncP_ok w v pp h 111 [] (fun x=>!decide (LeastP x)) Tryz.call111 (fun x u w' h e=>isDesk1_ok w' u x h)
 by_cases hp:Pic p
 ·have k0 : ∀ (w:World) (v:Value),ESl Ints w v p→Does Tryz.prog 78 [v] w (Ret w (.bool true)):=fun w v h=>by
   have:=Sq w v p h;rwa [decide_eq_true hp] at this
  have k1 : ∀ (w:World) (v:Value),ESl Ints w v p→Does Tryz.prog 109 [v] w (Ret w (.bool (decide (LeastP p)))):=fun w v h=>isLeast_ok w v p h hp
  focus
   refine Zp<|Yl Z Z Z ?_;rintro b1 w1 hb1 E1 hB1;refine Zz Z<|Zn<|Zq<|Zp<|Vn Ky Ja Z<|Yu u1 Kw hB1 Z<|Zr Z (Vx (a:=u1) Tryz.call78 Z) (k0 _ _ ((Mono.mono E1 h1))) ?_;rintro _ w2 ⟨rfl,E2⟩;refine Ym Z<|Yn Z (Vq (v:=.bool _) Z) (fun h3=>?_) (fun h3=>?_);contradiction;refine Vn Ky Ja Z<|Yu u1 Kw (hB1.ext E2) Z<|Zr Z (Vx (a:=u1) Tryz.call109 Z) (k1 _ _ ((Mono.mono exq h1))) ?_;rintro _ w3 ⟨rfl,E3⟩;refine Ym Z<|Vp Z<|Uh Z (fun h4=>?_) (fun h4=>?_);refine Zo Z<|Zo Z<|Zo Z<|Zo Z<|Yq Z<|Zn<|Vv Z ?_;refine Zp<|Zz Z<|Zn<|Zy ?_;refine Ve (v:=.bool _) Z ?_;refine ⟨congrArg Value.bool ?_,exq⟩
   rotate_left;refine Vn Ky Jb Z<|Yu u2 Jf (hB1.ext exq) Z<|Vk Jc Z h2<|Qe Z<|Vp Z<|Zn<|Zs Z (fun h5=>?_) (fun h5=>?_);refine Zp<|Zz Z<|Zn<|Zy ?_;refine Ve (v:=.bool _) Z ?_;refine ⟨congrArg Value.bool ?_,exq⟩;rotate_left;refine Zv<|Zq<|Vf<|Vn Ky Jb Z<|Yu u2 Jf (hB1.ext exq) Z<|Zr Z (Yg (a:=u2) (b:=.func _ _ _) Tryz.call110 Z Z) (k2 _ _ ((Mono.mono exq h2))) ?_;rintro _ w4 ⟨rfl,E4⟩;refine Ym Z<|Zz Z<|Zn<|Zy ?_;refine Ve (v:=.bool _) Z ?_;refine ⟨congrArg Value.bool ?_,exq⟩;rotate_left
  ·exact (decide_eq_false fun h=>absurd h.1 Kd).symm
  ·exact (decide_eq_false fun h=>by have:=h.2.1;simp only at this;omega).symm
  ·rw [Bool.eq_iff_iff,decide_eq_true_iff,Bool.not_eq_true',List.any_eq_false]
   unfold DkOk
   simp only
   constructor
   ·intro h9
    exact ⟨Kd,Ka,fun q hq=>by simpa using h9 q hq⟩
   ·rintro ⟨_,_,h9⟩ q hq
    simpa using h9 q hq
 ·have hd:decide (DkOk ⟨p,pp⟩)=false:=decide_eq_false fun h=>hp h.1.1
  rw [hd]
  have k0 : ∀ (w:World) (v:Value),ESl Ints w v p→Does Tryz.prog 78 [v] w (Ret w (.bool false)):=fun w v h=>by
   have:=Sq w v p h;rwa [decide_eq_false hp] at this
  focus
   refine Zp<|Yl Z Z Z ?_;rintro b1 w1 hb1 E1 hB1;refine Zz Z<|Zn<|Zq<|Zp<|Vn Ky Ja Z<|Yu u1 Kw hB1 Z<|Zr Z (Vx (a:=u1) Tryz.call78 Z) (k0 _ _ ((Mono.mono E1 h1))) ?_;rintro _ w2 ⟨rfl,E2⟩;refine Ym Z<|Yn Z (Vq (v:=.bool _) Z) (fun h3=>?_) (fun h3=>?_);refine Zo Z<|Zo Z<|Zo Z<|Zo Z<|Yq Z<|Yi Z<|Zo Z<|Zo Z<|Zo Z<|Zo Z<|Yq Z<|Zn<|Vv Z ?_;refine Zp<|Zz Z<|Zn<|Zy ?_;exact ⟨rfl,exq⟩;contradiction
end Go.Proofs.YtbgpppaljpngmaaGreatDoor
