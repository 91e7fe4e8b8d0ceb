/- Lemmas for FnExactDeskSay. -/
import Derived.Test.YtbgpppaljpngmaaGreatDoorMFnExactDeskSay2
import Derived.Laws.BytesArg
import Derived.Lib.SplitLaws
import Derived.Lib.Join
import Derived.Lib.ItoaNum
import Derived.Shelf.Lay
import Derived.Ground.NamesProg
import Derived.Shelf.Strings.Split
import Derived.Shelf.Strings.OnBuilder
import Derived.Shelf.Strings.Cut
import Derived.Shelf.Strconv.Itoa3
import Derived.Lib.SliceRun
namespace Go.Proofs.YtbgpppaljpngmaaGreatDoor
open Go.Hs
set_option maxRecDepth 10000
set_option maxHeartbeats 4000000
set_option linter.unusedVariables false
set_option linter.unusedSimpArgs false
theorem Index_ok (w:World) (v:Value) (xs:List Int) (h:Ints w v xs) (n:Int) :
  Does Tryz.prog 178 [v,.int .i64 n] w (RetX w (Value.int .i64) (fun z _=>(z = -1∧n ∉ xs)∨(0≤z∧n ∈ xs))):=by
 have hle:=h.le
 refine Vh Tryz.func178 Z Tryz.results178 Tryz.ntmps178 Z ?_
 focus
  refine Zp<|Vg Z<|Zn<|Zq<|Zp<|Vb v Z<|Vk Kn Z h<|Zu Z<|Zn<|Zw ?_
 refine Vy [4,5,8,9,10,11,12,13,14,15,16,17,18] (fun (k:Nat)=>[(8,.int .i64 (k:Nat))]) (fun k w'=>Ext w w'∧k≤xs.length∧n ∉ xs.take k) (fun x=>xs.length - x) 0 Kg ?_ ?_
 ·exact ⟨Ext.refl _,Nat.zero_le _,Ki⟩
 rintro k ρj w1 ⟨E1,hk,hg⟩
 by_cases hlt:k < xs.length
 ·have hmem:=List.getElem_mem hlt
  focus
   refine Zp<|Vi Z<|Zn<|Zq<|Zs Z (fun h1=>?_) (fun h1=>?_);refine Zv<|Zq<|Zw<|Zp<|Zu Z<|Vg Z<|Zn<|Zp<|Zu Z<|Vb v Z<|Zu Z<|Yb Kn Kl Km Z (fun _=>Z) Z h E1 Z Kf ?_;rintro _ _ rfl;refine Vm Z<|Zn<|Zs Z (fun h2=>?_) (fun h2=>?_);refine Zp<|Zu Z<|Vg Z<|Zn<|Zy ?_;refine Ve (v:=.int _ _) Z ?_;refine ⟨E1,_,Z,?_⟩;(try dsimp only);rotate_left;refine Zv<|Vf<|Vr Z<|Zu Z<|Zn ?_;rotate_left;(exfalso;omega)
  ·right
   have e:n=xs[k]:=Kd
   exact ⟨Ka,by rw [e];exact hmem⟩
  ·have e : ¬n=xs[k]:=by assumption
   refine ⟨(k+1),Kg,Kh,?_,?_⟩
   ·refine ⟨E1,Ka,?_⟩
    rw [Yd _ _ hlt,List.mem_append]
    rintro (h9 | h9)
    ·exact hg h9
    ·exact e (List.mem_singleton.1 h9)
   ·omega
 ·obtain rfl:k=xs.length:=by omega
  focus
   refine Zp<|Vi Z<|Zn<|Zq<|Zt Z fun h1=>?_;refine Vw ?_;refine Vd ?_;refine Zp<|Vg Z<|Zn<|Zy ?_;refine Ve (v:=.int _ _) Z ?_;refine ⟨E1,_,Z,?_⟩;(try dsimp only)
  exact .inl ⟨rfl,by simpa using hg⟩
theorem Qy (w:World) (v:Value) (xs:List Int) (h:Ints w v xs) (n:Int) :
  Does Tryz.prog 145 [v,.int .i64 n] w (Ret w (.bool (decide (n ∈ xs)))):=by
 refine Vh Tryz.func145 Z Tryz.results145 Tryz.ntmps145 Z ?_
 focus
  refine Zp<|Zz Z<|Zn<|Zp<|Vb v Z<|Zu Z<|Zr Z (Yg (a:=v) (b:=.int _ _) Tryz.call178 Z Z) (Index_ok _ _ _ (h) _) ?_;rintro _ w1 ⟨E1,y1,rfl,hy1⟩;refine Qk Z<|Zz Z<|Zn<|Zy ?_;refine Ve (v:=.bool _) Z ?_;refine ⟨congrArg Value.bool ?_,E1⟩
 rcases hy1 with ⟨rfl,h9⟩ | ⟨h8,h9⟩
 ·rw [decide_eq_false h9];rfl
 ·rw [decide_eq_true h9];exact decide_eq_true h8
theorem reachedFrom_gr (w:World) (v:Value) (p:List (List Int)) (h:ESl Ints w v p) (hp:Gr p) (i:Nat) (hi:i < p.length):Does Tryz.prog 210 [v,.int .i64 (i:Int)] w (RetO w XI (ints (rf p i))):=by
 have hle:=h.le
 have hp5:=hp.2.1
 refine Vh Tryz.func210 Z Tryz.results210 Tryz.ntmps210 Z ?_
 focus
  refine Zp<|Ys Z<|Zn<|Zp<|Zu Z<|Ye (ps:=[(0,.int _ _)]) (cs:=[_]) Z Kn Kl Jg Z Z Z Z ?_;rintro b1 w1 hb1 E1 hB1 hHb1;refine Ys Z<|Zn<|Zq<|Zp<|Vg Z<|Zn<|Zw ?_
 have hO1:Owned w.heap.size XI w1 (.slice (some ⟨b1,0,none⟩) 1 1) (ints [i]):=Owned.block hHb1 hb1 rfl Kc ⟨⟨rfl,rfl⟩,trivial⟩
 clear hHb1 hB1
 refine Vy [5,6,8,11,12,13,14,15,16,17,18,19,20,21,22,23,24,25,26,27,28,29,30,31,32,33,34,35,36] (fun (t,u,l)=>[(6,.int .i64 (t:Nat)),(5,u)]) (fun (t,u,l) w'=>Ext w w'∧Owned w.heap.size XI w' u (ints l)∧t≤l.length∧l.Nodup∧i ∈ l∧(∀ j ∈ l,Rch p i j)∧∀ k ∈ l.take t,∀ j ∈ arr p k,j ∈ l) (fun x=>p.length - x.1) (0,.slice (some ⟨b1,0,none⟩) 1 1,[i]) Kg ?_ ?_
 ·exact ⟨E1,hO1,Nat.zero_le _,Ki,Ki,fun j hj=>by rw [List.mem_singleton.1 hj];exact .refl _,Ki⟩
 rintro ⟨t,u,l⟩ ρj w2 ⟨E2,hO2,ht,hnd,hil,hrl,hcl⟩
 have hll:l.length≤p.length:=Ta hnd fun j hj=>(hrl j hj).lt hp hi
 have hil':=Yy l
 by_cases hlt:t < l.length
 ·have hlm:=(hrl _ (List.getElem_mem hlt)).lt hp hi
  have hgt:(ints l)[t]'Ka=(l[t]:Int):=by simp [ints]
  have harr : ∀ (w1:World) (pv:Value),ESl Ints w1 pv p→Does Tryz.prog 130 [pv,.int .i64 ((ints l)[t]'Ka)] w1 (RetO w1 XI (ints (arr p l[t]))):=fun w1 pv h1=>by
   rw [hgt]
   exact Us w1 pv p h1 (l[t]:Int) ⟨Ka,Ka⟩ (by rw [Ya Ka,hp.row Ka];omega)
  focus
   refine Zq<|Zp<|Zu Z<|Vb u Z<|Vk Kn Z (Owned.read hO2)<|Vi Z<|Zn<|Zs Z (fun h1=>?_) (fun h1=>?_);refine Zv<|Zq<|Zw<|Zp<|Vb v Z<|Vb u Z<|Zu Z<|Yb Kn Kl Km Z (fun _=>Z) Z (Owned.read hO2) (Ext.refl _) Z Kf ?_;rintro _ _ rfl;refine Zr Z (Yg (a:=v) (b:=.int _ _) Js Z Z) (harr _ _ ((Mono.mono E2 h))) ?_;rintro u1 w3 ⟨E3,hO3⟩;refine Vk Kn Z (Owned.read hO3)<|Zu Z<|Zn<|Zw ?_;rotate_left;(exfalso;omega)
  have hBe:Besides u.ownBlock Ints w3 u1 (ints (arr p l[t])):=Besides.start hO2 hO3.above
  have hla:=Yy (arr p l[t])
  refine Vy [5,8,24,25,26,27,28,29,30,31,32,33,34,35,36] (fun (m,u',l')=>[(24,.int .i64 (m:Nat)),(5,u')]) (fun (m,u',l') w'=>Ext w w'∧Owned w.heap.size XI w' u' (ints l')∧m≤(arr p l[t]).length∧Besides u'.ownBlock Ints w' u1 (ints (arr p l[t]))∧l'.Nodup∧i ∈ l'∧(∀ j ∈ l',Rch p i j)∧(∃ e,l'=l++e)∧∀ j ∈ (arr p l[t]).take m,j ∈ l') (fun x=>(arr p l[t]).length - x.1) (0,u,l) Kg ?_ ?_
  ·exact ⟨E2.trans E3,hO2.ext E3,Nat.zero_le _,hBe,hnd,hil,hrl,⟨[],Ki⟩,Ki⟩
  clear hO2 hBe
  rintro ⟨m,u',l'⟩ ρk w4 ⟨E4,hO4,hm,hBe,hnd',hil',hrl',hex,hcm⟩
  have hll':l'.length≤p.length:=Ta hnd' fun j hj=>(hrl' j hj).lt hp hi
  have hlil:=Yy l'
  by_cases hml:m < (arr p l[t]).length
  ·have hal:(arr p l[t]).length≤11:=by
    have h8:=Ng (p.getD l[t] [])
    rw [Ya Ka,hp.row Ka] at h8
    have:(arr p l[t]).length≤p.length:=by unfold arr;rw [Ya Ka];exact h8
    omega
   have hgm:=Xz hml
   have hmm:=List.getElem_mem hml
   have hmi:=mem_ints (l:=l') (x:=(arr p l[t])[m])
   rw [← hgm] at hmi
   have hts:=Yd _ _ hml
   obtain ⟨e,he⟩:=hex
   focus
    have szE4:=E4.size;refine Zp<|Vi Z<|Zn<|Zq<|Zs Z (fun h2=>?_) (fun h2=>?_);refine Zv<|Zq<|Zw<|Zp<|Yb Kn Kl Km Z (fun _=>Z) Z (Besides.here hBe) (Ext.refl _) Z Kf ?_;rintro _ _ rfl;refine Vg Z<|Zn<|Zp<|Vb u' Z<|Zu Z<|Zr Z (Yg (a:=u') (b:=.int _ _) Gk Z Z) (Qy _ _ _ ((Owned.read hO4)) _) ?_;rintro _ w5 ⟨rfl,E5⟩;have hs3:=E5.size;refine Ym Z<|Zn<|Vz Z (fun h3=>?_) (fun h3=>?_);refine Vf<|Vb u' Z<|Zu Z<|Ye (ps:=[(0,.int _ _)]) (cs:=[_]) Z Kn Kl Jg Z Z Z Z ?_;rintro b2 w6 hb2 E6 hB1 hHb2;have hs4:=E6.size
    refine Xh Z Ux Z Z hB1 (hO4.toB.ext (E5.trans E6)) Owned.int (Nat.le_refl _) Kf Ka Ka ((E4.trans E5).trans E6) Ka ?_;rintro v1 w7 hO4 E7 M1;have hBe:=(hBe.ext exq).moves M1;refine Yr v1 Z<|Zn<|Vf<|Vr Z<|Zu Z<|Zn ?_;rotate_left;refine Zv<|Vf<|Vr Z<|Zu Z<|Zn ?_;rotate_left;(exfalso;omega)
   ·have hno : ¬(arr p l[t])[m] ∈ l':=fun h9=>by
     have h10 : ¬(ints (arr p l[t]))[m]'Ka ∈ ints l':=Kd
     exact h10 (hmi.2 h9)
    refine ⟨((m+1,v1,l'++[(arr p l[t])[m]])),Kg,Kh,?_,?_⟩
    ·refine ⟨Kd,?_,Ka,Kd,?_,?_,?_,⟨e++[(arr p l[t])[m]],by rw [he,List.append_assoc]⟩,?_⟩
     ·rw [ints_append,show ints [(arr p l[t])[m]]=[(ints (arr p l[t]))[m]'Ka] by rw [hgm];rfl]
      assumption
     ·exact List.nodup_append.2 ⟨hnd',Ki,fun a ha b hb hab=>hno (by rw [← List.mem_singleton.1 hb,← hab];exact ha)⟩
     ·exact List.mem_append_left _ hil'
     ·intro j hj
      rcases List.mem_append.1 hj with h9 | h9
      ·exact hrl' j h9
      ·rw [List.mem_singleton.1 h9];exact (hrl _ (List.getElem_mem hlt)).step hmm
     ·intro j hj
      rw [hts] at hj
      rcases List.mem_append.1 hj with h9 | h9
      ·exact List.mem_append_left _ (hcm j h9)
      ·exact List.mem_append_right _ h9
    ·simp only;omega
   ·have hyes:(arr p l[t])[m] ∈ l':=hmi.1 Kd
    refine ⟨((m+1,u',l')),Kg,Kh,?_,?_⟩
    ·refine ⟨E4.trans E5,hO4.ext E5,Ka,hBe.ext E5,hnd',hil',hrl',⟨e,he⟩,fun j hj=>?_⟩
     rw [hts] at hj
     rcases List.mem_append.1 hj with h9 | h9
     ·exact hcm j h9
     ·rw [List.mem_singleton.1 h9];exact hyes
    ·simp only;omega
  ·obtain rfl:m=(arr p l[t]).length:=by omega
   focus
    refine Zp<|Vi Z<|Zn<|Zq<|Zt Z fun h2=>?_;refine Vw ?_;refine Vd ?_;refine Vf<|Zu Z<|Vr Z<|Vg Z<|Zn ?_
   obtain ⟨e,rfl⟩:=hex
   refine ⟨((t+1,u',l++e)),Kg,Kh,?_,?_⟩
   ·refine ⟨Kd,Kd,by simp;omega,hnd',hil',hrl',fun k hk j hj=>?_⟩
    rw [List.take_append_of_le_length Ka,Yd _ _ hlt] at hk
    rcases List.mem_append.1 hk with h9 | h9
    ·exact List.mem_append_left _ (hcl k h9 j hj)
    ·rw [List.mem_singleton.1 h9] at hj
     exact hcm j (by rw [List.take_length];exact hj)
   ·simp only;omega
 ·obtain rfl:t=l.length:=by omega
  have hB2:=hO2.toB
  have hne:ints l≠[]:=by cases l with
   | nil=>cases hil
   | cons a l=>simp [ints]
  focus
   refine Zq<|Zp<|Zu Z<|Vb u Z<|Vk Kn Z (OwnedB.read hB2)<|Vi Z<|Zn<|Zt Z fun h1=>?_;refine Vw ?_;refine Vd ?_;refine Zp<|Vb u Z<|Zr Z (Vx (a:=u) Tryz.call228 Z) (Sort_ok _ _ _ (hB2) Kd Ka) ?_;rintro _ w3 ⟨rfl,E3,hO3⟩;have E4:=E2.span E3 Ka;refine Zn<|Zp<|Vb u Z<|Yr u Z<|Zn<|Zy ?_;refine ⟨E4,(congrArg (Owned _ _ _ _) ?_).mp (hO3.o.mono Ka)⟩
  exact bfs hp hi hnd hil hrl (fun k hk=>hcl k (by rw [List.take_length];exact hk))
theorem reachedFrom_ok (w:World) (v:Value) (p:List (List Int)) (h:ESl Ints w v p) (hp:Pic p) (i:Nat) (hi:i < p.length):Does Tryz.prog 210 [v,.int .i64 (i:Int)] w (RetO w XI (ints (rf p i))) :=
 reachedFrom_gr w v p h hp.gr i hi
theorem IndexAt_ok (w:World) (v:Value) (xs:List Int) (h:Ints w v xs) (n:Int) :
  Does Tryz.prog 178 [v,.int .i64 n] w (RetX w (Value.int .i64) (fun z _=>(z = -1∧n ∉ xs)∨∃ (j:Nat) (hj:j < xs.length),z=j∧xs[j]=n∧n ∉ xs.take j)):=by
 have hle:=h.le
 refine Vh Tryz.func178 Z Tryz.results178 Tryz.ntmps178 Z ?_
 focus
  refine Zp<|Vg Z<|Zn<|Zq<|Zp<|Vb v Z<|Vk Kn Z h<|Zu Z<|Zn<|Zw ?_
 refine Vy [4,5,8,9,10,11,12,13,14,15,16,17,18] (fun (k:Nat)=>[(8,.int .i64 (k:Nat))]) (fun k w'=>Ext w w'∧k≤xs.length∧n ∉ xs.take k) (fun x=>xs.length - x) 0 Kg ?_ ?_
 ·exact ⟨Ext.refl _,Nat.zero_le _,Ki⟩
 rintro k ρj w1 ⟨E1,hk,hg⟩
 by_cases hlt:k < xs.length
 ·focus
   refine Zp<|Vi Z<|Zn<|Zq<|Zs Z (fun h1=>?_) (fun h1=>?_);refine Zv<|Zq<|Zw<|Zp<|Zu Z<|Vg Z<|Zn<|Zp<|Zu Z<|Vb v Z<|Zu Z<|Yb Kn Kl Km Z (fun _=>Z) Z h E1 Z Kf ?_;rintro _ _ rfl;refine Vm Z<|Zn<|Zs Z (fun h2=>?_) (fun h2=>?_);refine Zp<|Zu Z<|Vg Z<|Zn<|Zy ?_;refine Ve (v:=.int _ _) Z ?_;refine ⟨E1,_,Z,?_⟩;(try dsimp only);rotate_left;refine Zv<|Vf<|Vr Z<|Zu Z<|Zn ?_;rotate_left;(exfalso;omega)
  ·exact .inr ⟨k,hlt,rfl,(by assumption:n=xs[k]).symm,hg⟩
  ·have e : ¬n=xs[k]:=by assumption
   refine ⟨(k+1),Kg,Kh,?_,?_⟩
   ·refine ⟨E1,Ka,?_⟩
    rw [Yd _ _ hlt,List.mem_append]
    rintro (h9 | h9)
    ·exact hg h9
    ·exact e (List.mem_singleton.1 h9)
   ·omega
 ·obtain rfl:k=xs.length:=by omega
  focus
   refine Zp<|Vi Z<|Zn<|Zq<|Zt Z fun h1=>?_;refine Vw ?_;refine Vd ?_;refine Zp<|Vg Z<|Zn<|Zy ?_;refine Ve (v:=.int _ _) Z ?_;refine ⟨E1,_,Z,?_⟩;(try dsimp only)
  exact .inl ⟨rfl,by simpa using hg⟩
theorem kindsOf_ok (w:World) (v:Value) (p:List (List Int)) (h:ESl Ints w v p) (hp:Gr p):Does Tryz.prog 144 [v] w (RetO w XI (ints (kndL p))):=by
 have hp5:=hp.2.1
 have k1 : ∀ (w:World) (v:Value),ESl Ints w v p→Does Tryz.prog 177 [v,.int .i64 (p.length:Int)] w (RetO w XR (matV p (bsm p p.length))):=fun w v h=>leftAfter_ok w v p h hp _ Ka
 have hml:=Qb (p:=p) (bsm p p.length)
 have hkl:=Sy (p:=p)
 refine Vh Tryz.func144 Z Tryz.results144 Tryz.ntmps144 Z ?_
 focus
  refine Zp<|Ys Z<|Zn<|Zp<|Yz XInt Z Ux Kl ?_;rintro b1 w1 hb1 b1lt E1 hO1;refine Ys Z<|Zn<|Zq<|Zp<|Vb v Z<|Vb v Z<|Vk Kp Z h<|Zr Z (Yg (a:=v) (b:=.int _ _) Tryz.call177 Z Z) (k1 _ _ ((Mono.mono E1 h))) ?_;rintro u1 w2 ⟨E2,hO2⟩;refine Vk Kp Z (Owned.read hO2)<|Zu Z<|Zn<|Zw ?_
 have hBe:Besides (Value.slice (some ⟨b1,0,none⟩) 0 0).ownBlock (ESl Ints) w2 u1 (matV p (bsm p p.length)):=Besides.start hO1 hO2.above
 refine Vy [3,5,12,13,14,15,16,17,18,19,20,21] (fun ((k,u):Nat × Value)=>[(12,.int .i64 (k:Nat)),(3,u)]) (fun (k,u) w'=>Ext w w'∧k≤p.length∧Owned w.heap.size XI w' u ((ints (kndL p)).take k)∧Besides u.ownBlock (ESl Ints) w' u1 (matV p (bsm p p.length))) (fun x=>p.length - x.1) (0,.slice (some ⟨b1,0,none⟩) 0 0) Kg ?_ ?_
 ·exact ⟨by first | assumption | exact E1.trans E2,Nat.zero_le _,by simpa using hO1.ext E2,hBe⟩
 clear hBe hO1 hO2
 rintro ⟨k,u⟩ ρj w3 ⟨E3,hk,hO1,hBe⟩
 by_cases hlt:k < p.length
 ·have htl:((ints (kndL p)).take k).length=k:=by simp;omega
  focus
   have szE3:=E3.size;refine Zp<|Vi Z<|Zn<|Zq<|Zs Z (fun h1=>?_) (fun h1=>?_);refine Zv<|Zq<|Zw<|Zp<|Yb Kp Kt Kz Z (fun _=>Z) Z (Besides.here hBe) (Ext.refl _) Z Kf ?_;rintro _ u2 hu1;refine Yr u2 Z<|Zn<|Vf<|Vb u Z<|Vb u2 Z<|Zr Z (Yg (a:=u2) (b:=.int _ _) Tryz.call178 Z Z) (IndexAt_ok _ _ _ (hu1) _) ?_;rintro _ w4 ⟨E4,y1,rfl,hy1⟩;have hs3:=E4.size;refine Ye (ps:=[(0,.int _ _)]) (cs:=[_]) Z Kn Kl Jg Z Z Z Z ?_;rintro b2 w5 hb2 E5 hB1 hHb2;have hs4:=E5.size
   refine Xh Z Ux Z Z hB1 (hO1.toB.ext (E4.trans E5)) Owned.int (Nat.le_refl _) Kf Ka Ka ((E3.trans E4).trans E5) Ka ?_;have hT1:=(hO1.toB.ext (E4.trans E5));rintro v1 w6 hO1 E6 M1;have hBe:=(hBe.ext exq).moves M1;have hB1:=hB1.moves M1 hT1 Ka;refine Yr v1 Z<|Zn<|Vf<|Vr Z<|Zu Z<|Zn ?_;rotate_left;(exfalso;omega)
  have e:=first_knd hlt hy1
  subst e
  refine ⟨((k+1,v1)),Kg,Kh,?_,?_⟩
  ·refine ⟨Kd,Ka,?_,Kd⟩
   rw [Yd _ _ Ka,Re]
   assumption
  ·simp only;omega
 ·obtain rfl:k=p.length:=by omega
  focus
   refine Zp<|Vi Z<|Zn<|Zq<|Zt Z fun h1=>?_;refine Vw ?_;refine Vd ?_;refine Zp<|Vb u Z<|Yr u Z<|Zn<|Zy ?_;refine ⟨E3,(congrArg (Owned _ _ _ _) ?_).mp (hO1.toB.o.mono Ka)⟩
  rw [List.take_of_length_le Ka]
theorem spec_KindsOf_ok (w:World) (v:Value) (p:List (List Int)) (h:ESl Ints w v p):Does Tryz.prog 194 [v] w (RetO w XI (if Pic p then ints (kndL p) else [])):=by
 have hle:=h.le
 by_cases hp:Pic p
 ·have hp5:=hp.2.1
  rw [if_pos hp]
  have k1 : ∀ (w:World) (v:Value),ESl Ints w v p→Does Tryz.prog 162 [v] w (RetO w XR (matV p (bsm p p.length))):=fun w v h=>by
   have:=Nh w v p h
   rw [show leftV p p.length=matV p (bsm p p.length) from by unfold leftV;rw [if_pos ⟨hp,Ka,Ka⟩];rfl] at this;exact this
  have hml:=Qb (p:=p) (bsm p p.length)
  have hkl:=Sy (p:=p)
  refine Vh Tryz.func194 Z Tryz.results194 Tryz.ntmps194 Z ?_
  focus
   refine Zp<|Ys Z<|Zn<|Zp<|Yz XInt Z Ux Kl ?_;rintro b1 w1 hb1 b1lt E1 hO1;refine Ys Z<|Zn<|Zp<|Vb v Z<|Zr Z (Vx (a:=v) Gx Z) (k1 _ _ ((Mono.mono E1 h))) ?_;rintro u1 w2 ⟨E2,hO2⟩;refine Yr u1 Z<|Zn<|Zq<|Zq<|Vf<|Vg Z<|Zn<|Zw ?_
  have hBe:Besides (Value.slice (some ⟨b1,0,none⟩) 0 0).ownBlock (ESl Ints) w2 u1 (matV p (bsm p p.length)):=Besides.start hO1 hO2.above
  refine Vy [3,5,6,10,11,12,13,14,15,16,17,18,19,20,21,22,23,24,25,26,27,28,29,30,31,32,33] (fun ((k,u):Nat × Value)=>[(5,.int .i64 (k:Nat)),(3,u)]) (fun (k,u) w'=>Ext w w'∧k≤p.length∧Owned w.heap.size XI w' u ((ints (kndL p)).take k)∧Besides u.ownBlock (ESl Ints) w' u1 (matV p (bsm p p.length))) (fun x=>p.length - x.1) (0,.slice (some ⟨b1,0,none⟩) 0 0) Kg ?_ ?_
  ·exact ⟨by first | assumption | exact E1.trans E2,Nat.zero_le _,by simpa using hO1.ext E2,hBe⟩
  clear hBe hO1 hO2
  rintro ⟨k,u⟩ ρj w3 ⟨E3,hk,hO1,hBe⟩
  by_cases hlt:k < p.length
  ·have htl:((ints (kndL p)).take k).length=k:=by simp;omega
   obtain ⟨g1,g2,g3⟩:=Tl hlt
   focus
    have szE3:=E3.size;refine Zq<|Zp<|Zu Z<|Vb u1 Z<|Vk Kp Z (Besides.here hBe)<|Vi Z<|Zn<|Zs Z (fun h1=>?_) (fun h1=>?_);refine Zv<|Zq<|Zw<|Zp<|Vg Z<|Zn<|Zw ?_;rotate_left;(exfalso;omega)
   refine Vy [3,6,16,17,18,19,20,21,22,23,24,25,26,27,28,29,30,31,32,33] (fun (j:Nat)=>[(6,.int .i64 (j:Nat)),(3,u)]) (fun j w'=>w'=w3∧j≤knd p k) (fun j=>p.length - j) 0 Kg ?_ ?_
   ·exact ⟨rfl,Nat.zero_le _⟩
   rintro j ρk w4 ⟨rfl,hj⟩
   have hmr:=Qx (p:=p) (S:=bsm p p.length) hlt
   have hma:=Se (p:=p) (S:=bsm p p.length) (a:=k) (b:=j) hlt Ka
   rcases Nat.lt_or_ge j (knd p k) with hjl | hjl
   ·have h0:((matV p (bsm p p.length))[k]'Ka)[j]'Ka=0:=by rw [hma,show bsm p p.length k j=false from g3 j hjl];rfl
    focus
     refine Zq<|Zp<|Zu Z<|Vb u1 Z<|Vk Kp Z (Besides.here hBe)<|Vi Z<|Zn<|Zs Z (fun h2=>?_) (fun h2=>?_);refine Zv<|Zq<|Zw<|Zp<|Vb u1 Z<|Zu Z<|Yb Kp Kt Kz Z (fun _=>Z) Z (Besides.here hBe) (Ext.refl _) Z Kf ?_;rintro _ u2 hu1;refine Zu Z<|Yb Kn Kl Km Z (fun _=>Z) Z hu1 (Ext.refl _) Z Kf ?_;rintro _ _ rfl;refine Vm Z<|Zn<|Zt Z fun h3=>?_;refine Zv<|Vf<|Zu Z<|Vr Z<|Vg Z<|Zn ?_;rotate_left;(exfalso;omega)
    refine ⟨(j+1),Kg,Kh,?_,?_⟩
    ·exact ⟨rfl,Ka⟩
    ·omega
   ·obtain rfl:j=knd p k:=by omega
    have h1:((matV p (bsm p p.length))[k]'Ka)[knd p k]'Ka=1:=by rw [hma,show bsm p p.length k (knd p k)=true from g2];rfl
    focus
     have szE3:=E3.size;refine Zq<|Zp<|Zu Z<|Vb u1 Z<|Vk Kp Z (Besides.here hBe)<|Vi Z<|Zn<|Zs Z (fun h2=>?_) (fun h2=>?_);refine Zv<|Zq<|Zw<|Zp<|Vb u1 Z<|Zu Z<|Yb Kp Kt Kz Z (fun _=>Z) Z (Besides.here hBe) (Ext.refl _) Z Kf ?_;rintro _ u2 hu1;refine Zu Z<|Yb Kn Kl Km Z (fun _=>Z) Z hu1 (Ext.refl _) Z Kf ?_;rintro _ _ rfl;refine Vm Z<|Zn<|Zs Z (fun h3=>?_) (fun h3=>?_);refine Zp<|Vb u Z<|Zu Z<|Ye (ps:=[(0,.int _ _)]) (cs:=[_]) Z Kn Kl Jg Z Z Z Z ?_;rintro b2 w3 hb2 E4 hB1 hHb2;have hs3:=E4.size
     refine Xh Z Ux Z Z hB1 (hO1.toB.ext E4) Owned.int (Nat.le_refl _) Kf Ka Ka (E3.trans E4) Ka ?_;rintro v1 w5 hO1 E5 M1;have hBe:=(hBe.ext E4).moves M1;refine Yr v1 Z<|Zn<|Vw ?_;refine exitX_other Z ?_;refine Vd ?_;refine Vf<|Zu Z<|Vr Z<|Vg Z<|Zn ?_;rotate_left;contradiction;(exfalso;omega)
    refine ⟨((k+1,v1)),Kg,Kh,?_,?_⟩
    ·refine ⟨Kd,Ka,?_,Kd⟩
     rw [Yd _ _ Ka,Re]
     assumption
    ·simp only;omega
  ·obtain rfl:k=p.length:=by omega
   focus
    refine Zq<|Zp<|Zu Z<|Vb u1 Z<|Vk Kp Z (Besides.here hBe)<|Vi Z<|Zn<|Zt Z fun h1=>?_;refine Vw ?_;refine Vd ?_;refine Zp<|Vb u Z<|Yr u Z<|Zn<|Zy ?_;refine ⟨E3,(congrArg (Owned _ _ _ _) ?_).mp (hO1.toB.o.mono Ka)⟩
   rw [List.take_of_length_le Ka]
 ·rw [if_neg hp]
  have k1 : ∀ (w:World) (v:Value),ESl Ints w v p→Does Tryz.prog 162 [v] w (RetO w XR []):=fun w v h=>by
   have:=Nh w v p h
   rw [show leftV p p.length=[] from if_neg fun h=>hp h.1] at this;exact this
  refine Vh Tryz.func194 Z Tryz.results194 Tryz.ntmps194 Z ?_
  focus
   refine Zp<|Ys Z<|Zn<|Zp<|Yz XInt Z Ux Kl ?_;rintro b1 w1 hb1 b1lt E1 hO1;refine Ys Z<|Zn<|Zp<|Vb v Z<|Zr Z (Vx (a:=v) Gx Z) (k1 _ _ ((Mono.mono E1 h))) ?_;rintro u1 w2 ⟨E2,hO2⟩;have hs2:=E2.size;refine Yr u1 Z<|Zn<|Zq<|Zq<|Vf<|Vg Z<|Zn<|Zw ?_
  refine Vy [3,5,6,10,11,12,13,14,15,16,17,18,19,20,21,22,23,24,25,26,27,28,29,30,31,32,33] (fun (k:Nat)=>[(5,.int .i64 (k:Nat)),(3,.slice (some ⟨b1,0,none⟩) 0 0)]) (fun k w'=>w'=w2∧k=0) (fun x=>0) 0 Kg ?_ ?_
  ·exact ⟨rfl,rfl⟩
  rintro k ρj w3 ⟨rfl,rfl⟩
  have hnil:(([]:List (List Int)).length:Int)=0:=rfl
  focus
   refine Zq<|Zp<|Zu Z<|Vb u1 Z<|Vk Kp Z (Owned.read hO2)<|Vi Z<|Zn<|Vj Z fun h1=>?_;refine Vw ?_;refine Vd ?_;refine Zp<|Up Z<|Ys Z<|Zn<|Zy ?_;exact ⟨exq,(hO1.toB.ext E2).o.mono Ka⟩
end Go.Proofs.YtbgpppaljpngmaaGreatDoor
set_option linter.unusedVariables false
namespace Go.Hs
section
variable {w w':World} {u u' v:Value} {e:TypeId} {lo:Nat} {xs ys:List Int}
def Apt (u v:Value):Prop:=v.ownBlock=none∨u.ownBlock≠v.ownBlock
theorem Apt.symm (h:Apt u v):Apt v u:=by
 unfold Apt at *
 rcases hu:u.ownBlock with _ | a
 ·exact .inl rfl
 ·right
  rcases h with h | h
  ·rw [h];simp
  ·rw [← hu];exact fun e=>h e.symm
theorem XI_moves (hB:Owned lo (XSl e XInt) w v xs) (m:Moves w u w' u') (h:Apt u v):Owned lo (XSl e XInt) w' v xs∧Apt u' v:=by
 have hlt : ∀ k,v.ownBlock=some k→lo≤k∧k < w.heap.size:=fun k hk=>hB.lt_own hk
 obtain ⟨fp,h1,h2,h3⟩:=hB
 have hf:=XI_fp h3
 constructor
 ·refine ⟨fp,h1,h2,Loc.loc (fun k hk=>?_) h3⟩
  rw [hf] at hk
  have hv:v.ownBlock=some k:=by
   cases hb:v.ownBlock with
   | none=>rw [hb] at hk;cases hk
   | some g=>rw [hb] at hk;simp at hk;rw [hk]
  refine m.1.block k (hlt k hv).2 fun e=>?_
  rcases h with h | h
  ·rw [hv] at h;cases h
  ·exact h (by rw [hv,← e])
 ·rcases h with h | h
  ·exact .inl h
  ·rcases m.2 with h4 | ⟨g,h4,h5⟩
   ·exact .inr (by rw [h4];exact h)
   ·right
    rw [h4]
    intro e
    have:=(hlt g e.symm).2
    omega
end
set_option linter.unusedVariables false
def RetDX {α : Type} (w:World) (X:World→List Nat→Value→α→Prop) (p : α→Prop):Value→World→Prop:=fun u w'=>∃ x,Ext w w'∧Owned w.heap.size X w' u x∧p x
end Go.Hs
namespace Go.Proofs.YtbgpppaljpngmaaGreatDoor
open Go.Hs
set_option maxRecDepth 10000
set_option maxHeartbeats 4000000
set_option linter.unusedVariables false
set_option linter.unusedSimpArgs false
theorem leastNode_ok (w:World) (b6 b5:Nat) (vr vk:Value) (p:List (List Int)) (hp:Gr p) (a:Nat) (ha:a < p.length) (κ : Int) (h6:Blk w b6 [vr]) (h5:Blk w b5 [vk]) (hR:Ints w vr (ints (rf p a))) (hK:Ints w vk (ints (kndL p))) :
  Does Tryz.prog 211 [.int .i64 κ,.pointer (some ⟨b6,0,none⟩),.pointer (some ⟨b5,0,none⟩)] w (RetX w (Value.int .i64) (fun z _=>(z = -1∧∀ y ∈ rf p a,(knd p y:Int)≠κ)∨∃ y:Nat,z=y∧y ∈ rf p a∧(knd p y:Int) = κ)):=by
 have hle:=hR.le
 have hril:=Yy (rf p a)
 have hkl:=Sy (p:=p)
 have icr:isCell vr=true:=by obtain ⟨_,_,rfl,_⟩:=hR;rfl
 have ick:isCell vk=true:=by obtain ⟨_,_,rfl,_⟩:=hK;rfl
 refine Vh Tryz.func211 Z Tryz.results211 Tryz.ntmps211 Z ?_
 focus
  refine Zp<|Vg Z<|Zn<|Zq<|Zp<|Yu vr Kz h6 Z<|Vk Kn Z hR<|Zu Z<|Zn<|Zw ?_
 refine Vy [4,6,9,10,11,12,13,14,15,16,17,18,19,20] (fun (k:Nat)=>[(9,.int .i64 (k:Nat))]) (fun k w'=>Ext w w'∧k≤(rf p a).length∧∀ y ∈ (rf p a).take k,(knd p y:Int)≠κ) (fun k=>(rf p a).length - k) 0 Kg ?_ ?_
 ·exact ⟨Ext.refl _,Nat.zero_le _,Ki⟩
 rintro k ρj w1 ⟨E1,hk,hno⟩
 by_cases hlt:k < (rf p a).length
 ·have hrk:=(Qn hp ha).1 (List.getElem_mem hlt) |>.lt hp ha
  have hgk:(ints (rf p a))[k]'Ka=((rf p a)[k]:Int):=Xz hlt
  have hkk:(ints (kndL p))[((ints (rf p a))[k]'Ka).toNat]'Ka=(knd p (rf p a)[k]:Int):=by
   simp only [hgk,Int.toNat_natCast];exact Re _
  focus
   refine Zp<|Vi Z<|Zn<|Zq<|Zs Z (fun h1=>?_) (fun h1=>?_);refine Zv<|Zq<|Zw<|Zp<|Yb Kn Kl Km Z (fun _=>Z) Z hR E1 Z Kf ?_;rintro _ _ rfl;refine Vg Z<|Zn<|Zp<|Yu vk Kz (h5.ext E1) Z<|Zu Z<|Qr Kn Kl Km Z (fun _=>Z) Z hK E1 Z Kf ?_;rintro _ _ rfl;refine Zu Z<|Vm Z<|Zn<|Zs Z (fun h2=>?_) (fun h2=>?_);refine Zp<|Zu Z<|Vg Z<|Zn<|Zy ?_;refine Ve (v:=.int _ _) Z ?_;refine ⟨E1,_,Z,?_⟩;(try dsimp only);rotate_left;refine Zv<|Vf<|Vr Z<|Zu Z<|Zn ?_;rotate_left;(exfalso;omega)
  ·exact .inr ⟨(rf p a)[k],hgk,List.getElem_mem hlt,by rw [← hkk];assumption⟩
  ·refine ⟨(k+1),Kg,Kh,?_,?_⟩
   ·refine ⟨E1,Ka,fun y hy=>?_⟩
    rw [Yd _ _ hlt] at hy
    rcases List.mem_append.1 hy with hy | hy
    ·exact hno y hy
    ·rw [List.mem_singleton.1 hy,← hkk];assumption
   ·omega
 ·obtain rfl:k=(rf p a).length:=by omega
  focus
   refine Zp<|Vi Z<|Zn<|Zq<|Zt Z fun h1=>?_;refine Vw ?_;refine Vd ?_;refine Zp<|Vg Z<|Zn<|Zy ?_;refine Ve (v:=.int _ _) Z ?_;refine ⟨E1,_,Z,?_⟩;(try dsimp only)
  exact .inl ⟨rfl,by simpa using hno⟩
theorem joinedOf_ok (w:World) (v:Value) (p:List (List Int)) (h:ESl Ints w v p) (hp:Gr p) (a:Nat) (ha:a < p.length):Does Tryz.prog 184 [v,.int .i64 (a:Int)] w (RetDX w XR (Cand p a)):=by
 have hp5:=hp.2.1
 have k1 : ∀ (w:World) (v:Value),ESl Ints w v p→Does Tryz.prog 144 [v] w (RetO w XI (ints (kndL p))):=fun w v h=>kindsOf_ok w v p h hp
 have k2 : ∀ (w:World) (v:Value),ESl Ints w v p→Does Tryz.prog 210 [v,.int .i64 (a:Int)] w (RetO w XI (ints (rf p a))):=fun w v h=>reachedFrom_gr w v p h hp a ha
 have hrl:=Ma (p:=p) (i:=a)
 have hril:=Yy (rf p a)
 have hkl:=Sy (p:=p)
 have hka:(ints (kndL p))[a]'Ka=(knd p a:Int):=Re _
 refine Vh Tryz.func184 Z Tryz.results184 Tryz.ntmps184 Z ?_
 have stop4:True:=trivial
 have litown:True:=trivial
 focus
  refine Zp<|Ys Z<|Zn<|Zp<|Vb v Z<|Zr Z (Vx (a:=v) Tryz.call144 Z) (k1 _ _ (h)) ?_;rintro u1 w1 ⟨E1,hO1⟩;have hs1:=E1.size;refine Tm Z Jv Z ?_;rintro b1 w2 hb1 E2 hB1;have hlb1:=hB1.lt;refine Xk (v:=u1) Z Kt Z Z (OwnedB.isC (hO1.toB.ext E2)) hB1 Kc Ka (E1.trans E2) ?_;rintro w3 E3 hB1 K1 hz1;have E4:=E2.wroteAt exq E3 K1 hz1 Ka;simp only [List.set] at hB1;have hO1:=(hO1.toB.ext E2).wrote K1 Ka;refine Zn<|Zp<|Vb v Z<|Zu Z<|Zr Z (Yg (a:=v) (b:=.int _ _) Tryz.call210 Z Z) (k2 _ _ ((Mono.mono E3 h))) ?_;rintro u2 w4 ⟨E5,hO2⟩;have hs3:=E5.size;refine Tm Z Jv Z ?_;rintro b2 w5 hb2 E6 hB2;have hlb2:=hB2.lt
  refine Xk (v:=u2) Z Kt Z Z (OwnedB.isC (hO2.toB.ext E6)) hB2 Kc Ka ((E3.trans E5).trans E6) ?_;rintro w6 E7 hB2 K2 hz2;have E8:=((E4.trans E5).trans E6).wroteAt exq E7 K2 hz2 Ka;have E9:=(E5.trans E6).wroteAt exq E7 K2 hz2 Ka;have E10:=E6.wroteAt exq E7 K2 hz2 Ka;simp only [List.set] at hB2;have hB1:=(hB1.ext exq).of_heap (K2 _ Ka);have hO1:=(hO1.ext exq).wrote K2 Ka;have hO2:=(hO2.toB.ext E6).wrote K2 Ka;refine Zn<|Zp<|Wo Z (Qg Z Z)<|Yr (.func _ _ _) Z<|Zn<|Zq ?_
 clear stop4 litown
 have r1:=hO1.read
 have r2:=hO2.read
 clear hO1 hO2
 have kL : ∀ (w:World),Blk w b2 [u2]→Blk w b1 [u1]→Ints w u2 (ints (rf p a))→Ints w u1 (ints (kndL p))→Does Tryz.prog 211 [.int .i64 ((ints (kndL p))[a]'Ka),.pointer (some ⟨b2,0,none⟩),.pointer (some ⟨b1,0,none⟩)] w (RetX w (Value.int .i64) (fun z _=>∃ r:Nat,z=(r:Int)∧r < p.length∧Rch p a r∧knd p r=knd p a)):=fun w h1 h2 h3 h4=>by
  refine (leastNode_ok w b2 b1 u2 u1 p hp a ha _ h1 h2 h3 h4).mono ?_
  rintro v w' ⟨E,z,rfl,hz⟩
  refine ⟨E,z,Z,?_⟩
  rw [hka] at hz
  rcases hz with ⟨_,hz⟩ | ⟨y,rfl,hy,hz⟩
  ·exact absurd rfl (hz a ((Qn hp ha).2 (.refl a)))
  ·have hy':=(Qn hp ha).1 hy
   exact ⟨y,rfl,hy'.lt hp ha,hy',Ka⟩
 have stop6:True:=trivial
 focus
  refine Vf<|Yu u1 Kz hB1 Z<|Zu Z<|Yb Kn Kl Km Z (fun _=>Z) Z r1 (Ext.refl _) Z Kf ?_;rintro _ _ rfl;refine Ye (ps:=[(0,.int _ _)]) (cs:=[_]) Z Kn Kl Jg Z Z Z Z ?_;rintro b3 w7 hb3 E11 hB3 hHb3;have hlb3:=hB3.lt;refine Ys Z<|Zn<|Zp<|Vb (.func _ _ _) Z<|Yu u1 Kz (hB1.ext E11) Z<|Zu Z<|Yb Kn Kl Km Z (fun _=>Z) Z r1 E11 Z Kf ?_;rintro _ _ rfl;refine Zr Z (opc_val1 (a:=.int _ _) Tryz.call211 Z Z) (kL _ ((hB2.ext E11)) ((hB1.ext E11)) ((Mono.mono E11 r2)) ((Mono.mono E11 r1))) ?_;rintro _ w8 ⟨E12,y1,rfl,hy1⟩;have hs6:=E12.size
  refine Ye (ps:=[(0,.int _ _)]) (cs:=[_]) Z Kn Kl Jg Z Z Z Z ?_;rintro b4 w9 hb4 E13 hB4 hHb4;refine Ys Z<|Zn<|Zq<|Zq ?_
 clear stop6
 obtain ⟨r,rfl,hr1,hr2,hr3⟩:=hy1
 have hA0:Owned w6.heap.size XI w9 (.slice (some ⟨b3,0,none⟩) 1 1) (ints ([r].map (knd p))):=by
  have:=(own_lit1 hHb3 hb3).ext (by exact (E12.trans E13):Ext w7 w9)
  rwa [hka,← hr3] at this
 have hB0:Owned w6.heap.size XI w9 (.slice (some ⟨b4,0,none⟩) 1 1) (ints [r]):=own_lit1 hHb4 Ka
 have hApt:Apt (.slice (some ⟨b3,0,none⟩) 1 1) (.slice (some ⟨b4,0,none⟩) 1 1):=.inr (by simp only [Value.ownBlock,ne_eq,Option.some.injEq];omega)
 clear hHb3 hHb4 hB3 hB4 kL k1 k2
 focus
  refine Vf<|Yu u2 Kz (hB2.ext exq) Z<|Vk Kn Z r2<|Zu Z<|Zn<|Zw ?_
 refine Vy [8,9,11,37,38,39,40,41,42,43,44,45,46,47,48,49,50,51,52,53,54,55,56,57,58,59] (fun ((k,ua,ub,L):Nat × Value × Value × List Nat)=>[(37,.int .i64 (k:Nat)),(8,ua),(9,ub)]) (fun (k,ua,ub,L) w'=>Ext w6 w'∧k≤(rf p a).length∧Owned w6.heap.size XI w' ua (ints (L.map (knd p)))∧Owned w6.heap.size XI w' ub (ints L)∧Apt ua ub∧Fnd p a k L) (fun x=>(rf p a).length - x.1) (0,.slice (some ⟨b3,0,none⟩) 1 1,.slice (some ⟨b4,0,none⟩) 1 1,[r]) Kg ?_ ?_
 ·exact ⟨by exact ((E11.trans E12).trans E13),Nat.zero_le _,hA0,hB0,hApt,Fnd.zero' hr2 hr3⟩
 clear hA0 hB0 hApt
 rintro ⟨k,ua,ub,L⟩ ρj w10 ⟨E14,hk,hOA,hOB,hApt,hF⟩
 have hLl:=hF.len hp ha
 have hLil:=Yy L
 have hLm:=Yy (L.map (knd p))
 rw [List.length_map] at hLm
 by_cases hlt:k < (rf p a).length
 ·have hrk:=(Qn hp ha).1 (List.getElem_mem hlt) |>.lt hp ha
  have hgk:(ints (rf p a))[k]'Ka=((rf p a)[k]:Int):=Xz hlt
  have bk:((ints (rf p a))[k]'Ka).toNat < (ints (kndL p)).length:=by rw [hkl,hgk];omega
  have hkk:(ints (kndL p))[((ints (rf p a))[k]'Ka).toNat]'bk=(knd p (rf p a)[k]:Int):=by
   simp only [hgk,Int.toNat_natCast];exact Re _
  have kc : ∀ (b:Bool),decide (knd p (rf p a)[k] ∈ L.map (knd p))=b→∀ (w:World) (v:Value),Ints w v (ints (L.map (knd p)))→Does Tryz.prog 145 [v,.int .i64 ((ints (kndL p))[((ints (rf p a))[k]'Ka).toNat]'bk)] w (Ret w (.bool b)):=fun b e w v h=>by
   have:=Qy w v _ h ((ints (kndL p))[((ints (rf p a))[k]'Ka).toNat]'bk)
   rw [show decide ((ints (kndL p))[((ints (rf p a))[k]'Ka).toNat]'bk ∈ ints (L.map (knd p)))=b by rw [← e,decide_eq_decide,hkk];exact mem_ints] at this
   exact this
  by_cases hm:knd p (rf p a)[k] ∈ L.map (knd p)
  ·have kc':=kc true (decide_eq_true hm)
   clear kc
   focus
    refine Zp<|Vi Z<|Zn<|Zq<|Zs Z (fun h1=>?_) (fun h1=>?_);refine Zv<|Zq<|Zw<|Zp<|Yb Kn Kl Km Z (fun _=>Z) Z r2 E14 Z Kf ?_;rintro _ _ rfl;refine Vg Z<|Zn<|Zp<|Vb ua Z<|Yu u1 Kz (hB1.ext E14) Z<|Zu Z<|Qr Kn Kl Km Z (fun _=>Z) Z r1 E14 Z Kf ?_;rintro _ _ rfl;refine Zr Z (Yg (a:=ua) (b:=.int _ _) Gk Z Z) (kc' _ _ ((Owned.read hOA))) ?_;rintro _ w11 ⟨rfl,E15⟩;refine Ym Z<|Zn<|Xa Z fun h2=>?_;refine Zv<|Vf<|Vr Z<|Zu Z<|Zn ?_;rotate_left;(exfalso;omega)
   refine ⟨((k+1,ua,ub,L)),Kg,Kh,?_,?_⟩
   ·exact ⟨by exact (E14.trans E15),Ka,by exact (Mono.mono E15 hOA),by exact (Mono.mono E15 hOB),hApt,hF.skip hlt hm⟩
   ·simp only;omega
  ·have kc':=kc false (decide_eq_false hm)
   clear kc
   have stop11:True:=trivial
   focus
    have szE14:=E14.size;have szE10:=E10.size;have szE9:=E9.size;have szE8:=E8.size;have szE7:=E7.size;refine Zp<|Vi Z<|Zn<|Zq<|Zs Z (fun h1=>?_) (fun h1=>?_);refine Zv<|Zq<|Zw<|Zp<|Yb Kn Kl Km Z (fun _=>Z) Z r2 E14 Z Kf ?_;rintro _ _ rfl;refine Vg Z<|Zn<|Zp<|Vb ua Z<|Yu u1 Kz (hB1.ext E14) Z<|Zu Z<|Qr Kn Kl Km Z (fun _=>Z) Z r1 E14 Z Kf ?_;rintro _ _ rfl;refine Zr Z (Yg (a:=ua) (b:=.int _ _) Gk Z Z) (kc' _ _ ((Owned.read hOA))) ?_;rintro _ w11 ⟨rfl,E15⟩;have hs8:=E15.size;refine Ym Z<|Zn<|Xg Z (fun h2=>?_) (fun h2=>?_)
    refine Zp<|Vb ua Z<|Yu u1 Kz (hB1.ext exq) Z<|Zu Z<|Qr Kn Kl Km Z (fun _=>Z) Z r1 exq Z Kf ?_;rintro _ _ rfl;refine Ye (ps:=[(0,.int _ _)]) (cs:=[_]) Z Kn Kl Jg Z Z Z Z ?_;rintro b5 w12 hb5 E16 hB3 hHb5;have hlb5:=hB3.lt;refine Xh Z Ux Z Z hB3 (hOA.toB.ext (E15.trans E16)) Owned.int (Nat.le_refl _) Kf Ka Ka (((E7.trans E14).trans E15).trans E16) Ka ?_;have hT1:=(hOA.toB.ext (E15.trans E16));rintro v1 w13 hOA E17 M1;have E21:=M1.ext hT1 ((E14.trans E15).trans E16) Ka;have szE21:=E21.size;refine Yr v1 Z<|Zn ?_;rotate_left;contradiction;(exfalso;omega)
   clear stop11
   obtain ⟨hOB',hApt'⟩:=XI_moves (m:=M1) (h:=hApt) (hB:=hOB.ext (by exact (E15.trans E16)))
   focus
    have szE21:=E21.size;have szE7:=E7.size;refine Vf<|Vb ub Z<|Zu Z<|Ye (ps:=[(0,.int _ _)]) (cs:=[_]) Z Kn Kl Jg Z Z Z Z ?_;rintro b6 w14 hb6 E22 hB4 hHb6;have hlb6:=hB4.lt;refine Xh Z Ux Z Z hB4 (hOB'.toB.ext E22) Owned.int (Nat.le_refl _) Kf Ka Ka (E17.trans E22) Ka ?_;have hT2:=(hOB'.toB.ext E22);rintro v2 w15 hOB' E23 M2;have E27:=M2.ext hT2 (E21.trans E22) Ka;refine Yr v2 Z<|Zn<|Vf<|Vr Z<|Zu Z<|Zn ?_
   obtain ⟨hOA',hApt2⟩:=XI_moves (m:=M2) (h:=hApt'.symm) (hB:=hOA.ext (by exact E22))
   refine ⟨((k+1,v1,v2,L++[(rf p a)[k]])),Kg,Kh,?_,?_⟩
   ·refine ⟨by exact E27,Ka,?_,?_,hApt2.symm,hF.step hp ha hlt hm⟩
    ·rw [List.map_append,ints_append,show ints ([(rf p a)[k]].map (knd p))=[(ints (kndL p))[((ints (rf p a))[k]'Ka).toNat]'bk] by rw [hkk];rfl]
     exact hOA'
    ·rw [ints_append,show ints [(rf p a)[k]]=[(ints (rf p a))[k]'Ka] by rw [hgk];rfl]
     exact hOB'
   ·simp only;omega
 ·have hK:=hF.kds hp ha Ka
  have hL0:0 < L.length:=by have:=hF.hd;cases L <;> simp_all
  have rA:=hOA.read
  have rB:=hOB.read
  clear hOA hOB hApt
  obtain ⟨K,hKe⟩ : ∃ K,K=L.map (knd p):=⟨_,rfl⟩
  have hKL:K.length=L.length:=by rw [hKe];simp
  rw [← hKe] at hK rA hLm
  have hql:=qp_len (p:=p) (L:=K)
  have hem : ∀ w,Does Tryz.prog 183 [.int .i64 ((ints K).length:Int)] w (RetO w XR (fq (qp p K) L.length 0)):=fun w=>by
   have:=Qw w L.length Ka
   rw [show ((ints K).length:Int)=(L.length:Int) by rw [hLm],show fq (qp p K) L.length 0=List.replicate L.length (List.replicate L.length 0) by simp [fq]]
   exact this
  have hq0:=fq_len (Q:=qp p K) (n:=L.length) (i:=0) Ka Ka
  focus
   have szE14:=E14.size;refine Zp<|Vi Z<|Zn<|Zq<|Zt Z fun h1=>?_;refine Vw ?_;refine Vd ?_;refine Zp<|Vb ua Z<|Vk Kn Z rA<|Zr Z (Vx (a:=.int _ _) Gt Z) (hem _) ?_;rintro u3 w11 ⟨E15,hO3⟩;refine Yr u3 Z<|Zn<|Zq<|Zp<|Vb ub Z<|Vk Kn Z rB<|Zu Z<|Zn<|Zw ?_
  obtain ⟨ob,oc,rfl,_⟩:=hO3.lit Ka
  refine Vy [13,14,16,65,66,67,68,69,70,71,72,73,74,75,76,77,78,79,80,81,82,83,84,85,86,87,88,89,90] (fun (i:Nat)=>[(65,.int .i64 (i:Nat))]) (fun i w'=>Ext w10 w'∧i≤L.length∧Owned w10.heap.size XR w' (.slice (some ⟨ob,0,none⟩) (fq (qp p K) L.length 0).length oc) (fq (qp p K) L.length i)) (fun x=>L.length - x) 0 Kg ?_ ?_
  ·exact ⟨by exact E15,Nat.zero_le _,hO3⟩
  clear hO3
  rintro i ρk w12 ⟨E20,hi,hO3⟩
  by_cases hil:i < L.length
  ·have hgi:(ints L)[i]'Ka=(L[i]:Int):=Xz hil
   have hLi:=hF.lt hp ha (List.getElem_mem hil)
   have hki:knd p L[i]=K[i]'Ka:=by simp only [hKe,List.getElem_map]
   have hali:(arr p L[i]).length≤11:=by
    have h8:=Ng (p.getD L[i] [])
    rw [Ya hLi,hp.row hLi] at h8
    unfold arr;rw [Ya hLi];omega
   have harl:=Yy (arr p L[i])
   have ka : ∀ (w:World) (v:Value),ESl Ints w v p→Does Tryz.prog 130 [v,.int .i64 ((ints L)[i]'Ka)] w (RetO w XI (ints (arr p L[i]))):=fun w v h=>by
    rw [hgi]
    exact Us w v p h (L[i]:Int) ⟨Ka,Ka⟩ (by rw [Ya (by simpa using hLi),hp.row (by simpa using hLi)];omega)
   have hli:=fq_len (Q:=qp p K) (n:=L.length) (i:=i) Ka Ka
   have hat:=fq_at (Q:=qp p K) (n:=L.length) (i:=i) Ka Ka
   have hrq:(fq (qp p K) L.length i)[i].length=L.length:=by rw [hat];simp
   obtain ⟨br,cr,hR,hb1',hb2'⟩:=hO3.rowAt (i:=i) Ka Ka
   focus
    refine Zp<|Vi Z<|Zn<|Zq<|Zs Z (fun h2=>?_) (fun h2=>?_);refine Zv<|Zq<|Zw<|Zp<|Zu Z<|Yb Kn Kl Km Z (fun _=>Z) Z rB E20 Z Kf ?_;rintro _ _ rfl;refine Vg Z<|Vg Z<|Zn<|Zp<|Vb v Z<|Zu Z<|Zr Z (Yg (a:=v) (b:=.int _ _) Js Z Z) (ka _ _ ((Mono.mono exq h))) ?_;rintro u3 w13 ⟨E16,hO4⟩;refine Vk Kn Z (Owned.read hO4)<|Zu Z<|Zn<|Zw ?_;rotate_left;(exfalso;omega)
   refine Vy [16,74,75,76,77,78,79,80,81,82,83,84,85,86,87,88,89] (fun ((t,rows):Nat × List (List Int))=>[(74,.int .i64 (t:Int))]) (fun (t,rows) w'=>Ext w10 w'∧w13.heap.size≤w'.heap.size∧t≤(arr p L[i]).length∧Owned w10.heap.size XR w' (.slice (some ⟨ob,0,none⟩) (fq (qp p K) L.length 0).length oc) rows∧RowAt w' (.slice (some ⟨ob,0,none⟩) (fq (qp p K) L.length 0).length oc) i br (fq (qp p K) L.length i)[i].length cr∧rows=(fq (qp p K) L.length i).set i (krow p K ((arr p L[i]).take t))∧OwnedB w12.heap.size w13.heap.size XI w' u3 (ints (arr p L[i]))) (fun x=>(arr p L[i]).length - x.1) (0,fq (qp p K) L.length i) Kg ?_ ?_
   ·refine ⟨by exact (E20.trans E16),Ka,Nat.zero_le _,by exact (Mono.mono E16 hO3),by exact (hR.ext E16),?_,by exact hO4.toB⟩
    rw [show krow p K ((arr p L[i]).take 0)=(fq (qp p K) L.length i)[i] by rw [hat,List.take_zero,krow_none,hKL]]
    simp
   clear hO3 hO4 hR
   rintro ⟨t,rows⟩ ρl w14 ⟨E21,hs14,ht,hO3,hR,hrw,hO4⟩
   have hrl:rows.length=L.length:=by rw [hrw];simp;omega
   have hKr:=krow_len (p:=p) (K:=K) (l:=(arr p L[i]).take t)
   have hri:rows[i]'Ka=krow p K ((arr p L[i]).take t):=by simp only [hrw,List.getElem_set_self]
   have hrll:(rows[i]'Ka).length=L.length:=by rw [hri];omega
   by_cases htl:t < (arr p L[i]).length
   ·have hgt:(ints (arr p L[i]))[t]'Ka=((arr p L[i])[t]:Int):=Xz htl
    have hxm:=List.getElem_mem htl
    have hxl:=Xy hp hLi hxm
    have bx:((ints (arr p L[i]))[t]'Ka).toNat < (ints (kndL p)).length:=by rw [hkl,hgt];omega
    have hkx:(ints (kndL p))[((ints (arr p L[i]))[t]'Ka).toNat]'bx=(knd p (arr p L[i])[t]:Int):=by
     simp only [hgt,Int.toNat_natCast];exact Re _
    have hin:knd p (arr p L[i])[t] ∈ K:=(hK.2.2 _).2 ⟨_,(hF.rc _ (List.getElem_mem hil)).step hxm,rfl⟩
    obtain ⟨m,hm,hme⟩:=List.mem_iff_getElem.1 hin
    have kI : ∀ (w:World) (v:Value),Ints w v (ints K)→Does Tryz.prog 178 [v,.int .i64 ((ints (kndL p))[((ints (arr p L[i]))[t]'Ka).toNat]'bx)] w (Ret w (.int .i64 (m:Int))):=fun w v h=>by
     refine (IndexAt_ok w v _ h _).mono ?_
     rintro v' w' ⟨E,z,rfl,hz⟩
     refine ⟨?_,E⟩
     rw [hkx] at hz
     rcases hz with ⟨_,hz⟩ | ⟨j,hj,rfl,hz,_⟩
     ·exact absurd (mem_ints.2 hin) hz
     ·rw [Yy] at hj
      rw [Xz hj] at hz
      have e:K[j]=K[m]:=Ka
      rw [(List.getElem_inj hK.1).1 e]
    have hcell:=Md hR
    have heldS:w10=w10:=rfl
    focus
     refine Zq<|Vf<|Vi Z<|Zn<|Zq<|Zs Z (fun h3=>?_) (fun h3=>?_);refine Zv<|Zq<|Zw<|Zq<|Vf<|Yb Kn Kl Km Z (fun _=>Z) Z (OwnedB.read hO4) (Ext.refl _) Z Kf ?_;rintro _ _ rfl;refine Vg Z<|Zn<|Rb (fun w'=>Ext w10 w') Xr Z Kb ?_;intro w15 E17 K3 hz3;refine WtmS 0 Z Z exq<|WtmI 1 Z Z exq<|Yo 2 Z Kb Kb Z (fun _ _=>Yv Kp Kt Z Z Ka) exq ?_;refine WtmV 4 ua Z Z exq<|Yo (v:=u1) 5 Z Kb Kb Z (fun w' hw'=>Vt Kz Z ((hB1.ext exq).cell Z)) exq ?_
     refine WtmI 6 Z Z exq<|Wh_get_z 7 8 Z Kb Kb Z Z Kb Kb (fun _=>Z) Kn Kl Km Z r1 (fun w' hw'=>Ext.trans E14 hw') Z Kf exq ?_;rintro _ _ rfl;refine Wha [3,9]<|Vu Z ?_ ?_;refine Wo Z (Vt Kz Z (E17.cell hcell))<|Wnx exq<|Wha [9]<|Wh1 Z<|Zr Z (Yg (a:=ua) (b:=.int _ _) Tryz.call178 Z Z) (kI _ _ ((Mono.mono exq rA))) ?_;rintro _ w16 ⟨rfl,E18⟩;have hs11:=E18.size;refine Wnx exq<|Yo 10 Z Kb Kb Z (fun _ _=>Yv Kn Kl Z Z Ka) exq ?_;refine Wha [11]<|Wh1 Z<|Tr Z Kl Z Z (hO3.toB.ext exq) (hR.ext exq) Kf Kf ?_
     rintro w17 hO3 hR On1 K4 hz4;have E26:=On1.ext1 ((E21.trans E17).trans E18) Ka;have hO4:=(hO4.ext exq).wrote K4 Ka;refine Wnx E26<|Yh Kb ?_;refine Vf<|Vr Z<|Zu Z<|Zn ?_;rotate_left;refine Wh1 Z<|Zr Z (Yg (a:=ua) (b:=.int _ _) Tryz.call178 Z Z) (kI _ _ ((Mono.mono exq rA))) ?_;rintro _ w16 ⟨rfl,E18⟩;have hs11:=E18.size;refine Wnx exq<|Wha [3]<|Wh1 Z<|Wo Z (Vt Kz Z ((E17.trans E18).cell hcell))<|Wnx exq<|Yo 10 Z Kb Kb Z (fun _ _=>Yv Kn Kl Z Z Ka) exq ?_;refine Wha [11]<|Wh1 Z<|Tr Z Kl Z Z (hO3.toB.ext exq) (hR.ext exq) Kf Kf ?_;rintro w17 hO3 hR On1 K4 hz4
     have E26:=On1.ext1 ((E21.trans E17).trans E18) Ka;have hO4:=(hO4.ext exq).wrote K4 Ka;refine Wnx E26<|Yh Kb ?_;refine Vf<|Vr Z<|Zu Z<|Zn ?_;rotate_left;(exfalso;omega)
    all_goals refine ⟨(t+1,rows.set i (rows[i].set m 1)),Kg,Kh,⟨E26,Ka,Ka,hO3,hR,row_next hrw Ka ?_,hO4⟩,Kj⟩
    all_goals rw [hri,krow_step hK.1 hm hme.symm,← Yd]
   ·obtain rfl:t=(arr p L[i]).length:=by omega
    focus
     have szE21:=E21.size;have szE16:=E16.size;have szE20:=E20.size;have szE15:=E15.size;have szE14:=E14.size;have szE13:=E13.size;have szE12:=E12.size;have szE11:=E11.size;have szE10:=E10.size;have szE9:=E9.size;have szE8:=E8.size;have szE7:=E7.size;have szE6:=E6.size;have szE5:=E5.size;have szE4:=E4.size;have szE3:=E3.size;have szE2:=E2.size;have szE1:=E1.size;refine Zq<|Vf<|Vi Z<|Zn<|Zq<|Zt Z fun h3=>?_;refine Vw ?_;refine Vd ?_;refine Vf<|Vr Z<|Zu Z<|Zn ?_
    refine ⟨(i+1),Kg,Kh,?_,?_⟩
    ·refine ⟨by exact E21,Ka,?_⟩
     rw [List.take_length] at hrw
     rw [← fq_set (Q:=qp p K) (n:=L.length) (i:=i) Ka Ka (krow_qp hp hLi Ka hki (fun x hx=>hK.lt hp ha hx) (fun x hx=>hK.kk hp ha hx)).symm,← hrw]
     exact hO3
    ·omega
  ·obtain rfl:i=L.length:=by omega
   focus
    refine Zp<|Vi Z<|Zn<|Zq<|Zt Z fun h2=>?_;refine Vw ?_;refine Vd ?_;refine Zp<|Up Z<|Ys Z<|Zn<|Zy ?_;refine Ve (v:=.slice _ _ _) Z ?_
   refine ⟨_,by exact ((E7.trans E14).trans E20),hO3.mono Ka,?_⟩
   rw [fq_all Ka]
   exact ⟨K,hK,rfl⟩
end Go.Proofs.YtbgpppaljpngmaaGreatDoor
set_option linter.unusedVariables false
set_option linter.unusedSimpArgs false
namespace Go.Hs
section
variable {P:Program} {ρ : Env} {w:World} {ty s t e:TypeId} {x:Operand} {k:IntKind} {a:Int} {T:TypeDesc} {b c:Nat}
theorem opv_conv_u8 (hs:P.underlying s=some T) (ht:P.underlying t=some (.int .u8)) (hx:evalE ρ x=.int k a) (h:0≤a∧a≤255):OpV P (.convert s t x) ty ρ w (.int .u8 a):=by
 have e:IntKind.u8.wrap a=a:=by
  simp only [IntKind.wrap,IntKind.bits,IntKind.signed]
  simp
  omega
 have:(convert s t (.int k a)).run P w=.ok (.int .u8 a) w:=by simp [convert,Ug hs,Ug ht,Conv.intToInt,e]
 simp [OpV,execOp,hx,this]
theorem opv_sub_u8 {y:Operand} {t':TypeId} {a':Int} (hx:evalE ρ x=.int .u8 a) (hy:evalE ρ y=.int .u8 a') (h:0≤a - a'∧a - a'≤255):OpV P (.binOp .sub t x y t') ty ρ w (.int .u8 (a - a')):=by
 have e:IntKind.u8.wrap (a - a')=a - a':=by
  simp only [IntKind.wrap,IntKind.bits,IntKind.signed]
  simp
  omega
 simp [OpV,execOp,hx,hy,eqGuard,binOp,Op.intArith,e]
theorem Td (hs:P.underlying s=some (.slice e)) (he:P.underlying e=some (.int .u8)) (ht:P.underlying t=some .string) (hx:evalE ρ x=.slice (some ⟨b,0,none⟩) 1 c) (hB:Blk w b [.int .u8 a]) :
  OpV P (.convert s t x) ty ρ w (str [UInt8.ofNat a.toNat]):=by
 have h0:w.cell? ⟨b,0,none⟩=some (.int .u8 a):=hB.cell rfl
 have hl:(loadCells ⟨b,0,none⟩ 1).run P w=.ok ([a].map (Value.int .u8)).toArray w:=by simp [loadCells,loadCellsFrom,Addr.add,h0]
 have:(convert s t (.slice (some ⟨b,0,none⟩) 1 c)).run P w=.ok (str [UInt8.ofNat a.toNat]) w:=by
  simp only [convert,Sem.run_bind,Ug hs,Ug ht,Ug he,Result.andThen_ok]
  rw [run_bytesToString w _ _ _ [a] hl]
  rfl
 simp [OpV,execOp,hx,this]
end
set_option linter.unusedVariables false
set_option linter.unusedSimpArgs false
section
variable {c:UInt8} {l a r:List UInt8}
theorem byte_ind (c:UInt8) (s:List UInt8):c ∉ s∨∃ x r,s=x++c::r∧c ∉ x:=by
 induction s with
 | nil=>exact .inl Ki
 | cons d s ih =>
   by_cases hd : d = c
   · exact .inr ⟨[], s, by simp [hd], Ki⟩
   · rcases ih with h | ⟨x, r, rfl, h⟩
     · exact .inl (by simp only [List.mem_cons, not_or]; exact ⟨fun e => hd e.symm, h⟩)
     · exact .inr ⟨d :: x, r, rfl, by simp only [List.mem_cons, not_or]; exact ⟨fun e => hd e.symm, h⟩⟩
theorem index_no (h:c ∉ l):Go.Lib.index l [c] = -1:=by
 induction l with
 | nil=>rfl
 | cons d l ih =>
   simp only [List.mem_cons, not_or] at h
   rw [Go.Lib.index, ih h.2]
   simp [List.isPrefixOf, h.1]
theorem index_at (h:c ∉ a):Go.Lib.index (a++c::r) [c]=(a.length:Int):=by
 induction a with
 | nil=>rw [List.nil_append,Go.Lib.index];simp [List.isPrefixOf]
 | cons d a ih =>
   simp only [List.mem_cons, not_or] at h
   rw [List.cons_append, Go.Lib.index, ih h.2]
   have : ¬ ((a.length : Int) == -1) = true := by simp only [beq_iff_eq]; omega
   rw [if_neg (by simp [List.isPrefixOf, h.1]), if_neg this]
   simp
theorem split_eq (c:UInt8) : ∀ (n:Nat) (l:List UInt8),l.length≤n→Go.Lib.split l [c]=cutB c l:=by
 intro n
 induction n with
 | zero =>
   intro l hl
   obtain rfl := List.eq_nil_of_length_eq_zero (Nat.le_zero.1 hl)
   rfl
 | succ n ih =>
   intro l hl
   rcases byte_ind c l with h | ⟨a, r, rfl, h⟩
   · rw [Tk h]
     unfold Go.Lib.split
     rw [Go.Lib.count_miss (index_no h)]
     rfl
   · rw [Tx h, ← ih r (by simp at hl; omega)]
     unfold Go.Lib.split
     rw [Go.Lib.count_hit Ki (index_at h)]
     have hd : (a ++ c :: r).drop (a.length + [c].length) = r := by
       rw [List.drop_append]
       simp
     rw [hd, Nat.add_comm 1, Go.Lib.splitK, index_at h]
     have : ¬ ((a.length : Int) == -1) = true := by simp only [beq_iff_eq]; omega
     rw [if_neg this]
     simp only [Int.toNat_natCast, Nat.add_zero, hd, List.take_left']
theorem splitB_eq (c:UInt8) (l:List UInt8):(Go.Lib.splitB ⟨#[c]⟩ 0 (Go.Lib.countB ⟨l.toArray⟩ ⟨#[c]⟩) ⟨l.toArray⟩).map Value.string=(cutB c l).map str:=by
 have h:=Go.Lib.splitB_data ⟨#[c]⟩ 0 (Go.Lib.countB ⟨l.toArray⟩ ⟨#[c]⟩) ⟨l.toArray⟩
 have h2:Go.Lib.splitK [c] 0 (Go.Lib.countB ⟨l.toArray⟩ ⟨#[c]⟩) l=cutB c l:=split_eq c l.length l (Nat.le_refl _)
 simp only at h
 rw [h2] at h
 rw [← h,List.map_map]
 refine List.map_congr_left fun x _=>?_
 simp
theorem splitB_len (c:UInt8) (l:List UInt8):Go.Lib.countB ⟨l.toArray⟩ ⟨#[c]⟩+1=(cutB c l).length:=by
 rw [← List.length_map (f:=str),← splitB_eq,List.length_map]
 exact (Go.Lib.splitB_all ⟨#[c]⟩ (by simp [ByteArray.size]) 0 _ ⟨l.toArray⟩ rfl).symm
def cutF (c:UInt8):List UInt8→List UInt8 × List UInt8 × Bool
 | []=>([],[],false)
 | d::l=>if d=c then ([],l,true) else (d::(cutF c l).1,(cutF c l).2.1,(cutF c l).2.2)
theorem cutF_no (h:c ∉ l):cutF c l=(l,[],false):=by
 induction l with
 | nil=>rfl
 | cons d l ih =>
   simp only [List.mem_cons, not_or] at h
   rw [cutF, if_neg (fun e => h.1 e.symm), ih h.2]
theorem cutF_at (h:c ∉ a):cutF c (a++c::r)=(a,r,true):=by
 induction a with
 | nil=>rw [List.nil_append,cutF,if_pos rfl]
 | cons d a ih =>
   simp only [List.mem_cons, not_or] at h
   rw [List.cons_append, cutF, if_neg (fun e => h.1 e.symm), ih h.2]
theorem cut_eq (c:UInt8) (l:List UInt8):Go.Lib.cut l [c]=cutF c l:=by
 rcases byte_ind c l with h | ⟨a,r,rfl,h⟩
 ·rw [cutF_no h,Go.Lib.cut,index_no h,if_neg Kc]
 ·rw [cutF_at h,Go.Lib.cut,index_at h,if_pos Ka]
  simp
theorem cutF_len (c:UInt8) (l:List UInt8):(cutF c l).1.length≤l.length∧(cutF c l).2.1.length≤l.length:=by
 rcases byte_ind c l with h | ⟨a,r,rfl,h⟩
 ·rw [cutF_no h];simp
 ·rw [cutF_at h];simp;omega
theorem join_eq (c:UInt8) (ps:List (List UInt8)):Go.Lib.join ps [c]=joinB c ps:=by
 have h : ∀ (x:List UInt8) (ps:List (List UInt8)),Go.Lib.join (x::ps) [c]=x++ps.flatMap fun y=>c::y:=by
  intro x ps
  induction ps generalizing x with
  | nil=>rw [Go.Lib.join_one];simp
  | cons y ps ih =>
    have := ih y
    unfold Go.Lib.join List.intercalate at this ⊢
    simp only [List.intersperse, List.flatten_cons, List.flatMap_cons] at this ⊢
    rw [this]
    simp
 cases ps with
 | nil=>rfl
 | cons x ps=>exact h x ps
theorem decDigits_small {n:Nat} (h:n < 10):Go.Lib.decDigits n=[dig n]:=by
 rw [Go.Lib.decDigits,dif_pos h];rfl
end
def EMx (g:Nat):World→Value→Unit→Prop:=fun w _ _=>∃ m,w.cell? ⟨g,0,none⟩=some (.int .i64 m)
instance {g:Nat} : Mono (EMx g):=⟨fun e ⟨m,h⟩=>⟨m,e.cell h⟩⟩
theorem xall_str {w:World} : ∀ (xs:List (List UInt8)),(∀ x ∈ xs,x.length≤9223372036854775807)→XAll XStr w (List.replicate xs.length []) (xs.map str) xs
 | [],_=>trivial
 | x::xs,h=>⟨⟨rfl,rfl,h x Ki⟩,xall_str xs fun y hy=>h y (by simp [hy])⟩
theorem Ts {c:UInt8} : ∀ (n:Nat) (l:List UInt8),l.length≤n→∀ x ∈ cutB c l,x.length≤l.length:=by
 intro n
 induction n with
 | zero =>
   intro l hl x hx
   obtain rfl := List.eq_nil_of_length_eq_zero (Nat.le_zero.1 hl)
   simp [cutB] at hx
   simp [hx]
 | succ n ih =>
   intro l hl x h
   rcases byte_ind c l with hn | ⟨a, r, rfl, hn⟩
   · rw [Tk hn] at h; simp at h; simp [h]
   · rw [Tx hn] at h
     rcases List.mem_cons.1 h with rfl | h
     · simp
     · have := ih r (by simp at hl; omega) x h
       simp; omega
end Go.Hs
namespace Go.Proofs.YtbgpppaljpngmaaGreatDoor
open Go.Hs
set_option maxRecDepth 10000
set_option maxHeartbeats 4000000
set_option linter.unusedVariables false
set_option linter.unusedSimpArgs false
abbrev XS:=XSl 9 XStr
def Tryz.laysSplit_ren : Go.Shelf.Ren := ⟨fun | 146 => 182 | 221 => 209 | 268 => 225 | 138 => 226 | 143 => 227 | 195 => 235 | 197 => 236 | 218 => 237 | 219 => 181 | 260 => 242 | 217 => 205 | 225 => 206 | 224 => 207 | 267 => 208 | 266 => 223 | 314 => 224 | n => n, fun | 9 => 9 | 31 => 34 | 3 => 3 | 4 => 4 | 0 => 0 | 105 => 188 | 21 => 21 | 5 => 5 | 46 => 168 | 119 => 201 | 139 => 204 | 138 => 203 | 146 => 180 | 51 => 179 | n => n, fun | 1 => 0 | 3 => 4 | 4 => 5 | n => n⟩
theorem Tryz.laysSplit : Go.Proofs.Lays.n146 Tryz.prog Tryz.laysSplit_ren := {
  mixed := by kernel_rfl
  f138 := Tryz.func226.trans (congrArg some (by kernel_rfl))
  f143 := Tryz.func227.trans (congrArg some (by kernel_rfl))
  f146 := Tryz.func182.trans (congrArg some (by kernel_rfl))
  f195 := Tryz.func235.trans (congrArg some (by kernel_rfl))
  f197 := Tryz.func236.trans (congrArg some (by kernel_rfl))
  f217 := Tryz.func205.trans (congrArg some (by kernel_rfl))
  f218 := Tryz.func237.trans (congrArg some (by kernel_rfl))
  f219 := Tryz.func181.trans (congrArg some (by kernel_rfl))
  f221 := Tryz.func209.trans (congrArg some (by kernel_rfl))
  f224 := Tryz.func207.trans (congrArg some (by kernel_rfl))
  f225 := Tryz.func206.trans (congrArg some (by kernel_rfl))
  f260 := Tryz.func242.trans (congrArg some (by kernel_rfl))
  f266 := Tryz.func223.trans (congrArg some (by kernel_rfl))
  f267 := Tryz.func208.trans (congrArg some (by kernel_rfl))
  f268 := Tryz.func225.trans (congrArg some (by kernel_rfl))
  f314 := Tryz.func224.trans (congrArg some (by kernel_rfl))
  t0 := Tryz.underlying0
  a0 := Tryz.isAgg0
  z0 := Tryz.sizeOf0
  v0 := Tryz.zeroValue0
  t3 := Tryz.underlying3
  a3 := Tryz.isAgg3
  z3 := Tryz.sizeOf3
  v3 := Tryz.zeroValue3
  t4 := Tryz.underlying4
  a4 := Tryz.isAgg4
  z4 := Tryz.sizeOf4
  v4 := Tryz.zeroValue4
  t5 := Tryz.underlying5
  a5 := Tryz.isAgg5
  z5 := Tryz.sizeOf5
  v5 := Tryz.zeroValue5
  t9 := Tryz.underlying9
  a9 := Tryz.isAgg9
  z9 := Tryz.sizeOf9
  v9 := Tryz.zeroValue9
  t21 := Tryz.underlying21
  a21 := Tryz.isAgg21
  z21 := Tryz.sizeOf21
  v21 := Tryz.zeroValue21
  t31 := Tryz.underlying34
  a31 := Tryz.isAgg34
  z31 := Tryz.sizeOf34
  v31 := Tryz.zeroValue34
  t46 := Tryz.underlying168
  a46 := Tryz.isAgg168
  z46 := Tryz.sizeOf168
  v46 := Tryz.zeroValue168
  t51 := Tryz.underlying179
  a51 := Tryz.isAgg179
  z51 := Tryz.sizeOf179
  v51 := Tryz.zeroValue179
  t105 := Tryz.underlying188
  a105 := Tryz.isAgg188
  z105 := Tryz.sizeOf188
  v105 := Tryz.zeroValue188
  t119 := Tryz.underlying201
  a119 := Tryz.isAgg201
  z119 := Tryz.sizeOf201
  t138 := Tryz.underlying203
  a138 := Tryz.isAgg203
  z138 := Tryz.sizeOf203
  v138 := Tryz.zeroValue203
  t139 := Tryz.underlying204
  a139 := Tryz.isAgg204
  z139 := Tryz.sizeOf204
  v139 := Tryz.zeroValue204
  t146 := Tryz.underlying180
  a146 := Tryz.isAgg180
  z146 := Tryz.sizeOf180
  v146 := Tryz.zeroValue180
  g1 := by kernel_rfl
  g3 := by kernel_rfl
  g4 := by kernel_rfl }
abbrev gMx:Nat:=Tryz.laysSplit_ren.g 1
theorem Split_ok (w:World) (s:List UInt8) (hM:EMx gMx w (.bool true) ()) (hs:s.length≤1048576) :
  Does Tryz.prog 182 [str s,str [47]] w (RetO w XS (cutB 47 s)):=by
 obtain ⟨m,hm⟩:=hM
 have hc:=Go.Proofs.Any.strings_Split Tryz.laysSplit Kb ⟨s.toArray⟩ ⟨#[47]⟩ m w (by simp [ByteArray.size];omega) hm (by simp [ByteArray.size])
 unfold Does
 refine Calls.mono (show Calls Tryz.prog 182 _ w _ from hc) ?_
 rintro e w' ⟨he,rfl⟩
 rw [splitB_eq,splitB_len] at *
 refine ⟨_,he,(Ext.refl w).alloc _,?_⟩
 have hl:=cutB_len (s:=47) s
 have hc2:=List.count_le_length (a:=(47:UInt8)) (l:=s)
 refine Owned.block (cs:=(cutB 47 s).map str) (heap_alloc_new w _) (Nat.le_refl _) Ki (by unfold maxLen;omega) ?_
 exact xall_str _ fun x hx=>by have:=Ts (c:=47) s.length s (Nat.le_refl _) x hx;omega
def Tryz.laysJoin_ren : Go.Shelf.Ren := ⟨fun | 156 => 132 | 165 => 169 | 166 => 170 | 169 => 171 | 240 => 197 | 241 => 198 | 276 => 218 | 277 => 219 | n => n, fun | 31 => 34 | 9 => 9 | 3 => 3 | 4 => 4 | 0 => 0 | 20 => 20 | 72 => 143 | 76 => 147 | 70 => 141 | 37 => 22 | 75 => 146 | 127 => 163 | 164 => 176 | 5 => 5 | 80 => 149 | n => n, fun | n => n⟩
theorem Tryz.laysJoin : Go.Proofs.Lays.n156 Tryz.prog Tryz.laysJoin_ren := {
  mixed := by kernel_rfl
  f156 := Tryz.func132.trans (congrArg some (by kernel_rfl))
  f165 := Tryz.func169.trans (congrArg some (by kernel_rfl))
  f166 := Tryz.func170.trans (congrArg some (by kernel_rfl))
  f169 := Tryz.func171.trans (congrArg some (by kernel_rfl))
  f240 := Tryz.func197.trans (congrArg some (by kernel_rfl))
  f241 := Tryz.func198.trans (congrArg some (by kernel_rfl))
  f276 := Tryz.func218.trans (congrArg some (by kernel_rfl))
  f277 := Tryz.func219.trans (congrArg some (by kernel_rfl))
  t0 := Tryz.underlying0
  a0 := Tryz.isAgg0
  z0 := Tryz.sizeOf0
  v0 := Tryz.zeroValue0
  t3 := Tryz.underlying3
  a3 := Tryz.isAgg3
  z3 := Tryz.sizeOf3
  v3 := Tryz.zeroValue3
  t4 := Tryz.underlying4
  a4 := Tryz.isAgg4
  z4 := Tryz.sizeOf4
  v4 := Tryz.zeroValue4
  t9 := Tryz.underlying9
  a9 := Tryz.isAgg9
  z9 := Tryz.sizeOf9
  v9 := Tryz.zeroValue9
  t20 := Tryz.underlying20
  a20 := Tryz.isAgg20
  z20 := Tryz.sizeOf20
  v20 := Tryz.zeroValue20
  t31 := Tryz.underlying34
  a31 := Tryz.isAgg34
  z31 := Tryz.sizeOf34
  v31 := Tryz.zeroValue34
  t37 := Tryz.underlying22
  a37 := Tryz.isAgg22
  z37 := Tryz.sizeOf22
  v37 := Tryz.zeroValue22
  t70 := Tryz.underlying141
  a70 := Tryz.isAgg141
  z70 := Tryz.sizeOf141
  v70 := Tryz.zeroValue141
  t72 := Tryz.underlying143
  a72 := Tryz.isAgg143
  z72 := Tryz.sizeOf143
  v72 := Tryz.zeroValue143
  t75 := Tryz.underlying146
  a75 := Tryz.isAgg146
  z75 := Tryz.sizeOf146
  v75 := Tryz.zeroValue146
  t76 := Tryz.underlying147
  a76 := Tryz.isAgg147
  z76 := Tryz.sizeOf147
  v76 := Tryz.zeroValue147
  t127 := Tryz.underlying163
  a127 := Tryz.isAgg163
  z127 := Tryz.sizeOf163
  v127 := Tryz.zeroValue163
  t164 := Tryz.underlying176
  a164 := Tryz.isAgg176
  z164 := Tryz.sizeOf176
  v164 := Tryz.zeroValue176 }
theorem Join_extra:Builder.Extra Tryz.prog Tryz.laysJoin_ren where
 sizeBuilder:=Kb
 liesBuilder:=Kb
 t5:=Tryz.underlying5
 a5:=fun w=>run_isAgg_plain Jw rfl w
 z5:=Tryz.sizeOf5
 v5:=Tryz.zeroValue5
 infoByte:=Kb
 cellsByte:=Kb
 sizeByte:=Kb
 neB5:=Kc
theorem Join_ok (w:World) (v:Value) (ps:List (List UInt8)) {lo:Nat} (h:Owned lo XS w v ps) (hl:(joinB 47 ps).length≤1048576) (hl2:ps.length≤1048576) :
  Does Tryz.prog 132 [v,str [47]] w (Ret w (str (joinB 47 ps))):=by
 rcases ps.eq_nil_or_concat with rfl | hne
 ·obtain ⟨a,c,rfl,h1,h2⟩:=h.read
  unfold Does
  refine Calls.mono (show Calls Tryz.prog 132 _ w _ from Go.Proofs.Any.strings_Join_none Tryz.laysJoin Join_extra a c ⟨#[47]⟩ w) ?_
  rintro e w' ⟨he,rfl⟩
  exact ⟨_,he,rfl,Ext.refl _⟩
 ·have hp:0 < ps.length:=by obtain ⟨a,b,rfl⟩:=hne;simp
  obtain ⟨b,c,rfl,hc⟩:=h.lit hp
  have hb:=h.lt_own (k:=b) rfl
  obtain ⟨a',c',e,h1,h2⟩:=h.read
  obtain ⟨rfl,-,rfl⟩:some _=a'∧ps.length=ps.length∧c=c':=by injection e with e1 e2 e3;exact ⟨e1,e2,e3⟩
  have hcell : ∀ (j:Nat) x,(ps.map fun l=>(⟨l.toArray⟩:ByteArray))[j]? = some x→w.cell? ⟨b,0+j,none⟩=some (.string x):=by
   intro j x hx
   rw [List.getElem?_map] at hx
   obtain ⟨l,hl,rfl⟩:=Option.map_eq_some_iff.1 hx
   obtain ⟨hj,rfl⟩:=List.getElem?_eq_some_iff.1 hl
   rcases h2 with rfl | ⟨b2,o2,e2,h2⟩
   ·cases hj
   ·injection e2 with e2;injection e2 with e3 e4;subst e3;subst e4
    obtain ⟨u,hu,rfl,_⟩:=h2 j hj
    exact hu
  have hj:(Go.Lib.join ((ps.map fun l=>(⟨l.toArray⟩:ByteArray)).map (·.data.toList)) [47])=joinB 47 ps:=by
   rw [List.map_map,show ((fun x:ByteArray=>x.data.toList) ∘ fun l:List UInt8=>(⟨l.toArray⟩:ByteArray))=id from funext fun l=>rfl,List.map_id,join_eq]
  have hc:=Go.Proofs.Any.strings_Join Tryz.laysJoin Join_extra b 0 c (ps.map fun l=>(⟨l.toArray⟩:ByteArray)) ⟨#[47]⟩ w hcell hb.2 (by simp;omega) (by simp;omega) (by
   show (Go.Lib.join _ [47]).length≤_
   rw [hj];omega)
  rw [List.length_map] at hc
  unfold Does
  refine Calls.mono (show Calls Tryz.prog 132 _ w _ from hc) ?_
  rintro e w' ⟨he,hB⟩
  refine ⟨_,he,?_,hB⟩
  show Value.string ⟨(Go.Lib.join _ [47]).toArray⟩=_
  rw [hj]
def Tryz.laysCut_ren : Go.Shelf.Ren := ⟨fun | 145 => 102 | 220 => 149 | 219 => 181 | 217 => 205 | 225 => 206 | 224 => 207 | 267 => 208 | 266 => 223 | 314 => 224 | n => n, fun | 9 => 9 | 4 => 4 | 59 => 109 | 3 => 3 | 5 => 5 | 46 => 168 | 146 => 180 | 51 => 179 | n => n, fun | 1 => 0 | n => n⟩
theorem Tryz.laysCut : Go.Proofs.Lays.n145 Tryz.prog Tryz.laysCut_ren := {
  mixed := by kernel_rfl
  f145 := Tryz.func102.trans (congrArg some (by kernel_rfl))
  f217 := Tryz.func205.trans (congrArg some (by kernel_rfl))
  f219 := Tryz.func181.trans (congrArg some (by kernel_rfl))
  f220 := Tryz.func149.trans (congrArg some (by kernel_rfl))
  f224 := Tryz.func207.trans (congrArg some (by kernel_rfl))
  f225 := Tryz.func206.trans (congrArg some (by kernel_rfl))
  f266 := Tryz.func223.trans (congrArg some (by kernel_rfl))
  f267 := Tryz.func208.trans (congrArg some (by kernel_rfl))
  f314 := Tryz.func224.trans (congrArg some (by kernel_rfl))
  t3 := Tryz.underlying3
  a3 := Tryz.isAgg3
  z3 := Tryz.sizeOf3
  v3 := Tryz.zeroValue3
  t4 := Tryz.underlying4
  a4 := Tryz.isAgg4
  z4 := Tryz.sizeOf4
  v4 := Tryz.zeroValue4
  t5 := Tryz.underlying5
  a5 := Tryz.isAgg5
  z5 := Tryz.sizeOf5
  v5 := Tryz.zeroValue5
  t9 := Tryz.underlying9
  a9 := Tryz.isAgg9
  z9 := Tryz.sizeOf9
  v9 := Tryz.zeroValue9
  t46 := Tryz.underlying168
  a46 := Tryz.isAgg168
  z46 := Tryz.sizeOf168
  v46 := Tryz.zeroValue168
  t51 := Tryz.underlying179
  a51 := Tryz.isAgg179
  z51 := Tryz.sizeOf179
  v51 := Tryz.zeroValue179
  t59 := Tryz.underlying109
  a59 := Tryz.isAgg109
  z59 := Tryz.sizeOf109
  v59 := Tryz.zeroValue109
  t146 := Tryz.underlying180
  a146 := Tryz.isAgg180
  z146 := Tryz.sizeOf180
  v146 := Tryz.zeroValue180
  g1 := by kernel_rfl }
theorem Cut_ok (w:World) (s:List UInt8) (c:UInt8) (hM:EMx gMx w (.bool true) ()) (hs:s.length≤1048576) :
  Does Tryz.prog 102 [str s,str [c]] w (Ret w (.tuple #[str (cutF c s).1,str (cutF c s).2.1,.bool (cutF c s).2.2])):=by
 obtain ⟨m,hm⟩:=hM
 have hc:=Go.Proofs.Any.strings_Cut Tryz.laysCut ⟨s.toArray⟩ ⟨#[c]⟩ m w (by simp [ByteArray.size];omega) hm
 unfold Does
 refine Calls.mono (show Calls Tryz.prog 102 _ w _ from hc) ?_
 rintro e w' ⟨he,n,rfl⟩
 refine ⟨_,he,?_,?_⟩
 ·have:=cut_eq c s
  simp only [show (#[c]:Array UInt8).toList=[c] from rfl,this]
 ·exact ⟨rfl,rfl,rfl,Nat.le_refl _,fun _ _=>rfl⟩
def Tryz.laysItoa_ren : Go.Shelf.Ren := ⟨fun | 171 => 131 | 243 => 168 | 246 => 196 | 283 => 214 | 284 => 215 | 285 => 216 | 286 => 217 | 129 => 231 | 317 => 230 | 318 => 232 | 319 => 233 | 320 => 234 | 337 => 240 | 338 => 241 | n => n, fun | 3 => 3 | 9 => 9 | 2 => 2 | 4 => 4 | 171 => 170 | 0 => 0 | 53 => 171 | 37 => 22 | 5 => 5 | 173 => 174 | 212 => 185 | 51 => 179 | 20 => 20 | 213 => 186 | 46 => 168 | 232 => 199 | 233 => 200 | n => n, fun | 17 => 1 | 18 => 2 | 19 => 3 | n => n⟩
theorem Tryz.laysItoa : Go.Proofs.Lays.n171 Tryz.prog Tryz.laysItoa_ren := {
  mixed := by kernel_rfl
  f129 := Tryz.func231.trans (congrArg some (by kernel_rfl))
  f171 := Tryz.func131.trans (congrArg some (by kernel_rfl))
  f243 := Tryz.func168.trans (congrArg some (by kernel_rfl))
  f246 := Tryz.func196.trans (congrArg some (by kernel_rfl))
  f283 := Tryz.func214.trans (congrArg some (by kernel_rfl))
  f284 := Tryz.func215.trans (congrArg some (by kernel_rfl))
  f285 := Tryz.func216.trans (congrArg some (by kernel_rfl))
  f286 := Tryz.func217.trans (congrArg some (by kernel_rfl))
  f317 := Tryz.func230.trans (congrArg some (by kernel_rfl))
  f318 := Tryz.func232.trans (congrArg some (by kernel_rfl))
  f319 := Tryz.func233.trans (congrArg some (by kernel_rfl))
  f320 := Tryz.func234.trans (congrArg some (by kernel_rfl))
  f337 := Tryz.func240.trans (congrArg some (by kernel_rfl))
  f338 := Tryz.func241.trans (congrArg some (by kernel_rfl))
  t0 := Tryz.underlying0
  a0 := Tryz.isAgg0
  z0 := Tryz.sizeOf0
  v0 := Tryz.zeroValue0
  t2 := Tryz.underlying2
  a2 := Tryz.isAgg2
  z2 := Tryz.sizeOf2
  v2 := Tryz.zeroValue2
  t3 := Tryz.underlying3
  a3 := Tryz.isAgg3
  z3 := Tryz.sizeOf3
  v3 := Tryz.zeroValue3
  t4 := Tryz.underlying4
  a4 := Tryz.isAgg4
  z4 := Tryz.sizeOf4
  v4 := Tryz.zeroValue4
  t5 := Tryz.underlying5
  a5 := Tryz.isAgg5
  z5 := Tryz.sizeOf5
  v5 := Tryz.zeroValue5
  t9 := Tryz.underlying9
  a9 := Tryz.isAgg9
  z9 := Tryz.sizeOf9
  v9 := Tryz.zeroValue9
  t20 := Tryz.underlying20
  a20 := Tryz.isAgg20
  z20 := Tryz.sizeOf20
  v20 := Tryz.zeroValue20
  t37 := Tryz.underlying22
  a37 := Tryz.isAgg22
  z37 := Tryz.sizeOf22
  v37 := Tryz.zeroValue22
  t46 := Tryz.underlying168
  a46 := Tryz.isAgg168
  z46 := Tryz.sizeOf168
  v46 := Tryz.zeroValue168
  t51 := Tryz.underlying179
  a51 := Tryz.isAgg179
  z51 := Tryz.sizeOf179
  v51 := Tryz.zeroValue179
  t53 := Tryz.underlying171
  a53 := Tryz.isAgg171
  z53 := Tryz.sizeOf171
  v53 := Tryz.zeroValue171
  t171 := Tryz.underlying170
  a171 := Tryz.isAgg170
  z171 := Tryz.sizeOf170
  v171 := Tryz.zeroValue170
  t173 := Tryz.underlying174
  a173 := Tryz.isAgg174
  z173 := Tryz.sizeOf174
  v173 := Tryz.zeroValue174
  t212 := Tryz.underlying185
  a212 := Tryz.isAgg185
  z212 := Tryz.sizeOf185
  v212 := Tryz.zeroValue185
  t213 := Tryz.underlying186
  a213 := Tryz.isAgg186
  z213 := Tryz.sizeOf186
  t232 := Tryz.underlying199
  a232 := Tryz.isAgg199
  z232 := Tryz.sizeOf199
  v232 := Tryz.zeroValue199
  t233 := Tryz.underlying200
  a233 := Tryz.isAgg200
  z233 := Tryz.sizeOf200
  v233 := Tryz.zeroValue200
  g17 := by kernel_rfl
  g18 := by kernel_rfl
  g19 := by kernel_rfl }
theorem Itoa_ok (w:World) (n:Nat) (h:n < 10):Does Tryz.prog 131 [.int .i64 (n:Int)] w (Ret w (str [dig n])):=by
 unfold Does
 refine Calls.mono (show Calls Tryz.prog 131 _ w _ from Go.Proofs.Any.strconv_Itoa_small Tryz.laysItoa n Ka w) ?_
 rintro e w' ⟨he,rfl⟩
 refine ⟨_,he,?_,Ext.refl _⟩
 rw [decDigits_small h]
theorem Tj (w:World) (n:Nat) (hn:n < 10):Does Tryz.prog 64 [.int .i64 (n:Int)] w (Ret w (str [dig n])):=by
 refine Vh Tryz.func64 Z Tryz.results64 Tryz.ntmps64 Z ?_
 focus
  refine Zp<|Yj Z<|Zn<|Zq<|Zp<|Zu Z<|Vi Z<|Zn<|Zs Z (fun h1=>?_) (fun h1=>?_);refine Zp<|Zu Z<|Wo Z (opv_max Z Z)<|Vr Z<|Wo Z (opv_conv_u8 Gd Jw Z Ka) ?_;refine Ye (ps:=[(0,.int _ _)]) (cs:=[_]) Z Gl Ga Tryz.zeroValue5 Z Z Z Z ?_;rintro b1 w1 hb1 E1 hB1 hHb1;refine Wo Z (Td Gl Jw Kr Z Kd) ?_;refine Yj Z<|Zn<|Zy ?_;refine Ve (v:=.string _) Z ?_;refine ⟨congrArg str ?_,E1⟩;rotate_left;(exfalso;omega)
 have e:(48+max (n:Int) 0).toNat=48+n:=Ka
 rw [e];rfl
theorem l1Cut_ok (w:World) (s:List UInt8) (c:UInt8) (hs:s.length≤1048576):Does Tryz.prog 70 [str s,.int .u8 (c.toNat:Int)] w (RetO w XS (cutB c s)):=by
 refine Vh Tryz.func70 Z Tryz.results70 Tryz.ntmps70 Z ?_
 focus
  refine Zp<|Ys Z<|Zn<|Zp<|Yz XStr Z el34 Ku ?_;rintro b1 w1 hb1 b1lt E1 hO1;refine Ys Z<|Zn<|Zp<|Vg Z<|Zn<|Zq<|Zp<|Vg Z<|Zn<|Zw ?_
 refine Vy [5,6,7,9,10,11,12,13,14,15,16,17,18,19,20,21,22,23,24,25,26,27,28] (fun ((k,f,u,ps):Nat × Nat × Value × List (List UInt8))=>[(7,.int .i64 (k:Nat)),(6,.int .i64 (f:Nat)),(5,u)]) (fun (k,f,u,ps) w'=>Ext w w'∧k≤s.length∧f≤k∧ps.length≤k∧Owned w.heap.size XS w' u ps∧cutB c (s.take k)=ps++[(s.drop f).take (k - f)]) (fun x=>s.length - x.1) (0,0,.slice (some ⟨b1,0,none⟩) 0 0,[]) Kg ?_ ?_
 ·exact ⟨Kd,Nat.zero_le _,Nat.le_refl _,Nat.zero_le _,hO1,by simp [cutB]⟩
 rintro ⟨k,f,u,ps⟩ ρj w2 ⟨E2,hk,hf,hpl,hO2,hc⟩
 have hst:=fun hk'=>cut_step (s:=c) (l:=s) hk' hf hc
 focus
  have szE2:=E2.size;refine Zq<|Zp<|Zu Z<|Vo Z<|Wo Z (Yc Kr Z)<|Vi Z<|Zn<|Zs Z (fun h1=>?_) (fun h1=>?_);refine Zv<|Zq<|Zw<|Zq<|Vf<|Vo Z<|Zu Z<|Wo Z (Vl Kr Z Z Ka) ?_;refine Zu Z<|Vm Z<|Zn<|Zs Z (fun h2=>?_) (fun h2=>?_);refine Zp<|Vb u Z<|Vo Z<|Zu Z<|Zu Z<|Wo Z (Tb Kr Z Z Z Ka) ?_;refine Xm (ps:=[(0,.string _)]) (cs:=[_]) Z Jd Ku Zj Z Z Z Z ?_;rintro b2 w3 hb2 E3 hB1;have hs2:=E3.size
  refine Xh Z el34 Z Z hB1 (hO2.toB.ext E3) (Owned.str Kf) (Nat.le_refl _) Kf Ka Ka (E2.trans E3) Ka ?_;have hT1:=(hO2.toB.ext E3);rintro v1 w4 hO2 E4 M1;have hB1:=hB1.moves M1 hT1 Ka;have hs3:=E4.size;refine Yr v1 Z<|Zn<|Vf<|Zu Z<|Vr Z<|Vg Z<|Zn<|Vf<|Zu Z<|Vr Z<|Vg Z<|Zn ?_;rotate_left;refine Zv<|Vf<|Zu Z<|Vr Z<|Vg Z<|Zn ?_;rotate_left;refine Vw ?_;refine Vd ?_;refine Zp<|Vb u Z<|Vo Z<|Zu Z<|Wo Z (Yt Kr Z Z Ka) ?_;refine Xm (ps:=[(0,.string _)]) (cs:=[_]) Z Jd Ku Zj Z Z Z Z ?_;rintro b2 w3 hb2 E3 hB1;have hs2:=E3.size
  refine Xh Z el34 Z Z hB1 (hO2.toB.ext E3) (Owned.str Kf) (Nat.le_refl _) Kf Ka Ka (E2.trans E3) Ka ?_;rintro v1 w4 hO2 E4 M1;refine Wo Z (Xi (v:=v1) Z)<|Zn<|Zy ?_;refine ⟨E4,(congrArg (Owned _ _ _ _) ?_).mp (hO2.toB.o.mono Ka)⟩;rotate_left
 ·refine ⟨((k+1,k+1,v1,ps++[(s.drop f).take (k - f)])),Kg,Kh,?_,?_⟩
  ·rw [Ya Ka] at h2
   exact ⟨Kd,Ka,Ka,by simp;omega,hO2,(hst Ka).1 (UInt8.toNat_inj.1 Ka)⟩
  ·simp only;omega
 ·refine ⟨((k+1,f,u,ps)),Kg,Kh,?_,?_⟩
  ·rw [Ya Ka] at h2
   exact ⟨Kd,Ka,Ka,Ka,hO2,(hst Ka).2 (fun e=>h2 (by rw [e]))⟩
  ·simp only;omega
 ·obtain rfl:k=s.length:=by omega
  rw [List.take_length] at hc
  rw [hc,List.take_of_length_le Ki]
theorem txj_len {p:List (List Int)} (hp:Pic p) (k:Nat):(joinB 47 ((p.map txR).take k)).length≤200:=by
 have h:=txt_len hp.gr
 rw [txt,← List.take_append_drop k (p.map txR)] at h
 refine Nat.le_trans ?_ h
 cases h1:(p.map txR).take k with
 | nil=>simp [joinB]
 | cons x xs=>simp [joinB]
theorem tx_step {p:List (List Int)} (hp:Pic p) {k:Nat} (hk:k < p.length):joinB 47 ((p.map txR).take (k+1))=(if k=0 then [] else joinB 47 ((p.map txR).take k)++[47])++((List.range p.length).filter fun i=>decide (p[k].getD i 0=1)).map dig:=by
 have hr:=(hp.2.2 _ (List.getElem_mem hk)).1
 have e:txR p[k]=((List.range p.length).filter fun i=>decide (p[k].getD i 0=1)).map dig:=by rw [txR,arrR,hr]
 rw [List.take_succ_eq_append_getElem (by simpa using hk),List.getElem_map,← e]
 by_cases h0:k=0
 ·subst h0;rw [if_pos rfl];simp [joinB]
 ·rw [if_neg h0,joinB_snoc (by intro h;have:=congrArg List.length h;rw [List.length_take,List.length_map,List.length_nil] at this;omega)];simp
theorem Uk (w:World) (v:Value) (p:List (List Int)) (h:ESl Ints w v p):Does Tryz.prog 62 [v] w (Ret w (str (if Pic p then txt p else []))):=by
 have hle:=h.le
 refine Vh Tryz.func62 Z Tryz.results62 Tryz.ntmps62 Z ?_
 by_cases hp:Pic p
 ·have hpo : ∀ (w:World) (v:Value),ESl Ints w v p→Does Tryz.prog 115 [v] w (Ret w (.bool true)):=fun w v h=>by
   have:=Ue w v p h
   rwa [decide_eq_true hp] at this
  rw [if_pos hp]
  have hp1:=hp.1
  have hp5:=hp.2.1
  focus
   refine Zp<|Yj Z<|Zn<|Zp<|Yj Z<|Zn<|Zq<|Zp<|Vg Z<|Zn<|Zw ?_
  refine Vy [3,4,5,6,7,8,9,10,11,12,13,14,15,16,17,18,19,20,21,22,23,24,25,26,27,28,29,30,31,32,33,34,35,36,37] (fun (k:Nat)=>[(4,.int .i64 (k:Nat)),(3,str (joinB 47 ((p.map txR).take k)))]) (fun k w'=>Ext w w'∧k≤p.length) (fun k=>p.length - k) 0 Kg ?_ ?_
  ·exact ⟨Ext.refl _,Nat.zero_le _⟩
  rintro k ρj w1 ⟨E1,hk⟩
  have hl1:=txj_len hp k
  by_cases hlt:k < p.length
  ·have hr:=hp.2.2 _ (List.getElem_mem hlt)
   have hrl : ∀ j,((List.range j).filter fun i=>decide (p[k].getD i 0=1)).length≤j:=fun j=>Nat.le_trans (List.length_filter_le _ _) Ki
   focus
    refine Zq<|Zp<|Zu Z<|Vb v Z<|Vk Kp Z h<|Vi Z<|Yf Z (fun h1=>?_) (fun h1=>?_);refine Vb v Z<|Zr Z (Vx (a:=v) Jr Z) (hpo _ _ ((Mono.mono E1 h))) ?_;rintro _ w2 ⟨rfl,E2⟩;refine Yq Z<|Zn<|Vv Z ?_;refine Zv<|Zq<|Zw<|Zq<|Zp<|Zu Z<|Qe Z<|Zn<|Zs Z (fun h2=>?_) (fun h2=>?_);refine Vf<|Vo Z<|Wo Z (Xw Z Z (by simp <;> omega)) ?_;refine Yj Z<|Zn<|Zp<|Vg Z<|Zn<|Zw ?_;rotate_left;refine Zv<|Zp<|Vg Z<|Zn<|Zw ?_;rotate_left;(exfalso;omega)
   ·have hk0:0 < k:=by omega
    refine Vy [3,5,20,21,22,23,24,25,26,27,28,29,30,31,32,33,34,35,36,37] (fun ((j,t):Nat × List UInt8)=>[(5,.int .i64 (j:Nat)),(3,str t)]) (fun (j,t) w'=>Ext w w'∧j≤p.length∧t=(joinB 47 ((p.map txR).take k)++[47])++((List.range j).filter fun i=>decide (p[k].getD i 0=1)).map dig) (fun x=>p.length - x.1) (0,(joinB 47 ((p.map txR).take k)++[47])) Kg ?_ ?_
    ·exact ⟨E1.trans E2,Nat.zero_le _,Ki⟩
    rintro ⟨j,t⟩ ρj w3 ⟨E3,hj,ht⟩
    have hjl:=hrl j
    have htl:t.length≤300:=by rw [ht];simp only [List.length_append,List.length_map,List.length_cons,List.length_nil];omega
    have hfs:=Xq (fun j=>decide (p[k].getD j 0=1)) j
    focus
     refine Zq<|Zp<|Zu Z<|Vb v Z<|Vk Kp Z h<|Vi Z<|Zn<|Zs Z (fun h3=>?_) (fun h3=>?_);refine Zv<|Zq<|Zw<|Zq<|Vf<|Vb v Z<|Zu Z<|Yb Kp Kt Kz Z (fun _=>Z) Z h E3 Z Kf ?_;rintro _ u1 hu1;refine Zu Z<|Yb Kn Kl Km Z (fun _=>Z) Z hu1 E3 Z Kf ?_;rintro _ _ rfl;refine Vm Z<|Zn<|Zs Z (fun h4=>?_) (fun h4=>?_);refine Vf<|Vo Z<|Zu Z<|Zr Z (Vx (a:=.int _ _) Jo Z) (Tj _ _ Ka) ?_;rintro _ w4 ⟨rfl,E4⟩;refine Wo Z (Xw Z Z (by simp <;> omega)) ?_;refine Yj Z<|Zn<|Vf<|Zu Z<|Vr Z<|Vg Z<|Zn ?_
     rotate_left;refine Zv<|Vf<|Zu Z<|Vr Z<|Vg Z<|Zn ?_;rotate_left;refine Vw ?_;refine Vd ?_;refine Vf<|Zu Z<|Vr Z<|Vg Z<|Zn ?_;rotate_left
    ·refine ⟨((j+1,t++[dig j])),Kg,Kh,?_,?_⟩
     ·refine ⟨E3.trans E4,Ka,?_⟩
      rw [hfs,if_pos (by rw [decide_eq_true_eq,Ya Ka];assumption),ht];simp
     ·simp only;omega
    ·refine ⟨((j+1,t)),Kg,Kh,?_,?_⟩
     ·refine ⟨Kd,Ka,?_⟩
      rw [hfs,if_neg (by rw [decide_eq_true_eq,Ya Ka];assumption),ht];simp
     ·simp only;omega
    ·obtain rfl:j=p.length:=by omega
     have ht2:t=joinB 47 ((p.map txR).take (k+1)):=by
      rw [ht,tx_step hp hlt];rw [if_neg Ka]
     subst ht2
     refine ⟨(k+1),Kg,Kh,?_,?_⟩
     ·exact ⟨Kd,Ka⟩
     ·omega
   ·obtain rfl:k=0:=by omega
    refine Vy [3,5,20,21,22,23,24,25,26,27,28,29,30,31,32,33,34,35,36,37] (fun ((j,t):Nat × List UInt8)=>[(5,.int .i64 (j:Nat)),(3,str t)]) (fun (j,t) w'=>Ext w w'∧j≤p.length∧t=[]++((List.range j).filter fun i=>decide (p[0].getD i 0=1)).map dig) (fun x=>p.length - x.1) (0,[]) Kg ?_ ?_
    ·exact ⟨E1.trans E2,Nat.zero_le _,Ki⟩
    rintro ⟨j,t⟩ ρj w3 ⟨E3,hj,ht⟩
    have hjl:=hrl j
    have htl:t.length≤300:=by rw [ht];simp only [List.length_append,List.length_map,List.length_cons,List.length_nil];omega
    have hfs:=Xq (fun j=>decide (p[0].getD j 0=1)) j
    focus
     refine Zq<|Zp<|Zu Z<|Vb v Z<|Vk Kp Z h<|Vi Z<|Zn<|Zs Z (fun h3=>?_) (fun h3=>?_);refine Zv<|Zq<|Zw<|Zq<|Vf<|Vb v Z<|Zu Z<|Yb Kp Kt Kz Z (fun _=>Z) Z h E3 Z Kf ?_;rintro _ u1 hu1;refine Zu Z<|Yb Kn Kl Km Z (fun _=>Z) Z hu1 E3 Z Kf ?_;rintro _ _ rfl;refine Vm Z<|Zn<|Zs Z (fun h4=>?_) (fun h4=>?_);refine Vf<|Vo Z<|Zu Z<|Zr Z (Vx (a:=.int _ _) Jo Z) (Tj _ _ Ka) ?_;rintro _ w4 ⟨rfl,E4⟩;refine Wo Z (Xw Z Z (by simp <;> omega)) ?_;refine Yj Z<|Zn<|Vf<|Zu Z<|Vr Z<|Vg Z<|Zn ?_
     rotate_left;refine Zv<|Vf<|Zu Z<|Vr Z<|Vg Z<|Zn ?_;rotate_left;refine Vw ?_;refine Vd ?_;refine Vf<|Zu Z<|Vr Z<|Vg Z<|Zn ?_;rotate_left
    ·refine ⟨((j+1,t++[dig j])),Kg,Kh,?_,?_⟩
     ·refine ⟨E3.trans E4,Ka,?_⟩
      rw [hfs,if_pos (by rw [decide_eq_true_eq,Ya Ka];assumption),ht];simp
     ·simp only;omega
    ·refine ⟨((j+1,t)),Kg,Kh,?_,?_⟩
     ·refine ⟨Kd,Ka,?_⟩
      rw [hfs,if_neg (by rw [decide_eq_true_eq,Ya Ka];assumption),ht];simp
     ·simp only;omega
    ·obtain rfl:j=p.length:=by omega
     have ht2:t=joinB 47 ((p.map txR).take (0+1)):=by
      rw [ht,tx_step hp hlt];simp [joinB]
     subst ht2
     refine ⟨(0+1),Kg,Kh,?_,?_⟩
     ·exact ⟨Kd,Ka⟩
     ·omega
  ·obtain rfl:k=p.length:=by omega
   focus
    refine Zq<|Zp<|Zu Z<|Vb v Z<|Vk Kp Z h<|Vi Z<|Uj Z fun h1=>?_;refine Zo Z<|Zo Z<|Vp Z<|Zn<|Zx Z ?_;refine Vw ?_;refine Vd ?_;refine Zp<|Vo Z<|Yj Z<|Zn<|Zy ?_;refine Ve (v:=.string _) Z ?_;refine ⟨congrArg str ?_,E1⟩
   rw [txt,List.take_of_length_le Ki]
 ·have hpo : ∀ (w:World) (v:Value),ESl Ints w v p→Does Tryz.prog 115 [v] w (Ret w (.bool false)):=fun w v h=>by
   have:=Ue w v p h
   rwa [decide_eq_false hp] at this
  rw [if_neg hp]
  focus
   refine Zp<|Yj Z<|Zn<|Zp<|Yj Z<|Zn<|Zq<|Zp<|Vg Z<|Zn<|Zw ?_
  refine Vy [3,4,5,6,7,8,9,10,11,12,13,14,15,16,17,18,19,20,21,22,23,24,25,26,27,28,29,30,31,32,33,34,35,36,37] (fun (_:Unit)=>[(4,.int .i64 0),(3,str [])]) (fun _ w'=>Ext w w') (fun _=>0) () Kg ?_ ?_
  ·exact Ext.refl _
  rintro ⟨⟩ ρj w1 E1
  by_cases h0:0 < p.length
  ·focus
    refine Zq<|Zp<|Zu Z<|Vb v Z<|Vk Kp Z h<|Vi Z<|Yf Z (fun h1=>?_) (fun h1=>?_);refine Vb v Z<|Zr Z (Vx (a:=v) Jr Z) (hpo _ _ ((Mono.mono E1 h))) ?_;rintro _ w2 ⟨rfl,E2⟩;refine Yq Z<|Zn<|Zx Z ?_;refine Vw ?_;refine Vd ?_;refine Zp<|Vo Z<|Yj Z<|Zn<|Zy ?_;exact ⟨rfl,exq⟩;(exfalso;omega)
  ·focus
    refine Zq<|Zp<|Zu Z<|Vb v Z<|Vk Kp Z h<|Vi Z<|Uj Z fun h1=>?_;refine Zo Z<|Zo Z<|Vp Z<|Zn<|Zx Z ?_;refine Vw ?_;refine Vd ?_;refine Zp<|Vo Z<|Yj Z<|Zn<|Zy ?_;exact ⟨rfl,E1⟩
end Go.Proofs.YtbgpppaljpngmaaGreatDoor
set_option linter.unusedVariables false
set_option linter.unusedSimpArgs false
namespace Go.Hs
def rowB (n:Nat) (l:List UInt8):List Int:=(List.range n).map fun i=>if l.any fun c=>decide (c.toNat=48+i) then 1 else 0
def rdM (s:List UInt8):List (List Int):=(cutB 47 s).map (rowB (cutB 47 s).length)
def inR (n:Nat) (l:List UInt8):Prop:=∀ c ∈ l,48≤c.toNat∧c.toNat < 48+n
section
variable {n a:Nat} {l:List UInt8} {r:List Int} {s:List UInt8} {p:List (List Int)}
theorem Tf:(rowB n l).length=n:=by simp [rowB]
theorem rowB_nil:rowB n []=List.replicate n 0:=by
 simp only [rowB,List.any_nil,Bool.false_eq_true,if_false]
 apply List.ext_getElem <;> simp
theorem rowB_get (h:a < n):(rowB n l)[a]'(by rw [Tf];exact h)=if l.any (fun c=>decide (c.toNat=48+a)) then 1 else 0:=by simp [rowB]
theorem rowB_set {c:UInt8} (hc:c.toNat=48+a) (ha:a < n):(rowB n l).set a 1=rowB n (l++[c]):=by
 apply List.ext_getElem
 ·simp [Tf]
 ·intro i h1 h2
  rw [Tf] at h2
  rw [List.getElem_set]
  by_cases e:a=i
  ·subst e
   rw [if_pos rfl,rowB_get h2,if_pos]
   simp [hc]
  ·rw [if_neg e,rowB_get h2,rowB_get h2]
   have:(decide (c.toNat=48+i))=false:=decide_eq_false Ka
   simp [List.any_append,this]
theorem rowB_bits : ∀ x ∈ rowB n l,x=0∨x=1:=by
 intro x hx
 obtain ⟨i,_,rfl⟩:=List.mem_map.1 hx
 split <;> simp
theorem rowB_txR (hl:r.length=n) (hn:n≤100) (h1 : ∀ x ∈ r,x=0∨x=1):rowB n (txR r)=r:=by
 apply List.ext_getElem
 ·rw [Tf,hl]
 ·intro i hi h2
  rw [Tf] at hi
  rw [rowB_get hi]
  have hx:=h1 _ (List.getElem_mem h2)
  by_cases h:r[i]=1
  ·rw [if_pos,h]
   refine List.any_eq_true.2 ⟨dig i,List.mem_map.2 ⟨i,mem_arrR.2 ⟨h2,?_⟩,Z⟩,?_⟩
   ·rw [Ya h2];exact h
   ·rw [decide_eq_true_eq,Rq Ka]
  ·rw [if_neg]
   ·rcases hx with hx | hx
    ·exact hx.symm
    ·exact absurd hx h
   ·intro hany
    obtain ⟨c,hc,hc2⟩:=List.any_eq_true.1 hany
    obtain ⟨j,hj,rfl⟩:=List.mem_map.1 hc
    obtain ⟨hj1,hj2⟩:=mem_arrR.1 hj
    rw [decide_eq_true_eq,Rq Ka] at hc2
    obtain rfl:j=i:=Ka
    rw [Ya h2] at hj2
    exact h hj2
theorem inR_txR (hl:r.length=n) (hn:n≤100):inR n (txR r):=by
 intro c hc
 obtain ⟨j,hj,rfl⟩:=List.mem_map.1 hc
 have:=(mem_arrR.1 hj).1
 rw [Rq Ka];omega
theorem rdM_len:(rdM s).length=(cutB 47 s).length:=by simp [rdM]
theorem rdM_txt (hp:Pic p):rdM (txt p)=p:=by
 have h5:=hp.2.1
 unfold rdM
 rw [cut_txt hp.gr,List.map_map,List.length_map]
 conv=>rhs;rw [← List.map_id p]
 refine List.map_congr_left fun r hr=>?_
 exact rowB_txR (hp.2.2 r hr).1 Ka (hp.2.2 r hr).2
theorem rdM_pic (h:(cutB 47 s).length≤5):Pic (rdM s):=by
 refine ⟨?_,by rw [rdM_len];exact h,?_⟩
 ·rw [rdM_len];have:=List.length_pos_iff.2 (cutB_ne (s:=47) s);omega
 ·intro r hr
  obtain ⟨x,_,rfl⟩:=List.mem_map.1 hr
  exact ⟨by rw [Tf,rdM_len],rowB_bits⟩
theorem rd_yes (hp:Pic (rdM s)) (h:txt (rdM s)=s):rdP s=some (rdM s):=by
 have:=rdP_txt hp
 rwa [h] at this
theorem rd_is (h:rdP s=some p):p=rdM s∧Pic p∧txt p=s∧(∀ x ∈ cutB 47 s,inR (cutB 47 s).length x)∧(cutB 47 s).length=p.length:=by
 obtain ⟨h1,h2⟩:=Sa h
 subst h2
 have h5:=h1.2.1
 refine ⟨(rdM_txt h1).symm,h1,Z,?_,?_⟩
 ·rw [cut_txt h1.gr,List.length_map]
  intro x hx
  obtain ⟨r,hr,rfl⟩:=List.mem_map.1 hx
  exact inR_txR (h1.2.2 r hr).1 Ka
 ·rw [cut_txt h1.gr,List.length_map]
theorem opt_none {α : Type} {o:Option α} (h : ∀ x,o≠some x):o=none:=by
 cases o with
 | none=>rfl
 | some x=>exact absurd rfl (h x)
theorem rd_no1 {x:List UInt8} {c:UInt8} (hx:x ∈ cutB 47 s) (hc:c ∈ x) (h : ¬(48≤c.toNat∧c.toNat < 48+(cutB 47 s).length)):rdP s=none:=opt_none fun p hp=>h ((rd_is hp).2.2.2.1 x hx c hc)
theorem rd_no2 (h : ¬Pic (rdM s)):rdP s=none:=opt_none fun p hp=>h ((rd_is hp).1 ▸ (rd_is hp).2.1)
theorem rd_no3 (h:txt (rdM s)≠s):rdP s=none:=opt_none fun p hp=>h ((rd_is hp).1 ▸ (rd_is hp).2.2.1)
theorem rd_no4 (h:5 < (cutB 47 s).length):rdP s=none:=opt_none fun p hp=>by have:=(rd_is hp).2.2.2.2;have:=(rd_is hp).2.1.2.1;omega
end
end Go.Hs
namespace Go.Proofs.YtbgpppaljpngmaaGreatDoor
open Go.Hs
set_option maxRecDepth 10000
set_option maxHeartbeats 4000000
set_option linter.unusedVariables false
set_option linter.unusedSimpArgs false
theorem Sn (w:World) (v:Value) (p:List (List Int)) (h:ESl Ints w v p) (hp:Pic p):Does Tryz.prog 79 [v] w (Ret w (str (txt p))):=by
 have hle:=h.le
 have hp1:=hp.1
 have hp5:=hp.2.1
 have hal : ∀ k,(arr p k).length≤5:=fun k=>by
  unfold arr
  refine Nat.le_trans (Ng _) ?_
  by_cases hk:k < p.length
  ·rw [Ya hk,hp.row hk];omega
  ·have:p.getD k []=[]:=by simp [List.getD_eq_getElem?_getD,List.getElem?_eq_none (show p.length≤k by omega)]
   rw [this];simp
 have k1 : ∀ (k:Nat),k < p.length→∀ (w:World) (v:Value),ESl Ints w v p→Does Tryz.prog 130 [v,.int .i64 (k:Int)] w (RetO w XI (ints (arr p k))):=fun k hk w v h =>
  Us w v p h (k:Int) Ka (by simp only [Int.toNat_natCast];rw [Ya hk,hp.row hk];omega)
 refine Vh Tryz.func79 Z Tryz.results79 Tryz.ntmps79 Z ?_
 focus
  refine Zp<|Yj Z<|Zn<|Zp<|Yz XStr Z el34 Ku ?_;rintro b1 w1 hb1 b1lt E1 hO1;refine Ys Z<|Zn<|Zq<|Zp<|Vb v Z<|Vk Kp Z h<|Zu Z<|Zn<|Zw ?_
 refine Vy [3,4,5,7,11,12,13,14,15,16,17,18,19,20,21,22,23,24,25,26,27,28,29,30,31] (fun ((k:Nat),u)=>[(11,.int .i64 (k:Nat)),(3,u)]) (fun (k,u) w'=>Ext w w'∧k≤p.length∧Owned w.heap.size XS w' u ((p.take k).map txR)) (fun x=>p.length - x.1) (0,.slice (some ⟨b1,0,none⟩) 0 0) Kg ?_ ?_
 ·exact ⟨Kd,Nat.zero_le _,by simpa using hO1⟩
 clear hO1
 rintro ⟨k,u⟩ ρj w2 ⟨E2,hk,hO2⟩
 have htk:((p.take k).map txR).length=k:=by simp;omega
 by_cases hlt:k < p.length
 ·have k2:=k1 k hlt
  have hil:(ints (arr p k)).length=(arr p k).length:=by simp [ints]
  have hak:=hal k
  have hdl : ∀ (m:Nat) (hm:m < (ints (arr p k)).length),(ints (arr p k))[m]=((arr p k)[m]'Ka:Int):=fun m hm=>by simp [ints]
  have hd5 : ∀ (m:Nat) (hm:m < (arr p k).length),(arr p k)[m] < 10:=fun m hm=>by
   have:=(mem_arrR.1 (List.getElem_mem hm)).1
   rw [Ya hlt,hp.row hlt] at this;omega
  focus
   have szE2:=E2.size;refine Zp<|Vi Z<|Zn<|Zq<|Zs Z (fun h1=>?_) (fun h1=>?_);refine Zv<|Zq<|Zw<|Zp<|Zu Z<|Vg Z<|Zn<|Zq<|Vf<|Yj Z<|Zn<|Zq<|Zp<|Vb v Z<|Zu Z<|Zr Z (Yg (a:=v) (b:=.int _ _) Js Z Z) (k2 _ _ ((Mono.mono E2 h))) ?_;rintro u1 w3 ⟨E3,hO1⟩;have hs2:=E3.size;refine Vk Kn Z (Owned.read hO1)<|Zu Z<|Zn<|Zw ?_;rotate_left;(exfalso;omega)
  refine Vy [5,7,18,19,20,21,22,23,24,25,26] (fun ((m,t):Nat × List UInt8)=>[(18,.int .i64 (m:Nat)),(5,str t)]) (fun (m,t) w'=>Ext w3 w'∧m≤(arr p k).length∧t=((arr p k).take m).map dig) (fun x=>(arr p k).length - x.1) (0,[]) Kg ?_ ?_
  ·exact ⟨Ext.refl _,Nat.zero_le _,Ki⟩
  rintro ⟨m,t⟩ ρk w4 ⟨E4,hm,ht⟩
  have htl:t.length≤5:=by rw [ht];simp;omega
  by_cases hml:m < (arr p k).length
  ·have k3 : ∀ w,Does Tryz.prog 131 [.int .i64 ((ints (arr p k))[m]'Ka)] w (Ret w (str [dig (arr p k)[m]])):=fun w=>by
    rw [hdl m Ka];exact Itoa_ok w _ (hd5 m hml)
   focus
    refine Zp<|Vi Z<|Zn<|Zq<|Zs Z (fun h2=>?_) (fun h2=>?_);refine Zv<|Zq<|Zw<|Zp<|Yb Kn Kl Km Z (fun _=>Z) Z (Owned.read hO1) E4 Z Kf ?_;rintro _ _ rfl;refine Vg Z<|Zn<|Vf<|Vo Z<|Zu Z<|Zr Z (Vx (a:=.int _ _) Gy Z) (k3 _) ?_;rintro _ w5 ⟨rfl,E5⟩;refine Wo Z (Xw Z Z (by simp <;> omega)) ?_;refine Yj Z<|Zn<|Vf<|Vr Z<|Zu Z<|Zn ?_;rotate_left;(exfalso;omega)
   refine ⟨((m+1,t++[dig (arr p k)[m]])),Kg,Kh,?_,?_⟩
   ·refine ⟨by exact E4.trans Kd,Ka,?_⟩
    rw [List.take_succ_eq_append_getElem hml,ht,List.map_append];rfl
   ·simp only;omega
  ·obtain rfl:m=(arr p k).length:=by omega
   have ht2:t=txR p[k]:=by
    rw [ht,List.take_length,txR,arr,Ya hlt]
   clear ht
   subst ht2
   focus
    have szE4:=E4.size;have szE2:=E2.size;refine Zp<|Vi Z<|Zn<|Zq<|Zt Z fun h2=>?_;refine Vw ?_;refine Vd ?_;refine Vf<|Vb u Z<|Vo Z<|Xm (ps:=[(0,.string _)]) (cs:=[_]) Z Jd Ku Zj Z Z Z Z ?_;rintro b2 w5 hb2 E5 hB1;have hs3:=E5.size;refine Xh Z el34 Z Z hB1 (hO2.toB.ext ((E3.trans E4).trans E5)) (Owned.str Kf) (Nat.le_refl _) Kf Ka Ka (((E2.trans E3).trans E4).trans E5) Ka ?_;rintro v1 w6 hO2 E6 M1;refine Wo Z (Xi (v:=v1) Z)<|Zn<|Um Z<|Wo Z (Rw Z Z Ka) ?_;refine Wo Z (Vq (v:=.int _ _) Z)<|Zn ?_
   refine ⟨((k+1,v1)),Kg,Kh,?_,?_⟩
   ·refine ⟨Kd,Ka,?_⟩
    rw [List.take_succ_eq_append_getElem hlt,List.map_append];assumption
   ·simp only;omega
 ·obtain rfl:k=p.length:=by omega
  rw [List.take_length] at hO2
  have k4 : ∀ (w1:World) (v:Value) (lo:Nat),Owned lo XS w1 v (p.map txR)→Does Tryz.prog 132 [v,str [47]] w1 (Ret w1 (str (txt p))):=fun w1 v lo h =>
   Join_ok w1 v _ h (by have:=txt_len hp.gr;unfold txt at this;omega) (by simp;omega)
  have k5:=fun w1 v=>k4 w1 v w.heap.size
  focus
   refine Zp<|Vi Z<|Zn<|Zq<|Zt Z fun h1=>?_;refine Vw ?_;refine Vd ?_;refine Zp<|Vb u Z<|Zr Z (Yg (a:=u) (b:=.string _) Tryz.call132 Z Z) (k5 _ _ (hO2)) ?_;rintro _ w3 ⟨rfl,E3⟩;refine Yj Z<|Zn<|Zy ?_;exact ⟨rfl,exq⟩
def rdS (ps:List (List UInt8)) (k:Nat) (l:List UInt8):List (List Int):=(List.range ps.length).map fun i=>rowB ps.length (if i < k then ps.getD i [] else if i=k then l else [])
theorem rdS_len {ps:List (List UInt8)} {k:Nat} {l:List UInt8} : (rdS ps k l).length=ps.length:=by simp [rdS]
theorem rdS_row {ps:List (List UInt8)} {k:Nat} {l:List UInt8} {i:Nat} (h:i < (rdS ps k l).length):(rdS ps k l)[i].length=ps.length:=by simp [rdS,Tf]
theorem rdS_zero {ps:List (List UInt8)} : rdS ps 0 []=List.replicate ps.length (List.replicate ps.length 0):=by
 have : ∀ i,(if i < 0 then ps.getD i [] else if i=0 then ([]:List UInt8) else [])=[]:=fun i=>by simp
 simp only [rdS,this,rowB_nil]
 apply List.ext_getElem <;> simp
theorem rdS_set {ps:List (List UInt8)} {k a:Nat} {l:List UInt8} {c:UInt8} (hk:k < ps.length) (hc:c.toNat=48+a) (ha:a < ps.length) :
  (rdS ps k l).set k (((rdS ps k l)[k]'(by rw [rdS_len];exact hk)).set a 1)=rdS ps k (l++[c]):=by
 apply List.ext_getElem
 ·simp [rdS_len]
 ·intro i h1 h2
  rw [rdS_len] at h2
  rw [List.getElem_set]
  by_cases e:k=i
  ·subst e
   rw [if_pos rfl]
   simp only [rdS,List.getElem_map,List.getElem_range,Nat.lt_irrefl,if_false,if_true]
   exact rowB_set hc ha
  ·rw [if_neg e]
   simp only [rdS,List.getElem_map,List.getElem_range,if_neg (fun h=>e (Eq.symm h))]
theorem rdS_next {ps:List (List UInt8)} {k:Nat} (hk:k < ps.length):rdS ps k ps[k]=rdS ps (k+1) []:=by
 unfold rdS
 refine List.map_congr_left fun i hi=>?_
 have:(if i < k then ps.getD i [] else if i=k then ps[k] else [])=(if i < k+1 then ps.getD i [] else if i=k+1 then [] else []):=by
  by_cases h1:i < k
  ·rw [if_pos h1,if_pos Ka]
  ·rw [if_neg h1]
   by_cases h2:i=k
   ·subst h2;rw [if_pos rfl,if_pos Ka,Ya hk]
   ·rw [if_neg h2,if_neg Ka];split <;> rfl
 rw [this]
theorem rdS_all {s:List UInt8} : rdS (cutB 47 s) (cutB 47 s).length []=rdM s:=by
 apply List.ext_getElem
 ·rw [rdS_len,rdM_len]
 ·intro i h1 h2
  rw [rdM_len] at h2
  simp only [rdS,rdM,List.getElem_map,List.getElem_range,if_pos h2,Ya h2]
theorem Nf (w:World) (s:List UInt8) (hM:EMx gMx w (.bool true) ()) (hs:s.length≤1048576):Does Tryz.prog 150 [str s] w (RetOB w XR ((rdP s).getD []) (rdP s).isSome):=by
 obtain ⟨ps,hps⟩ : ∃ ps,ps=cutB 47 s:=⟨_,rfl⟩
 have k1:Does Tryz.prog 182 [str s,str [47]] w (RetO w XS ps):=hps ▸ Split_ok w s hM hs
 have hpl:ps.length≤1048577:=by rw [hps,cutB_len];have:=List.count_le_length (a:=(47:UInt8)) (l:=s);omega
 have hp1:1≤ps.length:=by rw [hps,cutB_len];omega
 have hpe : ∀ (k:Nat) (hk:k < ps.length),ps[k].length≤1048576:=fun k hk=>by
  have:ps[k] ∈ cutB 47 s:=hps ▸ List.getElem_mem hk
  have:=Ts s.length s (Nat.le_refl _) _ this;omega
 refine Xp Tryz.func150 Z Tryz.results150 Tryz.ntmps150 Z ?_
 by_cases h5:5 < ps.length
 ·rw [rd_no4 (by rw [← hps];exact h5)]
  focus
   refine Zp<|Ys Z<|Zz Z<|Zn<|Zp<|Vo Z<|Zr Z (Yg (a:=.string _) (b:=.string _) Tryz.call182 Z Z) (k1) ?_;rintro u1 w1 ⟨E1,hO1⟩;refine Yr u1 Z<|Zn<|Zq<|Zp<|Vb u1 Z<|Vk Jd Z (Owned.read hO1)<|Qe Z<|Zn<|Zs Z (fun h1=>?_) (fun h1=>?_);refine Zp<|Ys Z<|Zz Z<|Zn<|Zy ?_;refine Ve (v:=.tuple #[.slice _ _ _,.bool _]) Z ?_;exact ⟨_,rfl,E1,Owned.nil⟩;(exfalso;omega)
 ·have k2 : ∀ w,Does Tryz.prog 183 [.int .i64 (ps.length:Int)] w (RetO w XR (rdS ps 0 [])):=fun w=>by
   rw [rdS_zero];exact Qw w _ Ka
  focus
   refine Zp<|Ys Z<|Zz Z<|Zn<|Zp<|Vo Z<|Zr Z (Yg (a:=.string _) (b:=.string _) Tryz.call182 Z Z) (k1) ?_;rintro u1 w1 ⟨E1,hO1⟩;refine Yr u1 Z<|Zn<|Zq<|Zp<|Vb u1 Z<|Vk Jd Z (Owned.read hO1)<|Qe Z<|Zn<|Zt Z fun h1=>?_;refine Zv<|Zp<|Vb u1 Z<|Vk Jd Z (Owned.read hO1)<|Zr Z (Vx (a:=.int _ _) Gt Z) (k2 _) ?_;rintro u2 w2 ⟨E2,hO2⟩;refine Yr u2 Z<|Zn<|Zq<|Zp<|Vb u1 Z<|Vk Jd Z (Owned.read hO1)<|Zu Z<|Zn<|Zw ?_
  have hz0:(rdS ps 0 []).length=ps.length:=rdS_len
  obtain ⟨ub,uc,rfl,_⟩:=hO2.lit Ka
  rw [hz0] at hO2 ⊢
  refine Vy [2,3,6,7,8,9,20,21,22,23,24,25,26,27,28,29,30,31,32,33,34,35,36,37,38,39,40,41,42,43,44,45,46,47,48,49,50] (fun (k:Nat)=>[(20,.int .i64 (k:Nat))]) (fun k w'=>Ext w1 w'∧k≤ps.length∧Owned w1.heap.size XR w' (.slice (some ⟨ub,0,none⟩) ps.length uc) (rdS ps k [])) (fun k=>ps.length - k) 0 Kg ?_ ?_
  ·exact ⟨Kd,Nat.zero_le _,hO2⟩
  clear hO2
  rintro k ρj w3 ⟨E3,hk,hO3⟩
  by_cases hkl:k < ps.length
  ·have hpk:=hpe k hkl
   focus
    refine Zp<|Vi Z<|Zn<|Zq<|Zs Z (fun h2=>?_) (fun h2=>?_);refine Zv<|Zq<|Zw<|Zp<|Zu Z<|Yb Jd Ku Kv Z (fun _=>Z) Z (Owned.read hO1) E3 Z Kf ?_;rintro _ _ ⟨rfl,-⟩;refine Vg Z<|Yj Z<|Zn<|Zp<|Vo Z<|Wo Z (Yc Kr Z)<|Zu Z<|Zn<|Zw ?_;rotate_left;(exfalso;omega)
   refine Vy [2,3,8,9,27,28,29,30,31,32,33,34,35,36,37,38,39,40,41,42,43,44,45,46,47,48,49] (fun (j:Nat)=>[(27,.int .i64 (j:Nat))]) (fun j w'=>Ext w1 w'∧j≤ps[k].length∧Owned w1.heap.size XR w' (.slice (some ⟨ub,0,none⟩) ps.length uc) (rdS ps k (ps[k].take j))) (fun j=>ps[k].length - j) 0 Kg ?_ ?_
   ·exact ⟨E3,Nat.zero_le _,hO3⟩
   clear hO3
   rintro j ρk w5 ⟨E5,hj,hO5⟩
   by_cases hjl:j < ps[k].length
   ·have hc8:(ps[k].getD j 0).toNat < 256:=UInt8.toNat_lt _
    have hcd:ps[k].getD j 0=ps[k][j]:=Ya hjl
    have hts:ps[k].take (j+1)=ps[k].take j++[ps[k].getD j 0]:=by rw [hcd];exact List.take_succ_eq_append_getElem hjl
    have hmem:ps[k] ∈ cutB 47 s:=hps ▸ List.getElem_mem hkl
    have hnl:(ps.length:Int)=(cutB 47 s).length:=by rw [hps]
    have hml:(rdS ps k (ps[k].take j)).length=ps.length:=rdS_len
    have hmr:(rdS ps k (ps[k].take j))[k].length=ps.length:=rdS_row Ka
    by_cases hr:48≤(ps[k].getD j 0).toNat∧(ps[k].getD j 0).toNat < 48+ps.length
    ·obtain ⟨br,cr,hR,_,_⟩:=hO5.rowAt (i:=k) Ka Ka
     focus
      refine Zp<|Vi Z<|Zn<|Zq<|Zs Z (fun h3=>?_) (fun h3=>?_);refine Zv<|Zq<|Zw<|Zp<|Zu Z<|Vg Z<|Zn<|Zp<|Vo Z<|Zu Z<|Wo Z (Vl Kr Z Z Ka) ?_;refine Wo Z (Rh Jw Gd Z Ka) ?_;refine Qm Z<|Vg Z<|Zn<|Zq<|Zp<|Zu Z<|Vi Z<|Uj Z fun h4=>?_;refine Zu Z<|Vb u1 Z<|Vk Jd Z (Owned.read hO1)<|Qk Z<|Vp Z<|Zn<|Zt Z fun h6=>?_;refine Zv<|Vf<|Up Z<|Zu Z<|Nx Kp Kt Kz Z (fun _=>Z) Z ⟨_,_,Z⟩ Z hR Kf ?_;rintro _;refine Zu Z<|Wo Z (Ur Kn Kl Z Z Ka) ?_
      refine Tr Z Kl Z Z hO5.toB hR Kf Kf ?_;rintro w4 hO5 hR On1 K1 hz1;have E6:=On1.ext1 E5 Ka;refine Zn<|Vf<|Vr Z<|Zu Z<|Zn ?_;rotate_left;(exfalso;omega)
     all_goals refine ⟨j+1,⟨rfl,trivial⟩,Kh,⟨Kd,Ka,(congrArg (Owned _ _ _ _) ?_).mp hO5⟩,Ka⟩
     all_goals (rw [hts];exact rdS_set Ka Ka Ka)
    ·rw [rd_no1 hmem (List.getElem_mem hjl) (fun h=>hr (by rw [hcd];omega))]
     focus
      refine Zp<|Vi Z<|Zn<|Zq<|Zs Z (fun h3=>?_) (fun h3=>?_);refine Zv<|Zq<|Zw<|Zp<|Zu Z<|Vg Z<|Zn<|Zp<|Vo Z<|Zu Z<|Wo Z (Vl Kr Z Z Ka) ?_;refine Wo Z (Rh Jw Gd Z Ka) ?_;refine Qm Z<|Vg Z<|Zn<|Zq<|Zp<|Zu Z<|Vi Z<|Yf Z (fun h4=>?_) (fun h4=>?_);refine Zo Z<|Zo Z<|Zo Z<|Zo Z<|Yq Z<|Zn<|Vv Z ?_;refine Zp<|Ys Z<|Zz Z<|Zn<|Zy ?_;refine Ve (v:=.tuple #[.slice _ _ _,.bool _]) Z ?_;exact ⟨_,rfl,exq,Owned.nil⟩;refine Zu Z<|Vb u1 Z<|Vk Jd Z (Owned.read hO1)<|Qk Z<|Vp Z<|Zn<|Zs Z (fun h6=>?_) (fun h6=>?_)
      refine Zp<|Ys Z<|Zz Z<|Zn<|Zy ?_;refine Ve (v:=.tuple #[.slice _ _ _,.bool _]) Z ?_;exact ⟨_,rfl,exq,Owned.nil⟩;(exfalso;omega);(exfalso;omega)
     all_goals omega
   ·obtain rfl:j=ps[k].length:=by omega
    rw [List.take_length,rdS_next hkl] at hO5
    focus
     refine Zp<|Vi Z<|Zn<|Zq<|Zt Z fun h3=>?_;refine Vw ?_;refine Vd ?_;refine Vf<|Vr Z<|Zu Z<|Zn ?_
    refine ⟨(k+1),Kg,Kh,?_,?_⟩
    ·exact ⟨Kd,Ka,hO5⟩
    ·omega
  ·obtain rfl:k=ps.length:=by omega
   have eM:rdS ps ps.length []=rdM s:=by rw [hps];exact rdS_all
   rw [eM] at hO3
   have hP:Pic (rdM s):=rdM_pic (by rw [← hps];omega)
   have hml:(rdM s).length=ps.length:=by rw [hps];exact rdM_len
   clear k1 k2
   have k3 : ∀ w v,ESl Ints w v (rdM s)→Does Tryz.prog 79 [v] w (Ret w (str (txt (rdM s)))):=fun w v h=>Sn w v _ h hP
   by_cases hT:txt (rdM s)=s
   ·rw [rd_yes hP hT]
    rw [hT] at k3
    focus
     have szE1:=E1.size;refine Zp<|Vi Z<|Zn<|Zq<|Zt Z fun h2=>?_;refine Vw ?_;refine Vd ?_;refine Zq<|Zp<|Up Z<|Zr Z (Vx (a:=.slice _ _ _) Tryz.call79 Z) (k3 _ _ ((Owned.read hO3))) ?_;rintro _ w4 ⟨rfl,E4⟩;refine Vo Z<|Wo Z (Xb Z Z)<|Zn<|Uv Z fun h3=>?_;refine Zv<|Zp<|Up Z<|Ys Z<|Zz Z<|Zn<|Zy ?_;refine Ve (v:=.tuple #[.slice _ _ _,.bool _]) Z ?_;exact ⟨_,rfl,exq,(hO3.toB.ext E4).o.mono Ka⟩
   ·rw [rd_no3 hT]
    focus
     refine Zp<|Vi Z<|Zn<|Zq<|Zt Z fun h2=>?_;refine Vw ?_;refine Vd ?_;refine Zq<|Zp<|Up Z<|Zr Z (Vx (a:=.slice _ _ _) Tryz.call79 Z) (k3 _ _ ((Owned.read hO3))) ?_;rintro _ w4 ⟨rfl,E4⟩;refine Vo Z<|Wo Z (Xb Z Z)<|Zn<|Vz Z (fun h3=>?_) (fun h3=>?_);refine Zp<|Ys Z<|Zz Z<|Zn<|Zy ?_;refine Ve (v:=.tuple #[.slice _ _ _,.bool _]) Z ?_;exact ⟨_,rfl,exq,Owned.nil⟩;contradiction
end Go.Proofs.YtbgpppaljpngmaaGreatDoor
set_option linter.unusedVariables false
namespace Go.Hs
section
variable {P:Program} {w:World}
theorem fn_of_W0 {f:FuncId} {fn:Func} {c:Code} {args:List Value} {S:Value→World→Prop} (hf:P.funcs[f]? = some fn) (hb:fn.body=some c)
  (hr:fn.results=#[]) {n:Nat} (hn:fn.ntmps=n) (hl:Nat.ble args.length n=true)
  (h:W P n c (fun ρ w'=>S (.tuple #[]) w') (fun _ _ _=>False) (fun ρ w'=>S (.tuple #[]) w') (envOf args) w):Does P f args w S:=by
 subst hn
 unfold Does
 refine calls_of_wp hf hb (Go.wp_mono (show c.wp P _ _ w from by unfold W at h;exact h _ (Rep.start args _ hl)) fun e a w q=>?_)
 cases e with
 | normal =>
   obtain ⟨ρ, h1, h2⟩ := q
   exact ⟨h1.defers, _, by rw [results_none hr], _, rfl, h2⟩
 | ret =>
   obtain ⟨ρ, h1, h2⟩ := q
   exact ⟨h1.defers, _, by rw [results_none hr], _, rfl, h2⟩
 | exit i=>obtain ⟨ρ,h1,h2⟩:=q;exact h2.elim
 | goto l=>exact q.elim
 | panic ch=>exact q.elim
 | outgrown=>exact q.elim
end
def Fr (fp:List Nat) (w w':World):Prop:=w.heap.size≤w'.heap.size∧∀ k,k ∉ fp→k < w.heap.size→w'.heap[k]? = w.heap[k]?
def Sp {α : Type} (fp:List Nat) (E:World→Value→α→Prop) (w:World) (v:Value) (x : α):Prop:=∀ w1,Fr fp w w1→E w1 v x
section
variable {α : Type} {E:World→Value→α→Prop} {fp fq:List Nat} {w w' w'':World} {v:Value} {x : α}
theorem Fr.refl:Fr fp w w:=⟨Nat.le_refl _,fun _ _ _=>rfl⟩
theorem Fr.trans (h:Fr fp w w') (k:Fr fq w' w''):Fr (fp++fq) w w'':=⟨Nat.le_trans h.1 k.1,fun i h1 h2=>by
 rw [List.mem_append,not_or] at h1
 exact (k.2 i h1.2 (Nat.lt_of_lt_of_le h2 h.1)).trans (h.2 i h1.1 h2)⟩
theorem Fr.mono (h:Fr fp w w') (hs : ∀ k ∈ fp,k < w.heap.size→k ∈ fq):Fr fq w w':=⟨h.1,fun k h1 h2=>h.2 k (fun hk=>h1 (hs k hk h2)) h2⟩
theorem Ext.fr (h:Ext w w'):Fr fp w w':=⟨h.size,fun k _ h2=>h.block k h2⟩
theorem Fr.wrote {b:Nat} (K : ∀ k,k≠b→w'.heap[k]? = w.heap[k]?) (hz:w'.heap.size=w.heap.size):Fr [b] w w':=⟨Ka,fun k h1 _=>K k (fun e=>h1 (by simp [e]))⟩
theorem Fr.moves {u u':Value} (m:Moves w u w' u'):Fr u.ownBlock.toList w w':=⟨m.1.size,fun k h1 h2=>m.1.block k h2 (fun e=>h1 (by rw [← e];simp))⟩
def OwS {β : Type} (lo:Nat) (fp:List Nat) (X:World→List Nat→Value→β→Prop) (w:World) (v:Value) (x : β):Prop:=∃ f,f.Nodup∧(∀ k ∈ f,lo≤k∧k ∉ fp)∧X w f v x
theorem OwS.read {β : Type} {lo:Nat} {X:World→List Nat→Value→β→Prop} {y : β} {F:World→Value→β→Prop} [Loc X] [Shows X F] (h:OwS lo fp X w v y):F w v y:=by
 obtain ⟨f,_,_,h⟩:=h
 exact Shows.shows h
theorem OwS.o {β : Type} {lo:Nat} {X:World→List Nat→Value→β→Prop} {y : β} (h:OwS lo fp X w v y):Owned lo X w v y:=by
 obtain ⟨f,h1,h2,h3⟩:=h
 exact ⟨f,h1,fun k hk=>(h2 k hk).1,h3⟩
theorem OwS.ofB {β : Type} {lo lo' hi:Nat} {X:World→List Nat→Value→β→Prop} {y : β} (h:OwnedB lo' hi X w v y) (hl:lo≤lo') (hf : ∀ k ∈ fp,k < lo'∨hi≤k):OwS lo fp X w v y:=by
 obtain ⟨f,h1,h2,h3⟩:=h
 exact ⟨f,h1,fun k hk=>⟨by have:=h2 k hk;omega,fun hm=>by have:=h2 k hk;have:=hf k hm;omega⟩,h3⟩
theorem OwS.fr {β : Type} {lo:Nat} {X:World→List Nat→Value→β→Prop} {y : β} [Loc X] {fq':List Nat} (h:OwS lo fp X w v y) (k:Fr fq w w') (hq : ∀ i ∈ fq,i < w.heap.size→i ∈ fp) (hn : ∀ i ∈ fq',i < w.heap.size→i ∈ fp):OwS lo fq' X w' v y:=by
 obtain ⟨f,h1,h2,h3⟩:=h
 have hl:=Loc.lt h3
 exact ⟨f,h1,fun i hi=>⟨(h2 i hi).1,fun hm=>(h2 i hi).2 (hn i hm (hl i hi))⟩,Loc.loc (fun i hi=>k.2 i (fun hm=>(h2 i hi).2 (hq i hm (hl i hi))) (hl i hi)) h3⟩
theorem OwnedB.back {β : Type} {lo hi:Nat} {X:World→List Nat→Value→β→Prop} {y : β} [Loc X] (h:OwnedB lo hi X w' v y) (e:Ext w w') (hh:hi≤w.heap.size):OwnedB lo hi X w v y:=by
 obtain ⟨f,h1,h2,h3⟩:=h
 exact ⟨f,h1,h2,Loc.loc (fun k hk=>(e.block k (by have:=h2 k hk;omega)).symm) h3⟩
theorem XI_fr {lo:Nat} {e:TypeId} {xs:List Int} (h:Owned lo (XSl e XInt) w v xs) (k:Fr fp w w') (hn : ∀ i,v.ownBlock=some i→i ∉ fp):Owned lo (XSl e XInt) w' v xs:=by
 have hlt : ∀ i,v.ownBlock=some i→i < w.heap.size:=fun i hi=>(h.lt_own hi).2
 obtain ⟨f,h1,h2,h3⟩:=h
 have hf:=XI_fp h3
 refine ⟨f,h1,h2,Loc.loc (fun i hi=>?_) h3⟩
 rw [hf] at hi
 have hv:v.ownBlock=some i:=by
  cases hb:v.ownBlock with
  | none=>rw [hb] at hi;cases hi
  | some g=>rw [hb] at hi;simp at hi;rw [hi]
 exact k.2 i (hn i hv) (hlt i hv)
end
end Go.Hs
namespace Go.Proofs.YtbgpppaljpngmaaGreatDoor
open Go.Hs
set_option maxRecDepth 10000
set_option maxHeartbeats 4000000
set_option linter.unusedVariables false
set_option linter.unusedSimpArgs false
abbrev plcV (b8 b6 b7 b9:Nat):Value:=.func (.func 185) #[] #[.pointer (some ⟨b8,0,none⟩),.pointer (some ⟨b6,0,none⟩),.pointer (some ⟨b7,0,none⟩),.pointer (some ⟨b9,0,none⟩)]
structure Plc (lo:Nat) (wb w:World) (b8 b6 b7 b9:Nat) (jv bv ov:Value) (best:List (List Int)) (o:List Nat):Prop where
 ext:Ext wb w
 cj:Blk w b6 [jv]
 cf:Blk w b9 [plcV b8 b6 b7 b9]
 cb:Blk w b7 [bv]
 co:Blk w b8 [ov]
 ow:Owned wb.heap.size XI w ov (ints o)
 ne : ∀ k,ov.ownBlock=some k→k≠b6∧k≠b7∧k≠b8∧k≠b9
 sp:OwS lo (b7::b8::ov.ownBlock.toList) XR w bv best
 pic:Pic best
def Nxt (w:World) (ov ov':Value):Prop:=ov'.ownBlock=ov.ownBlock∨∃ g,ov'.ownBlock=some g∧w.heap.size≤g
def RetPl (lo:Nat) (wb w:World) (b8 b6 b7 b9:Nat) (jv ov:Value) (c best:List (List Int)) (o:List Nat):Value→World→Prop:=fun v w'=>v=.tuple #[]∧∃ bv' ov' best',Plc lo wb w' b8 b6 b7 b9 jv bv' ov' best' o∧Srch c o best best'∧Fr (b7::b8::ov.ownBlock.toList) w w'∧Nxt w ov ov'
theorem Plc.moved {lo:Nat} {wb w w':World} {b8 b6 b7 b9:Nat} {jv bv ov:Value} {best:List (List Int)} {o:List Nat} (h:Plc lo wb w b8 b6 b7 b9 jv bv ov best o) (e:Ext w w'):Plc lo wb w' b8 b6 b7 b9 jv bv ov best o :=
 ⟨h.ext.trans e,h.cj.ext e,h.cf.ext e,h.cb.ext e,h.co.ext e,h.ow.ext e,h.ne,h.sp.fr (Ext.fr (fp:=[]) e) (fun i hi=>by cases hi) (fun i hi _=>hi),h.pic⟩
theorem mem_own {k:Nat} {v:Value} (h:k ∈ v.ownBlock.toList):v.ownBlock=some k:=by
 cases hv:v.ownBlock with
 | none=>rw [hv] at h;cases h
 | some g=>rw [hv] at h;simp at h;rw [h]
theorem place_ok (wb:World) (lo:Nat) (hlo:lo≤wb.heap.size) (jv:Value) (c:List (List Int)) (hc:Pic c) (hj:ESl Ints wb jv c) (b8 b6 b7 b9:Nat) (hb6:wb.heap.size≤b6) (hb7:wb.heap.size≤b7) (hb8:wb.heap.size≤b8) (hb9:wb.heap.size≤b9)
  (n67:b6≠b7) (n68:b6≠b8) (n69:b6≠b9) (n78:b7≠b8) (n79:b7≠b9) (n89:b8≠b9) :
  ∀ (n:Nat) (o:List Nat) (w:World) (bv ov:Value) (best:List (List Int)),c.length - o.length=n→Pre c.length o→Plc lo wb w b8 b6 b7 b9 jv bv ov best o →
   Does Tryz.prog 185 [.pointer (some ⟨b8,0,none⟩),.pointer (some ⟨b6,0,none⟩),.pointer (some ⟨b7,0,none⟩),.pointer (some ⟨b9,0,none⟩)] w (RetPl lo wb w b8 b6 b7 b9 jv ov c best o):=by
 have hp5:=hc.2.1
 intro n
 induction n with
 | zero =>
   intro o w bv ov best hn hpre hP
   have hol := hpre.le
   have hop := hpre.pos
   have hil := Yy o
   have hlen : o.length = c.length := Ka
   have hP0 := hP
   obtain ⟨E0, hB6, hB9, hB7, hB8, hO, hne, hsp, hpb⟩ := hP
   obtain ⟨bo, co, rfl, _⟩ := hO.lit Ka
   have hbo := hO.lt_own (k := bo) rfl
   obtain ⟨ne6, ne7, ne8, ne9⟩ := hne bo rfl
   have hbr : ESl Ints w bv best := hsp.read
   have icb : isCell bv = true := by obtain ⟨_, _, rfl, _⟩ := hbr; rfl
   have icj : isCell jv = true := by obtain ⟨_, _, rfl, _⟩ := hj; rfl
   have hrp : Pic (reo c o) := by
     refine ⟨by rw [reo_len]; omega, by rw [reo_len]; omega, fun r hr => ?_⟩
     obtain ⟨i, hi, rfl⟩ := List.mem_map.1 hr
     refine ⟨by rw [reo_len]; simp, fun x hx => ?_⟩
     obtain ⟨j, hj, rfl⟩ := List.mem_map.1 hx
     exact hc.bit01 i j
   have k1 : ∀ (w : World) (v u : Value), ESl Ints w v c → Ints w u (ints o) → Does Tryz.prog 186 [v, u] w (RetO w XR (reo c o)) := fun w v u h h' => reordered_ok w v u c o h h' hc.gr hlen hpre.2.2
   have k2 : ∀ (w : World) (v : Value), ESl Ints w v best → Does Tryz.prog 79 [v] w (Ret w (str (txt best))) := fun w v h => Sn w v best h hpb
   have k3 : ∀ (w : World) (v : Value), ESl Ints w v (reo c o) → Does Tryz.prog 79 [v] w (Ret w (str (txt (reo c o)))) := fun w v h => Sn w v _ h hrp
   refine fn_of_W0 Tryz.func185 Z Tryz.results185 Tryz.ntmps185 Z ?_
   have hR := hO.read
   have hl7 := hB7.lt
   have hl8 := hB8.lt
   have hful := Srch.full (c := c) ⟨hlen, hpre⟩ best
   focus
     have szE0 := E0.size; refine Zq<|Zp<|Ql Kz hB8 Z<|Vk Kn Z hR<|Yu jv Kw hB6 Z<|Vk Kp Z hj<|Vm Z<|Zn<|Zs Z (fun h1 => ?_) (fun h1 => ?_); refine Zq<|Zp<|Yu jv Kw hB6 Z<|Ql Kz hB8 Z<|Zr Z (Yg (a := jv) (b := .slice _ _ _) Tryz.call186 Z Z) (k1 _ _ _ ((Mono.mono E0 hj)) (hR)) ?_; rintro u1 w1 ⟨E1, hO1⟩; have hs1 := E1.size; refine Yr u1 Z<|Zn<|Zq<|Xx Xr Kb Z ?_; refine Qj u1 Z<|Ut Z (fun _ _ => Vx (a := u1) Tryz.call79 Z) (fun w' hw' => (k3 _ _ ((Mono.mono hw' (Owned.read hO1))))) ?_; refine Xs (v := bv) Z (fun w' hw' => Vt Kw Z (((hB7.ext E1).ext hw').cell Z)) ?_
     refine Ut Z (fun _ _ => Vx (a := bv) Tryz.call79 Z) (fun w' hw' => (k2 _ _ ((Mono.mono exq hbr)))) ?_; refine Xs Z (fun _ _ => opv_lss_str Z Z) ?_; refine Xu (fun w2 E2 => ?_); have hs2 := E2.size; refine Xg Z (fun h2 => ?_) (fun h2 => ?_); refine Vf<|Vb u1 Z<|Xk (v := u1) Z Ja Z Z (OwnedB.isC (hO1.toB.ext E2)) (hB7.ext (E1.trans E2)) Ki Ka ((E0.trans E1).trans E2) ?_; rintro w3 E3 hB7 K1 hz1; simp only [List.set] at hB7; have hB6 := (hB6.ext exq).of_heap (K1 _ Ka); have hB9 := (hB9.ext exq).of_heap (K1 _ Ka); have hB8 := (hB8.ext exq).of_heap (K1 _ Ka); have hO1 := (hO1.toB.ext E2).wrote K1 Ka; refine Zn<|Zy ?_; refine Ve (v := .tuple #[]) Z ?_; rotate_left; refine Zv<|Zy ?_; refine Ve (v := .tuple #[]) Z ?_; rotate_left; (exfalso; omega)
   · have hE := (by exact (E1.trans E2) : Ext w w2)
     refine ⟨Z, u1, _, reo c o, ⟨E3, hB6, hB9, hB7, hB8, XI_fr (hO.ext hE) (Fr.wrote K1 hz1) (fun i hi => ?_), hne, OwS.ofB hO1 Ka fun i hi => ?_, hrp⟩, ?_, ((Ext.fr (fp := []) hE).trans (Fr.wrote K1 hz1)).mono (fun i hi _ => by simp at hi; simp [hi]), .inl rfl⟩
     · obtain rfl : bo = i := Option.some.inj hi
       simpa using ne7
     · simp only [List.mem_cons] at hi
       rcases hi with rfl | rfl | hi
       · omega
       · omega
       · have e : bo = i := Option.some.inj (mem_own hi)
         omega
     · rw [lstep, if_pos Kd] at hful; exact hful
   · have hE := (by exact (E1.trans E2) : Ext w w2)
     refine ⟨Z, bv, _, best, hP0.moved hE, ?_, Ext.fr hE, .inl Z⟩
     rw [lstep, if_neg (by simp only [Bool.not_eq_true]; assumption)] at hful; exact hful
 | succ n ih =>
   intro o w bv ov best hn hpre hP
   have hop := hpre.pos
   have hil := Yy o
   have hlt : o.length < c.length := Ka
   have icj : isCell jv = true := by obtain ⟨_, _, rfl, _⟩ := hj; rfl
   have hP0 := hP
   obtain ⟨E0, hB6, hB9, hB7, hB8, hO, hne, hsp, hpb⟩ := hP
   obtain ⟨bo, co, rfl, _⟩ := hO.lit Ka
   have hR := hO.read
   refine fn_of_W0 Tryz.func185 Z Tryz.results185 Tryz.ntmps185 Z ?_
   focus
     refine Zq<|Zp<|Ql Kz hB8 Z<|Vk Kn Z hR<|Yu jv Kw hB6 Z<|Vk Kp Z hj<|Vm Z<|Zn<|Zt Z fun h1 => ?_; refine Zv<|Zp<|Yu jv Kw hB6 Z<|Vk Kp Z hj<|Zu Z<|Zn<|Zw ?_
   clear hB6 hB9 hB7 hB8 hO hsp hR
   refine Vy [5, 22, 23, 24, 25, 26, 27, 28, 29, 30, 31, 32, 33, 34, 35, 36, 37, 38, 39, 40] (fun ((k, ov, bv, bs) : Nat × Value × Value × List (List Int)) => [(22, .int .i64 (k : Nat))]) (fun (k, ov, bv, bs) w' => Plc lo wb w' b8 b6 b7 b9 jv bv ov bs o ∧ k ≤ c.length ∧ SrchK c o k best bs ∧ Fr (b7 :: b8 :: (Value.slice (some ⟨bo, 0, none⟩) (ints o).length co).ownBlock.toList) w w' ∧ Nxt w (Value.slice (some ⟨bo, 0, none⟩) (ints o).length co) ov) (fun x => c.length - x.1) (0, .slice (some ⟨bo, 0, none⟩) (ints o).length co, bv, best) Kg ?_ ?_
   · exact ⟨hP0, Nat.zero_le _, SrchK.zero _, Fr.refl, .inl rfl⟩
   clear E0 hne hpb hP0
   rintro ⟨k, ov, bv, bs⟩ ρj w1 ⟨hP, hk, hS, hF, hN⟩
   have hP0 := hP
   obtain ⟨E0, hB6, hB9, hB7, hB8, hO, hne, hsp, hpb⟩ := hP
   obtain ⟨ba, ca, rfl, _⟩ := hO.lit Ka
   have hba := hO.lt_own (k := ba) rfl
   obtain ⟨ne6, ne7, ne8, ne9⟩ := hne ba rfl
   by_cases hkl : k < c.length
   · by_cases hm : k ∈ o
     · have kc : ∀ (w : World) (v : Value), Ints w v (ints o) → Does Tryz.prog 145 [v, .int .i64 (k : Int)] w (Ret w (.bool true)) := fun w v h => by
         have := Qy w v _ h (k : Int)
         rw [decide_eq_true (mem_ints.2 hm)] at this; exact this
       focus
         refine Zp<|Vi Z<|Zn<|Zq<|Zs Z (fun h2 => ?_) (fun h2 => ?_); refine Zv<|Zq<|Zw<|Zp<|Zu Z<|Vg Z<|Zn<|Zp<|Ql Kz hB8 Z<|Zu Z<|Zr Z (Yg (a := .slice _ _ _) (b := .int _ _) Gk Z Z) (kc _ _ ((Owned.read hO))) ?_; rintro _ w2 ⟨rfl, E1⟩; refine Ym Z<|Zn<|Xa Z fun h3 => ?_; refine Zv<|Vf<|Vr Z<|Zu Z<|Zn ?_; rotate_left; (exfalso; omega)
       refine ⟨((k + 1, .slice (some ⟨ba, 0, none⟩) (ints o).length ca, bv, bs)), Kg, Kh, ?_, ?_⟩
       · exact ⟨hP0.moved (by exact E1), Ka, hS.skip hm, (hF.trans (Ext.fr (fp := []) (by exact E1 : Ext w1 w2))).mono (fun i hi _ => by simpa using hi), hN⟩
       · simp only; omega
     · have kc : ∀ (w : World) (v : Value), Ints w v (ints o) → Does Tryz.prog 145 [v, .int .i64 (k : Int)] w (Ret w (.bool false)) := fun w v h => by
         have := Qy w v _ h (k : Int)
         rw [decide_eq_false (fun h => hm (mem_ints.1 h))] at this; exact this
       have stop9 : True := trivial
       have litown : True := trivial
       have offs : True := trivial
       focus
         have szE0 := E0.size; refine Zp<|Vi Z<|Zn<|Zq<|Zs Z (fun h2 => ?_) (fun h2 => ?_); refine Zv<|Zq<|Zw<|Zp<|Zu Z<|Vg Z<|Zn<|Zp<|Ql Kz hB8 Z<|Zu Z<|Zr Z (Yg (a := .slice _ _ _) (b := .int _ _) Gk Z Z) (kc _ _ ((Owned.read hO))) ?_; rintro _ w2 ⟨rfl, E1⟩; have hs1 := E1.size; refine Ym Z<|Zn<|Xg Z (fun h3 => ?_) (fun h3 => ?_); refine Zp<|Ql Kz (hB8.ext E1) Z<|Zu Z<|Ye (ps := [(0, .int _ _)]) (cs := [_]) Z Kn Kl Jg Z Z Z Z ?_; rintro b1 w3 hb1 E2 hB1 hHb1; have hlb1 := hB1.lt; clear hHb1
         refine Xh Z Ux Z Z hB1 (hO.toB.ext (E1.trans E2)) Owned.int (Nat.le_refl _) Kf Ka Ka ((E0.trans E1).trans E2) Ka ?_; have hT1 := (hO.toB.ext (E1.trans E2)); rintro v1 w4 hO E3 M1; have hB6 := (hB6.ext (E1.trans E2)).movesOff M1 (fun e => by have e' : ba = b6 := Option.some.inj e; omega); have hB9 := (hB9.ext (E1.trans E2)).movesOff M1 (fun e => by have e' : ba = b9 := Option.some.inj e; omega); have hB7 := (hB7.ext (E1.trans E2)).movesOff M1 (fun e => by have e' : ba = b7 := Option.some.inj e; omega); have hB8 := (hB8.ext (E1.trans E2)).movesOff M1 (fun e => by have e' : ba = b8 := Option.some.inj e; omega); have szM1 := M1.1.size; refine Xk (v := v1) Z Kt Z Z (OwnedB.isC hO.toB) hB8 Ki Ka E3 ?_; rintro w5 E4 hB8 K1 hz1; simp only [List.set] at hB8
         have hB6 := hB6.of_heap (K1 _ Ka); have hB9 := hB9.of_heap (K1 _ Ka); have hB7 := hB7.of_heap (K1 _ Ka); refine Zn<|Zq ?_; rotate_left; contradiction; (exfalso; omega)
       clear stop9 litown offs
       have M1' : Moves w3 (.slice (some ⟨ba, 0, none⟩) (ints o).length ca) w4 v1 := M1
       have hl6 := hP0.cj.lt
       have hl7 := hP0.cb.lt
       have hl8 := hP0.co.lt
       have hl9 := hP0.cf.lt
       have hne5 : ∀ i, v1.ownBlock = some i → i ≠ b6 ∧ i ≠ b7 ∧ i ≠ b8 ∧ i ≠ b9 := fun i hi => by
         rcases M1'.2 with h | ⟨g, h, h'⟩
         · rw [hi] at h
           have e : i = ba := Option.some.inj h
           subst e
           exact ⟨ne6, ne7, ne8, ne9⟩
         · rw [hi] at h
           have e : i = g := Option.some.inj h
           omega
       have hFr : Fr ([] ++ [ba] ++ [b8]) w1 w5 := ((Ext.fr (fp := []) (by exact (E1.trans E2) : Ext w1 w3)).trans (Fr.moves M1')).trans (Fr.wrote K1 hz1)
       have hP5 : Plc lo wb w5 b8 b6 b7 b9 jv bv v1 bs (o ++ [k]) := by
         refine ⟨E4, hB6, hB9, hB7, hB8, ?_, hne5, hsp.fr hFr (fun i hi _ => ?_) (fun i hi hl => ?_), hpb⟩
         · rw [ints_append]
           exact XI_fr hO (Fr.wrote K1 hz1) (fun i hi => by have := (hne5 i hi).2.2.1; simpa using this)
         · simp at hi
           rcases hi with rfl | rfl <;> simp [Value.ownBlock]
         · simp only [List.mem_cons] at hi
           rcases hi with rfl | rfl | hi
           · simp
           · simp
           · have hi' := mem_own hi
             rcases M1'.2 with h | ⟨g, h, h'⟩
             · rw [hi'] at h
               have e : i = ba := Option.some.inj h
               rw [e]; simp [Value.ownBlock]
             · rw [hi'] at h
               have e : i = g := Option.some.inj h
               omega
       have kP := ih (o ++ [k]) w5 bv v1 bs (by simp; omega) (hpre.snoc hkl hm) hP5
       focus
         refine Vf<|Yu (.func _ _ _) Tryz.isAgg1 hB9 Z<|Zr Z (opc_val0 Tryz.call185 Z) (kP) ?_
       rintro _ w6 ⟨rfl, bv', ov', bs', hP6, hS6, hF6, hN6⟩
       obtain ⟨E6, hB6, hB9, hB7, hB8, hO6, hne6, hsp6, hpb6⟩ := id hP6
       have hil2 := Yy (o ++ [k])
       rw [List.length_append, List.length_singleton] at hil2
       obtain ⟨bq, cq, rfl, _⟩ := hO6.lit Ka
       have hR6 := hO6.read
       focus
         refine Zn<|Vf<|Ql Kz hB8 Z<|Ql Kz hB8 Z<|Vk Kn Z hR6<|Qm Z<|Wo Z (Sf Kn Kl Z Z Ka) ?_; refine Xk (v := .slice _ _ _) Z Kt Z Z Z hB8 Ki Ka E6 ?_; rintro w7 E5 hB8 K2 hz2; simp only [List.set] at hB8; have hB6 := hB6.of_heap (K2 _ Ka); have hB9 := hB9.of_heap (K2 _ Ka); have hB7 := hB7.of_heap (K2 _ Ka); refine Zn<|Vf<|Vr Z<|Zu Z<|Zn ?_
       have hsw := hF.1
       have hba' : ba = bo ∨ w.heap.size ≤ ba := by
         rcases hN with h | ⟨g, h, h'⟩
         · exact .inl (Option.some.inj h)
         · exact .inr (by have : ba = g := Option.some.inj h; omega)
       have hv1 : ∀ i, v1.ownBlock = some i → i = bo ∨ w.heap.size ≤ i := fun i hi => by
         rcases M1'.2 with h | ⟨g, h, h'⟩
         · rw [hi] at h
           have e : i = ba := Option.some.inj h
           omega
         · rw [hi] at h
           have e : i = g := Option.some.inj h
           right; have := (by exact (E1.trans E2) : Ext w1 w3).size; omega
       have htk : (ints (o ++ [k])).take (((ints (o ++ [k])).length : Int) - 1).toNat = ints o := by
         rw [hil2, ints_append, List.take_left' (by rw [hil]; omega)]
       have hO7 : Owned wb.heap.size XI w6 (.slice (some ⟨bq, 0, none⟩) (((ints (o ++ [k])).length : Int) - 1).toNat cq) (ints o) := by
         have := (hO6.toB.pre (k := (((ints (o ++ [k])).length : Int) - 1).toNat) Ka).o
         rwa [htk] at this
       refine ⟨((k + 1, .slice (some ⟨bq, 0, none⟩) (((ints (o ++ [k])).length : Int) - 1).toNat cq, bv', bs')), Kg, Kh, ?_, ?_⟩
       · refine ⟨⟨E5, hB6, hB9, hB7, hB8, XI_fr hO7 (Fr.wrote K2 hz2) (fun i hi => by have := (hne6 i hi).2.2.1; simpa using this), hne6, hsp6.fr (Fr.wrote K2 hz2) (fun i hi _ => by simp at hi; simp [hi]) (fun i hi _ => hi), hpb6⟩, Ka, hS.step hS6, ?_, ?_⟩
         · refine (((hF.trans hFr).trans hF6).trans (Fr.wrote K2 hz2)).mono fun i hi hl => ?_
           have hbb : i = bo → i ∈ b7 :: b8 :: (Value.slice (some ⟨bo, 0, none⟩) (ints o).length co).ownBlock.toList := fun e => by rw [e]; simp [Value.ownBlock]
           rcases List.mem_append.1 hi with hi | hi
           · rcases List.mem_append.1 hi with hi | hi
             · rcases List.mem_append.1 hi with hi | hi
               · exact hi
               · have h9 : i = ba ∨ i = b8 := by simpa using hi
                 rcases h9 with h9 | h9
                 · rcases hba' with h | h
                   · exact hbb (h9.trans h)
                   · omega
                 · rw [h9]; simp
             · rcases List.mem_cons.1 hi with h9 | hi
               · rw [h9]; simp
               · rcases List.mem_cons.1 hi with h9 | hi
                 · rw [h9]; simp
                 · rcases hv1 i (mem_own hi) with h | h
                   · exact hbb h
                   · omega
           · rw [List.mem_singleton.1 hi]; simp
         · rcases hN6 with h | ⟨g, h, h'⟩
           · have e : v1.ownBlock = some bq := h.symm
             rcases hv1 bq e with h2 | h2
             · exact .inl (by rw [h2]; rfl)
             · exact .inr ⟨bq, rfl, h2⟩
           · have e : bq = g := Option.some.inj h
             exact .inr ⟨bq, rfl, Ka⟩
       · simp only; omega
   · obtain rfl : k = c.length := by omega
     focus
       refine Zp<|Vi Z<|Zn<|Zq<|Zt Z fun h2 => ?_; refine Vw ?_; refine Vd ?_; refine Ve (v := .tuple #[]) Z ?_
     exact ⟨rfl, bv, _, bs, hP0, hS.all hlt, hF, hN⟩
theorem leastOf_ok (w:World) (v:Value) (p:List (List Int)) (h:ESl Ints w v p) (hp:Gr p) (a:Nat) (ha:a < p.length) :
  Does Tryz.prog 153 [v,.int .i64 (a:Int)] w (RetOB w XR (if (lst p a).length≤5 then lst p a else []) (decide ((lst p a).length≤5))):=by
 have k1 : ∀ (w:World) (v:Value),ESl Ints w v p→Does Tryz.prog 184 [v,.int .i64 (a:Int)] w (RetDX w XR (Cand p a)):=fun w v h=>joinedOf_ok w v p h hp a ha
 refine Xp Tryz.func153 Z Tryz.results153 Tryz.ntmps153 Z ?_
 have stop2:True:=trivial
 have litown:True:=trivial
 focus
  refine Zp<|Ys Z<|Zz Z<|Zn<|Zp<|Vb v Z<|Zu Z<|Zr Z (Yg (a:=v) (b:=.int _ _) Tryz.call184 Z Z) (k1 _ _ (h)) ?_;rintro u1 w1 ⟨x1,E1,hO1,hy1⟩;have hs1:=E1.size;refine Tm Z Ge Z ?_;rintro b1 w2 hb1 E2 hB1;have hlb1:=hB1.lt;refine Xk (v:=u1) Z Ja Z Z (OwnedB.isC (hO1.toB.ext E2)) hB1 Kc Ka (E1.trans E2) ?_;rintro w3 E3 hB1 K1 hz1;have E4:=E2.wroteAt exq E3 K1 hz1 Ka;simp only [List.set] at hB1;have hO1:=(hO1.toB.ext E2).wrote K1 Ka;refine Zn<|Zq<|Zq ?_
 clear stop2 litown
 have hlen:=lst_len hp ha hy1
 have rj:=hO1.read
 by_cases h5:(lst p a).length≤5
 ·rw [if_pos h5,decide_eq_true h5]
  have hcp:=hy1.pic hp ha Ka
  have hx1:=hcp.1
  have stop8:True:=trivial
  focus
   have szE1:=E1.size;refine Vf<|Yu u1 Kw hB1 Z<|Vk Kp Z rj<|Qe Z<|Zn<|Zt Z fun h1=>?_;refine Zv<|Zq<|Vf<|Yu u1 Kw hB1 Z<|Tm Z Ge Z ?_;rintro b2 w4 hb2 E5 hB2;have hlb2:=hB2.lt;refine Xk (v:=u1) Z Ja Z Z (OwnedB.isC (hO1.ext E5)) hB2 Kc Ka (E3.trans E5) ?_;rintro w5 E6 hB2 K2 hz2;have E7:=(E4.trans E5).wroteAt exq E6 K2 hz2 Ka;have szE7:=E7.size;have E8:=E5.wroteAt exq E6 K2 hz2 Ka;simp only [List.set] at hB2;have hB1:=(hB1.ext E5).of_heap (K2 _ Ka);have hO1:=(hO1.ext E5).wrote K2 Ka;refine Zn<|Zp<|Ye (ps:=[(0,.int _ _)]) (cs:=[_]) Z Kn Kl Jg Z Z Z Z ?_;rintro b3 w6 hb3 E9 hB3 hHb3
   have hlb3:=hB3.lt;refine Tm Z Jv Z ?_;rintro b4 w7 hb4 E10 hB4;have hlb4:=hB4.lt;refine Xk (v:=.slice _ _ _) Z Kt Z Z Z hB4 Kc Ka ((E6.trans E9).trans E10) ?_;rintro w8 E11 hB4 K3 hz3;have E12:=((E7.trans E9).trans E10).wroteAt exq E11 K3 hz3 Ka;have E15:=E10.wroteAt exq E11 K3 hz3 Ka;simp only [List.set] at hB4;have hB2:=(hB2.ext exq).of_heap (K3 _ Ka);have hB1:=(hB1.ext exq).of_heap (K3 _ Ka);have hO1:=(hO1.ext exq).wrote K3 Ka;refine Zn<|Zp<|Tm Z Tryz.zeroValue1 Z ?_;rintro b5 w9 hb5 E16 hB5;refine Zn<|Zp<|Wo Z (Qg Z Z)<|Xk (v:=.func _ _ _) Z Tryz.sizeOf1 Z Z Z hB5 Kc Ka (E11.trans E16) ?_;rintro w10 E17 hB5 K4 hz4;have E18:=(E12.trans E16).wroteAt exq E17 K4 hz4 Ka
   have E21:=(E15.trans E16).wroteAt exq E17 K4 hz4 Ka;simp only [List.set] at hB5;have hB4:=(hB4.ext E16).of_heap (K4 _ Ka);have hB2:=(hB2.ext E16).of_heap (K4 _ Ka);have hB1:=(hB1.ext E16).of_heap (K4 _ Ka);have hO1:=(hO1.ext E16).wrote K4 Ka;refine Zn<|Zq ?_
  clear stop8
  have hb0:=hO1.back (by exact E18:Ext w1 w10) (Nat.le_refl _)
  have hj:ESl Ints w1 u1 x1:=hb0.read
  have hB5':Blk w10 b5 [plcV b4 b1 b2 b5]:=hB5
  have hord:Owned w1.heap.size XI w10 (.slice (some ⟨b3,0,none⟩) 1 1) (ints [0]):=((own_lit1 hHb3 hb3).ext (by exact E21:Ext w6 w10)).mono Ka
  have hP:Plc w.heap.size w1 w10 b4 b1 b2 b5 u1 u1 (.slice (some ⟨b3,0,none⟩) 1 1) x1 [0]:=⟨by exact E18,hB1,hB5',hB2,hB4,hord,fun k hk=>by
   have e:b3=k:=Option.some.inj hk
   omega,OwS.ofB hO1 (Nat.le_refl _) (fun k hk=>by
    simp only [List.mem_cons] at hk
    rcases hk with rfl | rfl | hk
    ·omega
    ·omega
    ·have e:b3=k:=Option.some.inj (mem_own hk)
     omega),hcp⟩
  have kP:=place_ok w1 w.heap.size Ka u1 x1 hcp hj b4 b1 b2 b5 Ka Ka Ka Ka Ka Ka Ka Ka Ka Ka _ [0] w10 u1 _ x1 rfl ⟨Ki,rfl,fun x hx=>by rw [List.mem_singleton.1 hx];omega⟩ hP
  clear hB5
  focus
   refine Vf<|Yu (.func _ _ _) Tryz.isAgg1 hB5' Z<|Zr Z (opc_val0 Tryz.call185 Z) (kP) ?_
  rintro _ w11 ⟨rfl,bv,ov,bs,hP',hS',hF',hN'⟩
  have hbs:=hS'.lst hp ha hy1
  subst hbs
  obtain ⟨E30,hC6,hC9,hC7,hC8,hCO,hCne,hCsp,hCpb⟩:=id hP'
  have hE:Ext w w11:=E1.trans E30
  have hres:=hCsp.o
  clear hP' hCsp hCO hC8
  focus
   refine Zn<|Zp<|Yu bv Kw hC7 Z<|Yr bv Z<|Zz Z<|Zn<|Zy ?_;refine Ve (v:=.tuple #[bv,.bool _]) Z ?_;exact ⟨_,rfl,hE,hres.toB.o.mono Ka⟩
 ·rw [if_neg h5,decide_eq_false h5]
  focus
   refine Vf<|Yu u1 Kw hB1 Z<|Vk Kp Z rj<|Qe Z<|Zn<|Zs Z (fun h1=>?_) (fun h1=>?_);refine Zp<|Ys Z<|Zz Z<|Zn<|Zy ?_;refine Ve (v:=.tuple #[.slice _ _ _,.bool _]) Z ?_;exact ⟨_,rfl,E3,Owned.nil⟩;(exfalso;omega)
end Go.Proofs.YtbgpppaljpngmaaGreatDoor
set_option linter.unusedVariables false
set_option linter.unusedSimpArgs false
namespace Go.Hs
section
variable {p q g:List (List Int)} {a b n k x:Nat} {L ms ms':List Nat}
theorem put_congr (h : ∀ j,j ∈ ms↔j ∈ ms'):put g ms=put g ms':=by
 unfold put
 congr 1
 congr 1
 refine List.map_congr_left fun j _=>?_
 congr 1
 rw [Bool.eq_iff_iff,List.contains_iff_mem,List.contains_iff_mem,h]
theorem bes_nil:bes p []=p:=by
 unfold bes
 simp
def ro (g:Nat) (ms:List Nat):List Int:=0::(List.range g).map fun j=>b01 (ms.contains j)
theorem ro_len {g:Nat} : (ro g ms).length=g+1:=by simp [ro]
theorem ro_nil {g:Nat} : ro g []=List.replicate (g+1) 0:=by
 unfold ro
 rw [List.replicate_succ]
 congr 1
 apply List.ext_getElem Ki
 intro i h1 h2
 simp [b01]
theorem ro_step {g:Nat} (hx:x < g):(ro g ms).set (x+1) 1=ro g (ms++[x]):=by
 unfold ro
 rw [List.set_cons_succ]
 congr 1
 apply List.ext_getElem Ki
 intro i h1 h2
 have hi:i < g:=by simpa using h2
 rw [List.getElem_set]
 simp only [List.getElem_map,List.getElem_range]
 by_cases e:x=i
 ·subst e
  have:(ms++[x]).contains x=true:=Ki
  rw [if_pos rfl,this];rfl
 ·have:(ms++[x]).contains i=ms.contains i:=by
   rw [Bool.eq_iff_iff];simp;intro h;exact absurd h.symm e
  rw [if_neg e,this]
theorem put_eq:put g ms=ro g.length ms::g.map fun r=>0::r:=rfl
structure Wlk (p:List (List Int)) (L:List Nat):Prop where
 nd:(L.map (knd p)).Nodup
 hd:L.head? = some 0
 rc : ∀ x ∈ L,Rch p 0 x
theorem Wlk.zero:Wlk p [0]:=⟨Ki,rfl,fun x hx=>by rw [List.mem_singleton.1 hx];exact .refl 0⟩
theorem Wlk.step (h:Wlk p L) {x j:Nat} (hx:x ∈ L) (hj:j ∈ arr p x) (hn:knd p j ∉ L.map (knd p)):Wlk p (L++[j]):=by
 refine ⟨?_,?_,fun y hy=>?_⟩
 ·rw [List.map_append,List.nodup_append]
  refine ⟨h.nd,Ki,fun y hy z hz e=>?_⟩
  simp only [List.map_cons,List.map_nil,List.mem_singleton] at hz
  subst hz;subst e;exact hn hy
 ·rw [List.head?_append,h.hd];rfl
 ·rcases List.mem_append.1 hy with hy | hy
  ·exact h.rc y hy
  ·rw [List.mem_singleton.1 hy];exact (h.rc x hx).step hj
theorem Wlk.lt (hp:Gr p) (h:Wlk p L) (hx:x ∈ L):x < p.length:=(h.rc x hx).lt hp hp.1
theorem Wlk.len (hp:Gr p) (h:Wlk p L):L.length≤p.length:=by
 have:=Ta h.nd (n:=p.length) fun j hj=>by
  obtain ⟨y,hy,rfl⟩:=List.mem_map.1 hj
  exact Mi (h.lt hp hy)
 simpa using this
theorem Wlk.kds (hp:Gr p) (h:Wlk p L) (hc : ∀ x ∈ L,∀ j ∈ arr p x,knd p j ∈ L.map (knd p)):Kds p 0 (L.map (knd p)):=by
 have h0:0 ∈ L:=by
  have:=h.hd
  cases L with
  | nil=>cases this
  | cons y l=>simp at this;simp [this]
 have key : ∀ y,Rch p 0 y→y < p.length∧knd p y ∈ L.map (knd p):=by
  intro y hy
  induction hy with
  | refl=>exact ⟨hp.1,List.mem_map.2 ⟨0,h0,rfl⟩⟩
  | step hr hj ih =>
    obtain ⟨hk, hm⟩ := ih
    obtain ⟨x, hx, e⟩ := List.mem_map.1 hm
    have hb := (Rr hp (h.lt hp hx) hk).1 e
    obtain ⟨j', hj', hb'⟩ := hb.snd _ hj
    have hl := Xy hp hk hj
    refine ⟨hl, ?_⟩
    rw [← (Rr hp (Xy hp (h.lt hp hx) hj') hl).2 hb']
    exact hc x hx j' hj'
 refine ⟨h.nd,by rw [List.head?_map,h.hd];rfl,fun x=>⟨fun hx=>?_,?_⟩⟩
 ·obtain ⟨y,hy,rfl⟩:=List.mem_map.1 hx
  exact ⟨y,h.rc y hy,rfl⟩
 ·rintro ⟨y,hy,rfl⟩
  exact (key y hy).2
end
set_option linter.unusedVariables false
set_option linter.unusedSimpArgs false
open Classical
structure Dsk where
 now:List (List Int)
 past:List (List (List Int))
def DkOk (d:Dsk):Prop:=LeastP d.now∧d.past.length≤8∧∀ p ∈ d.past,LeastP p
section
variable {p q:List (List Int)} {a b:Deed} {d e:Dsk} {l l':List Deed}
noncomputable def madeV (p:List (List Int)) (a:Deed):Option (List (List Int)) :=
 if a.kind=0∧a.text=[]∧a.node=0 then pairV p 0 p 0
 else if a.kind=1∧a.node=0 then (rdP a.text).bind fun q=>(pairV q 0 q 0).bind fun s=>togV p 0 s 0
 else if a.kind=2∧a.node=0 then (rdP a.text).bind fun q=>wosV p 0 q 0
 else if a.kind=3∧a.text=[]∧0≤a.node∧a.node < p.length∧bit p 0 a.node.toNat=1 then some (lst p a.node.toNat)
 else none
def last8 (l:List (List (List Int))):List (List (List Int)):=if l.length > 8 then l.drop 1 else l
noncomputable def nextV (p:List (List Int)) (a:Deed):Option (List (List Int)):=match madeV p a with
 | some c=>if c=p then none else some c
 | none=>none
def isBack (d:Dsk) (a:Deed):Prop:=a=⟨4,[],0⟩∧d.past≠[]
noncomputable def doV (d:Dsk) (a:Deed):Dsk × Bool :=
 if isBack d a then (⟨d.past.getLastD [],d.past.dropLast⟩,true)
 else match nextV d.now a with
  | some c=>(⟨c,last8 (d.past++[d.now])⟩,true)
  | none=>(d,false)
theorem madeV_least {c:List (List Int)} (hp:Pic p) (h:madeV p a=some c):LeastP c:=by
 unfold madeV at h
 split at h
 ·exact Me hp hp h
 split at h
 ·simp only [Option.bind_eq_some_iff] at h
  obtain ⟨q,h1,s,h2,h3⟩:=h
  have hq:=(Sa h1).1
  exact togV_some hp (Me hq hq h2).1 h3
 split at h
 ·simp only [Option.bind_eq_some_iff] at h
  obtain ⟨q,h1,h3⟩:=h
  exact wosV_some hp h3
 split at h
 ·rename_i h4
  rw [← Option.some.inj h]
  have h5:a.node.toNat < p.length:=Ka
  exact LeastP.lst hp.gr h5 (Nat.le_trans (lst_le hp.gr h5) hp.2.1)
 ·cases h
theorem nextV_some {c:List (List Int)} (h:nextV p a=some c):madeV p a=some c∧c≠p:=by
 unfold nextV at h
 split at h
 ·rename_i x hx
  split at h
  ·cases h
  ·rename_i hne
   rw [hx,← Option.some.inj h]
   exact ⟨rfl,hne⟩
 ·cases h
theorem last8_len (l:List (List (List Int))) (h:l.length≤9):(last8 l).length≤8:=by
 unfold last8;split
 ·simp;omega
 ·omega
theorem last8_mem {l:List (List (List Int))} (h:p ∈ last8 l):p ∈ l:=by
 unfold last8 at h;split at h
 ·exact List.mem_of_mem_drop h
 ·exact h
theorem doV_ok (h:DkOk d):DkOk (doV d a).1:=by
 unfold doV
 split
 ·rename_i hb
  refine ⟨?_,by simp;have:=h.2.1;omega,fun p hp=>h.2.2 p (List.dropLast_subset _ hp)⟩
  refine h.2.2 _ ?_
  rw [List.getLastD_eq_getLast?,List.getLast?_eq_some_getLast hb.2]
  exact List.getLast_mem hb.2
 ·split
  ·rename_i c hc
   refine ⟨madeV_least h.1.1 (nextV_some hc).1,last8_len _ (by simp;exact h.2.1),fun p hp=>?_⟩
   rcases List.mem_append.1 (last8_mem hp) with hp | hp
   ·exact h.2.2 p hp
   ·simp only [List.mem_singleton] at hp;subst hp;exact h.1
  ·exact h
theorem snoc_ind {α : Type} {P:List α→Prop} (h0:P []) (h : ∀ l a,P l→P (l++[a])) (l:List α):P l:=by
 have : ∀ (n:Nat) (l:List α),l.length=n→P l:=by
  intro n
  induction n with
  | zero=>intro l hl;rw [List.eq_nil_of_length_eq_zero hl];exact h0
  | succ n ih =>
    intro l hl
    have hne : l ≠ [] := by rintro rfl; cases hl
    rw [← List.dropLast_concat_getLast hne]
    exact h _ _ (ih _ (by simp [hl]))
 exact this _ l rfl
end
section
variable {p q g:List (List Int)} {a b n k x:Nat} {ms ms':List Nat}
def og (o:Option (List (List Int))):List (List Int):=o.getD []
theorem putV_og:og (putV g ms)=if (lst (put g ms) 0).length≤5 then lst (put g ms) 0 else []:=by
 unfold putV og;split <;> rfl
theorem putV_is:(putV g ms).isSome=decide ((lst (put g ms) 0).length≤5):=by
 unfold putV;split
 ·rename_i h;simp [h]
 ·rename_i h;simp [h]
theorem putV_congr (h : ∀ j,j ∈ ms↔j ∈ ms'):putV g ms=putV g ms':=by unfold putV;rw [put_congr h]
theorem togV_eq (hp:Gr p) (hq:Gr q) (ha:a < p.length) (hb:b < q.length):togV p a q b=putV (bes p q) (arr p a++(arr q b).map (p.length + ·)):=by
 unfold togV
 refine putV_congr fun j=>?_
 rw [List.mem_append,List.mem_append,arr_bes1 hp ha,arr_bes2 hq hb,List.mem_map]
 exact ⟨fun h=>h.imp id fun ⟨k,h1,h2⟩=>⟨k,h1,h2.symm⟩,fun h=>h.imp id fun ⟨k,h1,h2⟩=>⟨k,h1,h2.symm⟩⟩
theorem wosV_eq:wosV p a q b=putV (bes p []) ((arr p a).filter (fun v=>!decide (Bis p v q b))++([]:List Nat).map (p.length + ·)):=by
 unfold wosV;rw [bes_nil,List.map_nil,List.append_nil]
theorem Mh (hp:Gr p) (ha:a < p.length):(arr p a).length≤p.length:=by
 have h:=Ng (p.getD a [])
 rw [Ya ha,hp.row ha,← Ya (d:=[]) ha] at h
 exact h
end
end Go.Hs
namespace Go.Proofs.YtbgpppaljpngmaaGreatDoor
open Go.Hs
set_option maxRecDepth 10000
set_option maxHeartbeats 4000000
set_option linter.unusedVariables false
set_option linter.unusedSimpArgs false
theorem bes_one {p:List (List Int)} : bes [[0]] p=put p []:=by
 rw [put_eq,ro_nil]
 simp [bes,List.replicate_succ]
theorem Ty (w:World) (v u:Value) (p:List (List Int)) (ms:List Nat) (h:ESl Ints w v p) (hu:Ints w u (ints ms)) (hp:Gr p) (hp10:p.length≤10) (hm : ∀ x ∈ ms,x < p.length) (hml:ms.length≤1000) :
  Does Tryz.prog 199 [v,u] w (RetOB w XR (og (putV p ms)) (putV p ms).isSome):=by
 have hil:=Yy ms
 have k0 : ∀ (w:World),Does Tryz.prog 183 [.int .i64 1] w (RetO w XR [[0]]):=fun w=>Qw w 1 Ka
 have k1 : ∀ (w:World) (t v:Value),ESl Ints w t [[0]]→ESl Ints w v p→Does Tryz.prog 180 [t,v] w (RetO w XR (put p [])):=fun w t v h1 h2=>by
  have:=beside_gr w t v [[0]] p h1 h2 ⟨Kc,Kc,fun r hr=>by
   have:r=[0]:=by simpa using hr
   subst this
   exact ⟨rfl,fun x hx=>by left;simpa using hx⟩⟩ hp (by simp;omega)
  rwa [bes_one] at this
 have hpl : ∀ l,(put p l).length=p.length+1:=fun l=>put_len
 have hpg:=put_gr (g:=p) (ms:=ms) hp hp10
 have k2 : ∀ (w:World) (v:Value),ESl Ints w v (put p ms)→Does Tryz.prog 153 [v,.int .i64 0] w (RetOB w XR (og (putV p ms)) (putV p ms).isSome):=fun w v h=>by
  have:=leastOf_ok w v (put p ms) h hpg 0 (by rw [hpl];omega)
  rwa [← putV_og,← putV_is] at this
 refine Xp Tryz.func199 Z Tryz.results199 Tryz.ntmps199 Z ?_
 have hl0:=hpl []
 have stop2:True:=trivial
 focus
  refine Zp<|Ys Z<|Zz Z<|Zn<|Zp<|Zr Z (Vx (a:=.int _ _) Gt Z) (k0 _) ?_;rintro u1 w1 ⟨E1,hO1⟩;have hs1:=E1.size;refine Vb v Z<|Zr Z (Yg (a:=u1) (b:=v) Tryz.call180 Z Z) (k1 _ _ _ ((Owned.read hO1)) ((Mono.mono E1 h))) ?_;rintro u2 w2 ⟨E2,hO2⟩;refine Yr u2 Z<|Zn<|Zq<|Zq ?_
 clear stop2
 obtain ⟨ub,uc,rfl,_⟩:=hO2.lit Ka
 have hO0:Owned w.heap.size XR w2 (.slice (some ⟨ub,0,none⟩) (put p []).length uc) (put p []):=hO2.mono Ka
 rw [hl0] at hO0 ⊢
 clear hO1 hO2
 focus
  refine Vf<|Vb u Z<|Vk Kn Z hu<|Zu Z<|Zn<|Zw ?_
 refine Vy [8,14,15,16,17,18,19,20,21,22,23,24] (fun ((k,rows):Nat × List (List Int))=>[(14,.int .i64 (k:Nat))]) (fun (k,rows) w'=>Ext w w'∧k≤ms.length∧Owned w.heap.size XR w' (.slice (some ⟨ub,0,none⟩) (p.length+1) uc) rows∧rows=put p (ms.take k)) (fun x=>ms.length - x.1) (0,put p []) Kg ?_ ?_
 ·exact ⟨by exact (E1.trans E2),Nat.zero_le _,by exact hO0,Ki⟩
 clear hO0
 rintro ⟨k,rows⟩ ρj w3 ⟨E3,hk,hO0,hrw⟩
 have hlr:rows.length=p.length+1:=by rw [hrw];exact hpl _
 have hr0:rows[0]'Ka=ro p.length (ms.take k):=by simp only [hrw,put_eq,List.getElem_cons_zero]
 have hr0l:(rows[0]'Ka).length=p.length+1:=by rw [hr0];exact ro_len
 obtain ⟨br,cr,hRw,hbr1,hbr2⟩:=hO0.rowAt (i:=0) Ka Ka
 by_cases hlt:k < ms.length
 ·have hgk:(ints ms)[k]'Ka=(ms[k]:Int):=Xz hlt
  have hmk:=hm ms[k] (List.getElem_mem hlt)
  focus
   refine Zp<|Vi Z<|Zn<|Zq<|Zs Z (fun h1=>?_) (fun h1=>?_);refine Zv<|Zq<|Zw<|Zp<|Yb Kn Kl Km Z (fun _=>Z) Z hu E3 Z Kf ?_;rintro _ _ rfl;refine Vg Z<|Zn<|Vf<|Up Z<|Nx Kp Kt Kz Z (fun _=>Z) Z ⟨_,_,Z⟩ Z hRw Kf ?_;rintro _;refine Zu Z<|Vr Z<|Wo Z (Ur Kn Kl Z Z Ka) ?_;refine Tr Z Kl Z Z hO0.toB hRw Kf Kf ?_;rintro w4 hO0 hRw On1 K1 hz1;have E4:=On1.ext1 E3 Ka;refine Zn<|Vf<|Vr Z<|Zu Z<|Zn ?_;rotate_left;(exfalso;omega)
  refine ⟨((k+1,rows.set 0 (rows[0].set ((ints ms)[k]'Ka+1).toNat 1))),Kg,Kh,?_,?_⟩
  ·refine ⟨by exact E4,Ka,by exact hO0,?_⟩
   rw [hr0,show ((ints ms)[k]'Ka+1).toNat=ms[k]+1 by rw [hgk];omega,ro_step Ka,hrw,put_eq,List.set_cons_zero,put_eq,Yd _ _ hlt]
  ·simp only;omega
 ·obtain rfl:k=ms.length:=by omega
  rw [List.take_length] at hrw
  clear hRw
  subst hrw
  focus
   have szE3:=E3.size;refine Zp<|Vi Z<|Zn<|Zq<|Zt Z fun h1=>?_;refine Vw ?_;refine Vd ?_;refine Zp<|Up Z<|Zr Z (Yg (a:=.slice _ _ _) (b:=.int _ _) Tryz.call153 Z Z) (k2 _ _ ((Owned.read hO0))) ?_;rintro _ w4 ⟨u2,rfl,E4,hO1⟩;refine Un u2 Z<|Xv Z<|Yr u2 Z<|Zz Z<|Zn<|Zy ?_;refine Ve (v:=.tuple #[u2,.bool _]) Z ?_;exact ⟨_,rfl,exq,hO1.toB.o.mono Ka⟩
theorem marks_set {k0:Int} {xs:List Int} {k:Nat} (h:k < xs.length):(marks k0 k++xs.drop k).set k (k0+(k:Int))=marks k0 (k+1)++xs.drop (k+1):=by
 rw [List.set_append_right _ _ (by rw [marks_len];omega),marks_len,Nat.sub_self,List.drop_eq_getElem_cons h,List.set_cons_zero]
 simp [marks,List.range_succ]
theorem markIntS_ok (w:World) {lo hi:Nat} (v:Value) (xs:List Int) (h:OwnedB lo hi XI w v xs) (k0:Int) (hk0:0≤k0∧k0≤1099511627776) (hn:xs.length≤1099511627776) :
  Does Tryz.prog 136 [v,.int .i64 k0] w (RetSO lo hi w (.int .i64 (k0+xs.length)) XI v (marks k0 xs.length)):=by
 by_cases h0:xs=[]
 ·subst h0
  refine Vh Tryz.func136 Z Tryz.results136 Tryz.ntmps136 Z ?_
  focus
   refine Zp<|Vg Z<|Zn<|Zq<|Zp<|Vg Z<|Zn<|Zw ?_
  refine Vy [1,5,6,7,8,9,10,11,12,13,14,15,16,17] (fun (k:Nat)=>[(5,.int .i64 (k:Nat)),(1,.int .i64 k0)]) (fun k w'=>w'=w∧k=0) (fun x=>0) 0 Kg ?_ ?_
  ·exact ⟨rfl,rfl⟩
  rintro k ρj w1 ⟨rfl,rfl⟩
  focus
   refine Zq<|Zp<|Zu Z<|Vb v Z<|Vk Kn Z (OwnedB.read h)<|Vi Z<|Zn<|Vj Z fun h1=>?_;refine Vw ?_;refine Vd ?_;refine Zp<|Zu Z<|Vg Z<|Zn<|Zy ?_;refine Ve (v:=.int _ _) Z ?_
  exact ⟨Ki,Span.refl,h⟩
 obtain ⟨b,c,rfl,hc⟩:=h.o.lit (List.length_pos_iff.2 h0)
 have hb:lo≤b∧b < hi:=by
  obtain ⟨fp,h1,h2,cs,fps,h3,rfl,h5⟩:=h
  exact h2 b (by simp [Value.ownBlock])
 refine Vh Tryz.func136 Z Tryz.results136 Tryz.ntmps136 Z ?_
 focus
  refine Zp<|Vg Z<|Zn<|Zq<|Zp<|Vg Z<|Zn<|Zw ?_
 refine Vy [1,5,6,7,8,9,10,11,12,13,14,15,16,17] (fun (k,m)=>[(5,.int .i64 (k:Nat)),(1,.int .i64 (m:Int))]) (fun (k,m) w'=>Span lo hi w w'∧k≤xs.length∧m=k0+(k:Nat)∧OwnedB lo hi XI w' (.slice (some ⟨b,0,none⟩) xs.length c) (marks k0 k++xs.drop k)) (fun x=>xs.length - x.1) (0,k0) Kg ?_ ?_
 ·exact ⟨Span.refl,Nat.zero_le _,Ki,by simpa [marks] using h⟩
 rintro ⟨k,m⟩ ρj w1 ⟨S1,hk,hm0,hO1⟩
 have hml:(marks k0 k++xs.drop k).length=xs.length:=by simp [marks_len];omega
 have hle:=hO1.len_le
 focus
  refine Zq<|Zp<|Zu Z<|Up Z<|Vk Kn Z (OwnedB.read hO1)<|Vi Z<|Zn<|Zs Z (fun h1=>?_) (fun h1=>?_);refine Zv<|Zq<|Zw<|Zp<|Up Z<|Zu Z<|Zu Z<|Wo Z (Yv Kn Kl Z Z Ka) ?_;refine Nb Z Kl Z Z hO1 Kf Owned.int (Nat.le_refl _) Ka ?_;rintro w2 hO1 On1 K1 hz1;refine Zn<|Vf<|Zu Z<|Vr Z<|Vg Z<|Zn<|Vf<|Zu Z<|Vr Z<|Vg Z<|Zn ?_;rotate_left;refine Vw ?_;refine Vd ?_;refine Zp<|Zu Z<|Vg Z<|Zn<|Zy ?_;refine Ve (v:=.int _ _) Z ?_;rotate_left
 ·refine ⟨((k+1,m+1)),Kg,Kh,?_,?_⟩
  ·refine ⟨S1.trans (Span.only1 Kd hb.1 hb.2),Ka,Ka,?_⟩
   rw [← marks_set Ka]
   rw [← hm0]
   obtain ⟨fp,h1,h2,h3⟩:=hO1
   refine ⟨fp,h1,fun k hk=>⟨h2 k hk,?_⟩,h3⟩
   obtain ⟨cs,fps,h3,rfl,h5⟩:=h3
   have:fps.flatten=[]:=XInt_flat h5
   rw [this] at hk
   simp [Value.ownBlock] at hk
   omega
  ·simp only;omega
 ·obtain rfl:k=xs.length:=by omega
  exact ⟨by rw [hm0],S1,by simpa using hO1⟩
theorem marksS_snoc (k0:Int) (p:List (List Int)) (r:List Int):marksS k0 (p++[r])=marksS k0 p++[marks (k0+total p) r.length]:=by
 induction p generalizing k0 with
 | nil=>simp [marksS,total]
 | cons a p ih=>simp [marksS,total,ih];congr 1;omega
theorem Rk (k0:Int) (p:List (List Int)):(marksS k0 p).length=p.length:=by
 induction p generalizing k0 with
 | nil=>rfl
 | cons a p ih=>simp [marksS,ih]
theorem marksS_set {k0:Int} {p:List (List Int)} {k:Nat} (h:k < p.length):(marksS k0 (p.take k)++p.drop k).set k (marks (k0+total (p.take k)) p[k].length)=marksS k0 (p.take (k+1))++p.drop (k+1):=by
 have hl:(marksS k0 (p.take k)).length=k:=by rw [Rk];simp;omega
 rw [List.set_append_right _ _ Ka,hl,Nat.sub_self,List.drop_eq_getElem_cons h,List.set_cons_zero,Yd _ _ h,marksS_snoc]
 simp
theorem markIntSS_ok (w:World) {lo hi:Nat} (v:Value) (p:List (List Int)) (h:OwnedB lo hi XR w v p) (k0:Int) (hk0:0≤k0∧k0≤1048576) (hn:p.length≤1048576) (ht:total p≤1099511627776 - 1048576) :
  Does Tryz.prog 86 [v,.int .i64 k0] w (RetSO lo hi w (.int .i64 (k0+total p)) XR v (marksS k0 p)):=by
 by_cases h0:p=[]
 ·subst h0
  refine Vh Tryz.func86 Z Tryz.results86 Tryz.ntmps86 Z ?_
  focus
   refine Zp<|Vg Z<|Zn<|Zq<|Zp<|Vg Z<|Zn<|Zw ?_
  refine Vy [1,5,6,7,8,9,10,11,12,13,14,15,16,17] (fun (k:Nat)=>[(5,.int .i64 (k:Nat)),(1,.int .i64 k0)]) (fun k w'=>w'=w∧k=0) (fun x=>0) 0 Kg ?_ ?_
  ·exact ⟨rfl,rfl⟩
  rintro k ρj w1 ⟨rfl,rfl⟩
  focus
   refine Zq<|Zp<|Zu Z<|Vb v Z<|Vk Kp Z (OwnedB.read h)<|Vi Z<|Zn<|Vj Z fun h1=>?_;refine Vw ?_;refine Vd ?_;refine Zp<|Zu Z<|Vg Z<|Zn<|Zy ?_;refine Ve (v:=.int _ _) Z ?_
  exact ⟨by simp [total],Span.refl,h⟩
 obtain ⟨b,c,rfl,hc⟩:=h.o.lit (List.length_pos_iff.2 h0)
 obtain ⟨fp,hnd,hfp,hX⟩:=h
 refine Vh Tryz.func86 Z Tryz.results86 Tryz.ntmps86 Z ?_
 focus
  refine Zp<|Vg Z<|Zn<|Zq<|Zp<|Vg Z<|Zn<|Zw ?_
 refine Vy [1,5,6,7,8,9,10,11,12,13,14,15,16,17] (fun (k,m)=>[(5,.int .i64 (k:Nat)),(1,.int .i64 (m:Int))]) (fun (k,m) w'=>Span lo hi w w'∧k≤p.length∧m=k0+(total (p.take k):Nat)∧XR w' fp (.slice (some ⟨b,0,none⟩) p.length c) (marksS k0 (p.take k)++p.drop k)) (fun x=>p.length - x.1) (0,k0) Kg ?_ ?_
 ·exact ⟨Span.refl,Nat.zero_le _,by simp [total],by simpa [marksS] using hX⟩
 rintro ⟨k,m⟩ ρj w1 ⟨S1,hk,hm0,hX1⟩
 have hml:(marksS k0 (p.take k)++p.drop k).length=p.length:=by simp [Rk];omega
 by_cases hlt:k < p.length
 ·have htk:=total_ge p hlt
  have htl:=Tc p (k+1)
  obtain ⟨b',c',f,u,e,hcell,hXu,hfn,hsub,hback⟩:=hX1.lens hnd (i:=k) Ka
  simp only [Value.slice.injEq,Option.some.injEq,Addr.mk.injEq] at e
  obtain ⟨⟨rfl,_⟩,_,rfl⟩:=e
  have hrow:(marksS k0 (p.take k)++p.drop k)[k]'Ka=p[k]:=by
   rw [List.getElem_append_right (by rw [Rk];simp;omega)]
   simp [Rk,Nat.min_eq_left hk]
  rw [hrow] at hXu
  have hfe:=XI_fp hXu
  have hcall : ∀ w2,w2=w1→Does Tryz.prog 136 [u,.int .i64 m] w2 (RetS lo hi w2 (Value.int .i64) (fun n w'=>n=m+p[k].length∧XR w' fp (.slice (some ⟨b,0,none⟩) p.length c) (marksS k0 (p.take (k+1))++p.drop (k+1)))):=by
   rintro w2 rfl
   obtain ⟨lb,hb,hin,hlo⟩ : ∃ lb hb,(∀ k ∈ f,lb≤k∧k < hb)∧(∀ k,lb≤k→k < hb→k ∈ f):=by
    cases hob:u.ownBlock with
    | none=>rw [hob] at hfe;subst hfe;exact ⟨0,0,Ki,fun k _ h=>Ka⟩
    | some br=>rw [hob] at hfe;subst hfe;exact ⟨br,br+1,Ki,fun k h1 h2=>by simp;omega⟩
   refine (markIntS_ok w2 (lo:=lb) (hi:=hb) u p[k] ⟨f,hfn,hin,hXu⟩ m Ka Ka).mono ?_
   rintro r w3 ⟨rfl,Sp,fp',h1,h2,h3⟩
   have hfe':=XI_fp h3
   have hff:fp'=f:=hfe'.trans hfe.symm
   subst hff
   refine ⟨_,Z,⟨Sp.os,Sp.tape,Sp.output,Sp.size,fun j hj hl=>Sp.block j ?_ hl⟩,Z,?_⟩
   ·rcases Nat.lt_or_ge j lb with h5 | h5
    ·exact .inl h5
    ·right
     rcases Nat.lt_or_ge j hb with h6 | h6
     ·have:=hfp j (hsub j (hlo j h5 h6));omega
     ·exact h6
   ·have:=hback w3 _ (fun j hj hl=>Sp.block j (by
     rcases Nat.lt_or_ge j lb with h5 | h5
     ·exact .inl h5
     ·right
      rcases Nat.lt_or_ge j hb with h6 | h6
      ·exact absurd (hlo j h5 h6) hj
      ·exact h6) hl) h3
    rw [hm0,marksS_set hlt] at this
    exact this
  have hcell':w1.cell? ⟨b,0+k,none⟩=some u:=by rw [Nat.zero_add];exact hcell
  clear hback hX1
  focus
   refine Zq<|Zp<|Zu Z<|Up Z<|Wo Z (Qf Kp Z)<|Vi Z<|Zn<|Zs Z (fun h1=>?_) (fun h1=>?_);refine Zv<|Zq<|Zw<|Vf<|Up Z<|Zu Z<|Wo Z (Yv Kp Kt Z Z Ka) ?_;refine Wo Z (Vt Kz Z Kd) ?_;refine Zu Z<|Zr Z (Yg (a:=u) (b:=.int _ _) Tryz.call136 Z Z) (hcall _ (by rfl)) ?_;rintro _ w2 ⟨y1,rfl,E1,hy1⟩;refine Vg Z<|Zn<|Vf<|Zu Z<|Vr Z<|Vg Z<|Zn ?_;rotate_left;(exfalso;omega)
  refine ⟨((k+1,_)),Kg,Kh,?_,?_⟩
  ·refine ⟨S1.trans Kd,Ka,?_,hy1.2⟩
   rw [hy1.1,hm0,htk];omega
  ·simp only;omega
 ·obtain rfl:k=p.length:=by omega
  focus
   refine Zq<|Zp<|Zu Z<|Up Z<|Wo Z (Qf Kp Z)<|Vi Z<|Zn<|Zt Z fun h1=>?_;refine Vw ?_;refine Vd ?_;refine Zp<|Zu Z<|Vg Z<|Zn<|Zy ?_;refine Ve (v:=.int _ _) Z ?_
  exact ⟨by rw [hm0,List.take_length],S1,fp,hnd,hfp,by simpa using hX1⟩
end Go.Proofs.YtbgpppaljpngmaaGreatDoor
set_option linter.unusedVariables false
namespace Go.Hs
open Go.Lib
variable {P:Program} {n:Nat} {N:Env→World→Prop} {ρ : Env} {w w0:World} {all:Array Oper} {rest:List Oper} {ty t e:TypeId} {pos:String} {after:Array Edge} {g:Option (Nat × Bool)} {x:Operand} {z:Value}
theorem Only.setCells {b:Nat} {fp:List Nat} (hb:b ∈ fp) : ∀ (vs:List Value) (o:Nat) (w:World),Only fp w (w.setCells b o vs)
 | [],_,_=>Only.refl
 | v::vs,o,w=>(Only.setCell (i:=o) (v:=v) hb).trans (Only.setCells hb vs (o+1) _)
theorem size_setCells {b:Nat} : ∀ (vs:List Value) (o:Nat) (w:World),(w.setCells b o vs).heap.size=w.heap.size
 | [],_,_=>rfl
 | v::vs,o,w=>by rw [World.setCells,size_setCells vs];exact size_setCell _ _
theorem heap_setCells {b k:Nat} (hk:k≠b) : ∀ (vs:List Value) (o:Nat) (w:World),(w.setCells b o vs).heap[k]? = w.heap[k]?
 | [],_,_=>rfl
 | v::vs,o,w=>by rw [World.setCells,heap_setCells hk vs];exact Xd v hk
theorem Wo_eff {op : Op} {v : Value} {w' : World} (hw : wantedE all ⟨none, op, ty, pos, after, g⟩ ρ = true) (hv : (execOp (evalE ρ) ⟨none, op, ty, "", #[], none⟩).run P w = .ok (.value v) w') (hk : Wops P n all rest N ρ w') :
  Wops P n all (⟨none,op,ty,pos,after,g⟩::rest) N ρ w:=by
 unfold Wops at hk ⊢
 intro hd hm a ha Q hQ
 refine wpList_step fun K hK=>?_
 rw [Rp ha hd,if_pos hw]
 unfold Oper.wp
 rw [ha.eval]
 have : (execOp (evalE ρ) ⟨none, op, ty, pos, after, g⟩) = (execOp (evalE ρ) ⟨none, op, ty, "", #[], none⟩) := by cases op <;> rfl
 rw [this,hv]
 exact hK _ _ (hk hd (fun o ho=>hm o (List.mem_cons_of_mem _ ho)) _ (ha.put_none v) Q hQ)
theorem Wo_clear {b o m c:Nat} (hw:wantedE all ⟨none,.call { callee:=.builtin .clear,args:=#[x],argTypes:=#[t] },ty,pos,after,g⟩ ρ = true) (ht:P.underlying t=some (.slice e)) (hz : ∀ w,(zeroValue e).run P w=.ok z w) (hz1:z.cells=#[z]) (hz2:isCell z=true) (hx:evalE ρ x=.slice (some ⟨b,o,none⟩) m c)
  (hc : ∀ j,j < m→(w.cell? ⟨b,o+j,none⟩).isSome=true) (hf : ∀ j,j < m→w.frozen? ⟨b,o+j,none⟩=false)
  (hk : ∀ w',Only [b] w w'→(∀ k,k≠b→w'.heap[k]? = w.heap[k]?)→w'.heap.size=w.heap.size→(∀ j,j < o→w'.cell? ⟨b,j,none⟩=w.cell? ⟨b,j,none⟩)→Wops P n all rest N ρ w') :
  Wops P n all (⟨none,.call { callee:=.builtin .clear,args:=#[x],argTypes:=#[t] },ty,pos,after,g⟩::rest) N ρ w:=by
 by_cases hm:0 < m
 ·have:=run_clear_slice (P:=P) w t e ty z ht hz hz1 (oneCell_of hz2) b o m c hm hc hf
  refine Wo_eff (v:=.tuple #[]) (w':=w.setCells b o (List.replicate m z)) hw ?_ (hk _ (Only.setCells Ki _ _ _) (fun k hk=>heap_setCells hk _ _ _) (size_setCells _ _ _) fun j hj=>World.cell?_setCells_out _ _ _ _ _ fun _ _=>.inl hj)
  simp [execOp,resolve,invoke,builtin,hx,this]
 ·obtain rfl:m=0:=by omega
  refine Wo_eff (v:=.tuple #[]) (w':=w) hw ?_ (hk _ Only.refl (fun _ _=>Z) Z fun _ _=>Z)
  simp [execOp,resolve,invoke,builtin,hx,Builtin.clear_,Ug ht]
end Go.Hs
set_option linter.unusedVariables false
set_option linter.unusedSimpArgs false
namespace Go.Hs
def total3:List (List (List Int))→Nat
 | []=>0
 | p::l=>total p+total3 l
def marks3 (k:Int):List (List (List Int))→List (List (List Int))
 | []=>[]
 | p::l=>marksS k p::marks3 (k+(total p:Nat)) l
theorem Sw (k0:Int) (p:List (List (List Int))):(marks3 k0 p).length=p.length:=by
 induction p generalizing k0 with
 | nil=>rfl
 | cons a p ih=>simp [marks3,ih]
theorem marks3_snoc (k0:Int) (p:List (List (List Int))) (r:List (List Int)):marks3 k0 (p++[r])=marks3 k0 p++[marksS (k0+(total3 p:Nat)) r]:=by
 induction p generalizing k0 with
 | nil=>simp [marks3,total3]
 | cons a p ih=>simp [marks3,total3,ih];congr 1;omega
theorem total3_snoc (p:List (List (List Int))) (r:List (List Int)):total3 (p++[r])=total3 p+total r:=by
 induction p with
 | nil=>simp [total3]
 | cons a p ih=>simp [total3,ih];omega
theorem total3_app (p q:List (List (List Int))):total3 (p++q)=total3 p+total3 q:=by
 induction p with
 | nil=>simp [total3]
 | cons a p ih=>simp [total3,ih];omega
theorem Nc (p:List (List (List Int))) (k:Nat):total3 (p.take k)≤total3 p:=by
 conv=>rhs;rw [← List.take_append_drop k p]
 rw [total3_app];omega
theorem total3_ge (p:List (List (List Int))) {k:Nat} (h:k < p.length):total3 (p.take (k+1))=total3 (p.take k)+total p[k]:=by
 rw [Yd _ _ h,total3_snoc]
theorem marks3_set {k0:Int} {p:List (List (List Int))} {k:Nat} (h:k < p.length):(marks3 k0 (p.take k)++p.drop k).set k (marksS (k0+(total3 (p.take k):Nat)) p[k])=marks3 k0 (p.take (k+1))++p.drop (k+1):=by
 have hl:(marks3 k0 (p.take k)).length=k:=by rw [Sw];simp;omega
 rw [List.set_append_right _ _ Ka,hl,Nat.sub_self,List.drop_eq_getElem_cons h,List.set_cons_zero,Yd _ _ h,marks3_snoc]
 simp
theorem marks3_get : ∀ (p:List (List (List Int))) (k0:Int) (i:Nat) (hi:i < p.length),(marks3 k0 p)[i]'(by rw [Sw];exact hi)=marksS (k0+(total3 (p.take i):Nat)) p[i]:=by
 intro p
 induction p with
 | nil=>intro k0 i hi;cases hi
 | cons a p ih =>
   intro k0 i hi
   cases i with
   | zero => simp [marks3, total3]
   | succ i =>
     simp only [marks3, List.getElem_cons_succ, List.take_succ_cons, total3]
     rw [ih _ i (by simpa using hi)]
     congr 1; omega
theorem total_le' (n:Nat) : ∀ (p:List (List Int)),(∀ r ∈ p,r.length≤n)→total p≤p.length*n
 | [],_=>by simp [total]
 | r :: p, h => by
   have h1 := total_le' n p fun q hq => h q (by simp [hq])
   have h2 := h r Ki
   simp only [total, List.length_cons, Nat.succ_mul]; omega
theorem pic_total {p:List (List Int)} (h:Pic p):total p≤25:=by
 have h1:=total_le' 5 p fun r hr=>by rw [(h.2.2 r hr).1];exact h.2.1
 have:=h.2.1
 omega
def RetMF {α : Type} (fp:List Nat) (w:World) (r:Value) (X:World→List Nat→Value→α→Prop) (v:Value) (x : α):Value→World→Prop:=fun u w'=>u=r∧Only fp w w'∧X w' fp v x
def RetDk (w:World) (e0 e1 e2:TypeId) (now:List (List Int)) (past:List (List (List Int))):Value→World→Prop:=fun v w'=>∃ u1 u2 m,v=.agg #[u1,u2]∧Ext w w'∧OwnedB w.heap.size m (XSl e1 (XSl e2 XInt)) w' u1 now∧Owned m (XSl e0 (XSl e1 (XSl e2 XInt))) w' u2 past∧w.heap.size≤m∧m≤w'.heap.size
def RetDkB (w:World) (e0 e1 e2:TypeId) (now:List (List Int)) (past:List (List (List Int))) (b:Bool):Value→World→Prop:=fun v w'=>∃ u1 u2 m,v=.tuple #[.agg #[u1,u2],.bool b]∧Ext w w'∧OwnedB w.heap.size m (XSl e1 (XSl e2 XInt)) w' u1 now∧Owned m (XSl e0 (XSl e1 (XSl e2 XInt))) w' u2 past∧w.heap.size≤m∧m≤w'.heap.size
theorem OwnedB.wide {α : Type} {X:World→List Nat→Value→α→Prop} {w:World} {v:Value} {x : α} {lo hi lo' hi':Nat} (h:OwnedB lo hi X w v x) (h1:lo'≤lo) (h2:hi≤hi'):OwnedB lo' hi' X w v x:=by
 obtain ⟨fp,a,b,c⟩:=h
 exact ⟨fp,a,fun k hk=>by have:=b k hk;omega,c⟩
theorem opv_buildF0 {P:Program} {ρ : Env} {w:World} {ty t:TypeId} {parts:Array (Nat × Operand)} {z1 z2 v:Value} (hF:Flat P t [z1,z2]) (hp:parts.toList.map (fun p=>(p.1,evalE ρ p.2))=[(0,v)]) (h1:isCell v=true) :
  OpV P (.build t parts) ty ρ w (.agg #[v,z2]):=Vs (ps:=[(0,v)]) (cs:=[v,z2]) hF hp (by simp [fillF,h1,show Nat.blt 0 2=true from rfl])
set_option linter.unusedVariables false
set_option linter.unusedSimpArgs false
def RetDkAB (w:World) (now:List (List Int)) (past:List (List (List Int))) (b:Bool):Value→World→Prop:=fun v w'=>∃ u1 u2,v=.tuple #[.agg #[u1,u2],.bool b]∧Ext w w'∧Above w.heap.size (ESl Ints) w' u1 now∧Above w.heap.size (ESl (ESl Ints)) w' u2 past∧isCell u1=true∧isCell u2=true∧w.heap.size < w'.heap.size
section
variable {α : Type} {F:World→Value→α→Prop} {w:World} {b o n c k c':Nat} {xs:List α}
theorem Uu {v:Value} (h:ESl F w v xs):isCell v=true:=by obtain ⟨a,c,rfl,_⟩:=h;rfl
theorem ESl.dropS (h:ESl F w (.slice (some ⟨b,o,none⟩) n c) xs) (hk:k≤n):ESl F w (.slice (some ⟨b,o+k,none⟩) (n - k) c') (xs.drop k):=by
 obtain ⟨a,c1,e1,hle,hr⟩:=h
 injection e1 with e1 e2 e3
 subst e1 e2
 refine ⟨some ⟨b,o+k,none⟩,c',by rw [List.length_drop],by rw [List.length_drop];omega,?_⟩
 rcases hr with rfl | ⟨b',o',e4,hr⟩
 ·exact .inl Ki
 ·injection e4 with e4
  injection e4 with e4 e5 _
  subst e4 e5
  refine .inr ⟨b,o+k,Z,fun i hi=>?_⟩
  rw [List.length_drop] at hi
  obtain ⟨u,h1,h2⟩:=hr (k+i) Ka
  refine ⟨u,?_,?_⟩
  ·rw [show o+k+i=o+(k+i) by omega];exact h1
  ·rw [List.getElem_drop];exact h2
theorem ESl.takeS (h:ESl F w (.slice (some ⟨b,o,none⟩) n c) xs) (hk:k≤n):ESl F w (.slice (some ⟨b,o,none⟩) k c') (xs.take k):=by
 obtain ⟨a,c1,e1,hle,hr⟩:=h
 injection e1 with e1 e2 e3
 subst e1 e2
 refine ⟨some ⟨b,o,none⟩,c',by rw [List.length_take,Nat.min_eq_left hk],by rw [List.length_take];omega,?_⟩
 rcases hr with rfl | ⟨b',o',e4,hr⟩
 ·exact .inl Ki
 ·injection e4 with e4
  injection e4 with e4 e5 _
  subst e4 e5
  refine .inr ⟨b,o,Z,fun i hi=>?_⟩
  rw [List.length_take] at hi
  obtain ⟨u,h1,h2⟩:=hr i Ka
  exact ⟨u,h1,by rw [List.getElem_take];exact h2⟩
end
def XLt {α : Type} (H:Nat) (X:World→List Nat→Value→α→Prop):World→List Nat→Value→α→Prop:=fun w fp v x=>X w fp v x∧∀ k ∈ fp,k < H
instance loc_XLt {α : Type} {H:Nat} {X:World→List Nat→Value→α→Prop} [Loc X]:Loc (XLt H X):=⟨fun hk h=>⟨Loc.loc hk h.1,h.2⟩,fun h=>Loc.lt h.1,fun h=>Loc.cell h.1⟩
instance shows_XLt {α : Type} {H:Nat} {X:World→List Nat→Value→α→Prop} {E:World→Value→α→Prop} [Shows X E]:Shows (XLt H X) E:=⟨fun h=>Shows.shows h.1⟩
theorem XAll.below {α : Type} {H:Nat} {X:World→List Nat→Value→α→Prop} {w:World} : ∀ {fs:List (List Nat)} {cs:List Value} {xs:List α},(∀ k ∈ fs.flatten,k < H)→XAll X w fs cs xs→XAll (XLt H X) w fs cs xs
 | [],[],[],_,_=>trivial
 | f::fs,c::cs,x::xs,hk,h=>⟨⟨h.1,fun k hm=>hk k (by simp [hm])⟩,XAll.below (fun k hm=>hk k (by simp only [List.flatten_cons,List.mem_append];exact .inr hm)) h.2⟩
 | [],_::_,_,_,h=>h.elim
 | [],[],_::_,_,h=>h.elim
 | _::_,[],_,_,h=>h.elim
 | _::_,_::_,[],_,h=>h.elim
theorem XAll.over {α : Type} {H:Nat} {X:World→List Nat→Value→α→Prop} {w:World} : ∀ {fs:List (List Nat)} {cs:List Value} {xs:List α},XAll (XLt H X) w fs cs xs→XAll X w fs cs xs∧∀ k ∈ fs.flatten,k < H
 | [],[],[],_=>⟨trivial,fun _ h=>by cases h⟩
 | f :: fs, c :: cs, x :: xs, h => ⟨⟨h.1.1, (XAll.over h.2).1⟩, fun k hm => by
   simp only [List.flatten_cons, List.mem_append] at hm
   exact hm.elim (h.1.2 k) ((XAll.over h.2).2 k)⟩
 | [],_::_,_,h=>h.elim
 | [],[],_::_,h=>h.elim
 | _::_,[],_,h=>h.elim
 | _::_,_::_,[],h=>h.elim
theorem Owned.wroteLt {α : Type} {H lo b:Nat} {e:TypeId} {X:World→List Nat→Value→α→Prop} [Loc X] {w w':World} {v:Value} {xs:List α} (h:Owned lo (XSl e (XLt H X)) w v xs) (K : ∀ k,lo≤k→k≠b→w'.heap[k]? = w.heap[k]?) (hb:H≤b) (hv:v.ownBlock≠some b):Owned lo (XSl e X) w' v xs:=by
 obtain ⟨fp,h1,h2,cs,fps,h3,rfl,h5⟩:=h
 obtain ⟨h6,h7⟩:=h5.over
 exact ⟨_,h1,h2,cs,fps,Tg (fun k e=>K k (h2 k (by simp [e])) fun e'=>hv (by rw [e,e'])) h3,rfl,h6.loc fun k hk=>K k (h2 k (List.mem_append_right _ hk)) (by have:=h7 k hk;omega)⟩
section
variable {α : Type} {E:World→Value→α→Prop} {X:World→List Nat→Value→α→Prop} {w w' w0:World} {lo hi m b c i:Nat} {v u:Value} {xs ys:List α} {q : α} {e t ty:TypeId}
theorem Above.takeS {F:World→Value→α→Prop} {k n c c' o:Nat} (h:Above lo (ESl F) w (.slice (some ⟨b,o,none⟩) n c) xs) (hk:k≤n):Above lo (ESl F) w (.slice (some ⟨b,o,none⟩) k c') (xs.take k):=fun w1 h1 h2=>(h w1 h1 h2).takeS hk
theorem Above.dropS {F:World→Value→α→Prop} {k n c c' o:Nat} (h:Above lo (ESl F) w (.slice (some ⟨b,o,none⟩) n c) xs) (hk:k≤n):Above lo (ESl F) w (.slice (some ⟨b,o+k,none⟩) (n - k) c') (xs.drop k):=fun w1 h1 h2=>(h w1 h1 h2).dropS hk
theorem Moves.ne {α':Type} {X':World→List Nat→Value→α'→Prop} {xs':List α'} {w1:World} {v':Value} {hi b:Nat} (h:Moves w v w' v') (h1:OwnedB lo hi (XSl e X') w1 v xs') (h2:hi≤b) (h3:b < w.heap.size):v'.ownBlock≠some b:=fun e=>by
 rcases h.2 with h4 | ⟨g,h4,h5⟩
 ·have:=own_rng h1 (h4 ▸ e);omega
 ·rw [h4] at e;cases e;omega
theorem OwnedB.elem [Loc X] {hi':Nat} (h:OwnedB lo hi' (XSl e X) w v xs) (hi:i < xs.length) : ∃ b c u,v=.slice (some ⟨b,0,none⟩) xs.length c∧xs.length≤c∧w.cell? ⟨b,i,none⟩=some u∧OwnedB lo hi' X w u xs[i]∧lo≤b∧b < hi'∧isCell u=true:=by
 obtain ⟨fp,h1,h2,cs,fps,h3,rfl,h5⟩:=h
 obtain ⟨f,u,h6,h7,h8⟩:=h5.at hi
 have hl:=h5.len
 rcases h3.2 with ⟨rfl,h9⟩ | ⟨g,cap,cur,rfl,_,_,hc,_⟩
 ·omega
 have hg:g ∈ (Value.ownBlock (.slice (some ⟨g,0,none⟩) xs.length cap)).toList++fps.flatten:=by simp [Value.ownBlock]
 have hm:f ∈ fps:=List.mem_of_getElem? h6
 have hsub : ∀ k ∈ f,k ∈ fps.flatten:=fun k hk=>List.mem_flatten.2 ⟨f,hm,hk⟩
 have hnd:=(List.nodup_append.1 h1).2.1
 refine ⟨g,cap,u,Z,hc,?_,⟨f,?_,fun k hk=>h2 k (List.mem_append_right _ (hsub k hk)),h8⟩,(h2 g hg).1,(h2 g hg).2,h5.cells u (List.mem_of_getElem? h7)⟩
 ·rw [h3.cellAt i Ka,h7]
 ·exact (List.pairwise_flatten.1 hnd).1 f hm
theorem Owned.appR [Loc X] {P:Program} {z:Value} {i:TypeInfo} (ht:P.underlying t=some (.slice e)) (hi:P.info? e=some i) (hz:i.zero=some z) (hs:i.size=1) (hby:i.bytes≤64) (hz1:isCell z=true)
  {hi':Nat} (h:OwnedB m hi' (XSl e X) w v xs) (a:Addr) (n c:Nat) (news:List Value) (fu:List (List Nat)) (hl:news.length=n) (hnews : ∀ j u,news[j]? = some u→w.cell? (a.add j)=some u)
  (hx:XAll X w fu news ys) (hnd:fu.flatten.Nodup) (hlf : ∀ k ∈ fu.flatten,lo≤k∧k < m)
  (hbig:xs.length+n≤1099511627776) (hlo:lo≤m) (hmh:m≤hi') (hlw:lo≤w.heap.size) :
  ∃ v' w',(Builtin.append_ #[t,t] ty #[v,.slice (some a) n c]).run P w=.ok v' w'∧Owned lo (XSl e (XLt hi' X)) w' v' (xs++ys)∧w.grownBy w' v.ownBlock ∧
   (v'.ownBlock=v.ownBlock∨∃ g,v'.ownBlock=some g∧w.heap.size≤g):=by
 obtain ⟨fp,hn,hB,hX⟩:=h
 have hge : ∀ k ∈ fp,lo≤k:=fun k hk=>Nat.le_trans hlo (hB k hk).1
 have hX':=hX
 have hdis' : ∀ k ∈ fu.flatten,k ∉ fp:=fun k hk hm=>by have:=(hlf k hk).2;have:=(hB k hm).1;omega
 obtain ⟨cs,fps,hr,rfl,hA⟩:=hX
 have hys:=hx.len
 obtain ⟨v',w',h1,h2,h3,h4⟩:=run_app (P:=P) (ty:=ty) ht hi hz hs hby hz1 hr a n c news hl hnews hx.cells Ka (Nat.zero_le _)
 refine ⟨v',w',h1,?_,h3,h4⟩
 have hlt:=Loc.lt hX'
 have hltu:=hx.lt
 have nin : ∀ k ∈ fps.flatten,some k≠v.ownBlock:=by
  intro k hk e
  have h5:=(List.nodup_append.1 hn).2.2
  exact h5 k (by rw [← e];simp) k hk rfl
 have ninu : ∀ k ∈ fu.flatten,some k≠v.ownBlock:=by
  intro k hk e
  exact hdis' k hk (by rw [← e];simp)
 refine ⟨v'.ownBlock.toList++(fps++fu).flatten,?_,?_,cs++news,fps++fu,?_,Z,?_⟩
 ·rw [List.flatten_append]
  rw [List.nodup_append] at hn
  have base:(fps.flatten++fu.flatten).Nodup:=List.nodup_append.2 ⟨hn.2.1,hnd,fun a ha b hb hab=>hdis' b hb (by subst hab;exact List.mem_append_right _ ha)⟩
  rcases h4 with h4 | ⟨g,h4,hg⟩
  ·rw [h4]
   refine List.nodup_append.2 ⟨hn.1,base,fun a ha b hb hab=>?_⟩
   subst hab
   rcases List.mem_append.1 hb with hb | hb
   ·exact hn.2.2 a ha a hb rfl
   ·exact hdis' a hb (List.mem_append_left _ ha)
  ·rw [h4]
   refine List.nodup_append.2 ⟨Ki,base,fun a ha b hb hab=>?_⟩
   subst hab
   simp at ha
   subst ha
   rcases List.mem_append.1 hb with hb | hb
   ·have:=hlt a (List.mem_append_right _ hb);omega
   ·have:=hltu a hb;omega
 ·intro k hk
  rw [List.flatten_append] at hk
  rcases List.mem_append.1 hk with hk | hk
  ·rcases h4 with h4 | ⟨g,h4,hg⟩
   ·rw [h4] at hk;exact hge k (List.mem_append_left _ hk)
   ·rw [h4] at hk;simp at hk;omega
  ·rcases List.mem_append.1 hk with hk | hk
   ·exact hge k (List.mem_append_right _ hk)
   ·exact (hlf k hk).1
 ·have:(xs++ys).length=xs.length+n:=by rw [List.length_append];omega
  rw [this];exact h2
 ·refine XAll.below (fun k hk=>?_) (XAll.append (hA.loc fun k hk=>?_) (hx.loc fun k hk=>?_))
  ·rw [List.flatten_append] at hk
   rcases List.mem_append.1 hk with hk | hk
   ·exact (hB k (List.mem_append_right _ hk)).2
   ·have:=(hlf k hk).2;omega
  ·exact h3.block k (hlt k (List.mem_append_right _ hk)) (nin k hk)
  ·exact h3.block k (hltu k hk) (ninu k hk)
variable {P:Program} {n:Nat} {N:Env→World→Prop} {ρ : Env} {all:Array Oper} {rest:List Oper} {d:Nat} {pos:String} {after:Array Edge} {g:Option (Nat × Bool)} {x s:Operand} {z:Value}
theorem Wo_app1r [Loc X] (hw:wantedE all ⟨some d,.call { callee:=.builtin .append,args:=#[s,x],argTypes:=#[t,t] },ty,pos,after,g⟩ ρ = true) (hel:El P t e z)
  (hv:evalE ρ s=v) (hx:evalE ρ x=.slice (some ⟨b,0,none⟩) 1 c) (hB:Blk w b [u]) {hi:Nat} (h:OwnedB m hi (XSl e X) w v xs) (hu:OwnedB lo m X w u q)
  (hbig:xs.length+1≤1099511627776) (hlo:lo≤m∧m≤hi) (hlw:lo≤w.heap.size) (h0:Ext w0 w) (hl0:w0.heap.size≤lo)
  (hk : ∀ v' w',Owned lo (XSl e (XLt hi X)) w' v' (xs++[q])→Ext w0 w'→Moves w v w' v'→Wops P n all rest N (upd ρ d v') w') :
  Wops P n all (⟨some d,.call { callee:=.builtin .append,args:=#[s,x],argTypes:=#[t,t] },ty,pos,after,g⟩::rest) N ρ w:=by
 obtain ⟨i,hi',hz,hs,hby⟩:=hel.info
 obtain ⟨fu,hn,hge,hX⟩:=hu
 have hcell:w.cell? ⟨b,0,none⟩=some u:=hB.cell rfl
 have h':=h
 obtain ⟨v',w',h1,h2,h3,h4⟩:=Owned.appR (lo:=lo) (P:=P) (ty:=ty) (ys:=[q]) hel.und hi' hz hs hby hel.zero h ⟨b,0,none⟩ 1 c [u] [fu] rfl (fun j u' hj=>by
  cases j with
  | zero=>simp at hj;subst hj;simpa [Addr.add] using hcell
  | succ j=>simp at hj) ⟨hX,trivial⟩ (by simpa using hn) (by simp only [List.flatten_cons,List.flatten_nil,List.append_nil];intro k hk;exact hge k hk) hbig hlo.1 hlo.2 hlw
 refine Nd (v:=v') (w':=w') hw ?_ (hk v' w' h2 ((Only.grownBy (fp:=v.ownBlock.toList) h3 (fun k hk=>by simp [hk])).ext h0 (fun k hk=>?_)) ⟨h3,h4⟩)
 ·simp only [execOp,resolve,invoke,builtin,Sem.run_bind,Sem.run_pure,Result.andThen_ok,List.map_toArray,List.map_cons,List.map_nil,hv,hx,h1]
 ·have:v.ownBlock=some k:=by simpa using hk
  have:=own_rng h' this
  omega
end
def XRd {α : Type} (E:World→Value→α→Prop):World→List Nat→Value→α→Prop:=fun w fp v x=>(∀ w1,(∀ k ∈ fp,w1.heap[k]? = w.heap[k]?)→E w1 v x)∧isCell v=true∧∀ k ∈ fp,k < w.heap.size
instance loc_XRd {α : Type} {E:World→Value→α→Prop} : Loc (XRd E):=⟨fun {w w' fp v x} hk h=>⟨fun w1 h1=>h.1 w1 fun k hm=>(h1 k hm).trans (hk k hm),h.2.1,fun k hm=>by
  have h1:=hk k hm
  have h2:=h.2.2 k hm
  rw [Array.getElem?_eq_getElem h2] at h1
  exact (Array.getElem?_eq_some_iff.1 h1).1⟩,fun h=>h.2.2,fun h=>h.2.1⟩
instance shows_XRd {α : Type} {E:World→Value→α→Prop} : Shows (XRd E) E:=⟨fun h=>h.1 _ fun _ _=>rfl⟩
theorem Above.xrd {α : Type} {E:World→Value→α→Prop} {w:World} {v:Value} {x : α} {lo:Nat} (h:Above lo E w v x) (hl:lo < w.heap.size) (hc:isCell v=true):OwnedB lo w.heap.size (XRd E) w v x:=by
 refine ⟨List.range' lo (w.heap.size - lo),List.nodup_range',fun k hk=>?_,fun w1 h1=>?_,hc,fun k hk=>?_⟩
 ·have:=List.mem_range'_1.1 hk;omega
 ·refine h w1 (fun k h2 h3=>h1 k (List.mem_range'_1.2 Ka)) ?_
  have h2:=h1 (w.heap.size - 1) (List.mem_range'_1.2 Ka)
  rw [Array.getElem?_eq_getElem (show w.heap.size - 1 < w.heap.size by omega)] at h2
  have:=(Array.getElem?_eq_some_iff.1 h2).1
  omega
 ·have:=List.mem_range'_1.1 hk;omega
theorem OwnedB.rd {α : Type} {X:World→List Nat→Value→α→Prop} {E:World→Value→α→Prop} [Loc X] [Shows X E] {w:World} {v:Value} {x : α} {lo hi:Nat} (h:OwnedB lo hi X w v x):OwnedB lo hi (XRd E) w v x:=by
 obtain ⟨fp,h1,h2,h3⟩:=h
 exact ⟨fp,h1,h2,fun w1 hk=>Shows.shows (Loc.loc hk h3),Loc.cell h3,Loc.lt h3⟩
def RetDkRB (w:World) (now:List (List Int)) (past:List (List (List Int))) (b:Bool):Value→World→Prop:=fun v w'=>∃ u1 u2,v=.tuple #[.agg #[u1,u2],.bool b]∧Ext w w'∧OwnedB w.heap.size w'.heap.size (XRd (ESl Ints)) w' u1 now∧OwnedB w.heap.size w'.heap.size (XRd (ESl (ESl Ints))) w' u2 past∧isCell u1=true∧isCell u2=true∧w.heap.size < w'.heap.size
theorem RetDkAB.r {w w':World} {now:List (List Int)} {past:List (List (List Int))} {b:Bool} {v:Value} (h:RetDkAB w now past b v w'):RetDkRB w now past b v w':=by
 obtain ⟨u1,u2,rfl,h1,h2,h3,h4,h5,h6⟩:=h
 exact ⟨u1,u2,rfl,h1,h2.xrd h6 h4,h3.xrd h6 h5,h4,h5,h6⟩
section
variable {P:Program} {n d i b:Nat} {N:Env→World→Prop} {ρ : Env} {w:World} {all:Array Oper} {rest:List Oper} {tl ty:TypeId} {pos:String} {after:Array Edge} {g:Option (Nat × Bool)} {x:Operand} {cs:List Value}
end
section
variable {α : Type} {E:World→Value→α→Prop} {P:Program} {n d b o k len cap:Nat} {N:Env→World→Prop} {ρ : Env} {w:World} {all:Array Oper} {rest:List Oper} {tl ty:TypeId} {pos:String} {after:Array Edge} {g:Option (Nat × Bool)} {x:Operand} {xs:List α}
theorem Uc (hta : ∀ w,(isAgg tl).run P w=.ok false w) (hw:wantedE all ⟨some d,.load tl x,ty,pos,after,g⟩ ρ = true) (hx:evalE ρ x=.pointer (some ⟨b,o+k,none⟩))
  (h:ESl E w (.slice (some ⟨b,o,none⟩) len cap) xs) (hk:k < xs.length) (hn : ∀ u,E w u xs[k]→Wops P n all rest N (upd ρ d u) w) :
  Wops P n all (⟨some d,.load tl x,ty,pos,after,g⟩::rest) N ρ w:=by
 obtain ⟨a,c1,e1,hle,hr⟩:=h
 injection e1 with e1 e2 e3
 subst e1
 rcases hr with rfl | ⟨b',o',e4,hr⟩
 ·cases hk
 ·injection e4 with e4
  injection e4 with e4 e5 _
  subst e4 e5
  obtain ⟨u,h1,h2⟩:=hr k hk
  exact Wo hw (Vt hta hx h1) (hn u h2)
end
theorem XAll.imp {α : Type} {X Y:World→List Nat→Value→α→Prop} {w:World} (hXY : ∀ {f:List Nat} {c:Value} {x : α},X w f c x→Y w f c x) : ∀ {fs:List (List Nat)} {cs:List Value} {xs:List α},XAll X w fs cs xs→XAll Y w fs cs xs
 | [],[],[],_=>trivial
 | f::fs,c::cs,x::xs,h=>⟨hXY h.1,XAll.imp hXY h.2⟩
 | [],_::_,_,h=>h.elim
 | [],[],_::_,h=>h.elim
 | _::_,[],_,h=>h.elim
 | _::_,_::_,[],h=>h.elim
theorem Loc.xrd {α : Type} {X:World→List Nat→Value→α→Prop} {E:World→Value→α→Prop} [Loc X] [Shows X E] {w:World} {f:List Nat} {c:Value} {x : α} (h:X w f c x):XRd E w f c x:=⟨fun w1 hk=>Shows.shows (Loc.loc hk h),Loc.cell h,Loc.lt h⟩
def XDk (e:TypeId):World→List Nat→Value→(Value × List (List Int) × List (List (List Int)))→Prop:=fun w fp v x=>(∀ k ∈ fp,k < w.heap.size) ∧
 ∃ f1 cs fps,(∀ k ∈ v.ownBlock.toList++(f1++fps.flatten),k ∈ fp)∧(∀ k,v.ownBlock=some k→k ∉ f1++fps.flatten)∧XRd (ESl Ints) w f1 x.1 x.2.1∧w.ownsRow 0 e 1 v x.2.2.length cs∧XAll (XRd (ESl Ints)) w fps cs x.2.2
section
variable {e:TypeId} {lo hi:Nat} {w w' w0:World} {v u:Value} {now:List (List Int)} {past:List (List (List Int))}
theorem ownsRow_cell {n size:Nat} {xs:List Value} {base:Nat} (h:w.ownsRow base e size v n xs):isCell v=true:=by
 rcases h.2 with ⟨rfl,_⟩ | ⟨g,cap,cur,rfl,_⟩ <;> rfl
instance loc_XDk:Loc (XDk e):=⟨by
  rintro w w' fp v ⟨u,now,past⟩ hk ⟨h0,f1,cs,fps,h1,h2,h3,h4,h5⟩
  refine ⟨fun k hm=>?_,f1,cs,fps,h1,h2,Loc.loc (fun k hm=>hk k (h1 k (by simp [hm]))) h3,Tg (fun k e=>hk k (h1 k (by simp [e]))) h4,h5.loc (fun k hm=>hk k (h1 k (by simp only [List.mem_append];exact .inr (.inr hm))))⟩
  have a1:=hk k hm
  have a2:=h0 k hm
  rw [Array.getElem?_eq_getElem a2] at a1
  exact (Array.getElem?_eq_some_iff.1 a1).1,fun h=>h.1,by
  rintro w fp v ⟨u,now,past⟩ ⟨h0,f1,cs,fps,h1,h2,h3,h4,h5⟩
  exact ownsRow_cell h4⟩
theorem OwnedB.dkNow (h:OwnedB lo hi (XDk e) w v (u,now,past)):OwnedB lo hi (XRd (ESl Ints)) w u now:=by
 obtain ⟨fp,a1,a2,h0,f1,cs,fps,h1,h2,h3,h4,h5⟩:=h
 exact ⟨fp,a1,a2,fun w1 hk=>h3.1 w1 (fun k hm=>hk k (h1 k (by simp [hm]))),h3.2.1,h0⟩
theorem OwnedB.dkPast (h:OwnedB lo hi (XDk e) w v (u,now,past)):OwnedB lo hi (XRd (ESl (ESl Ints))) w v past:=by
 obtain ⟨fp,a1,a2,h0,f1,cs,fps,h1,h2,h3,h4,h5⟩:=h
 have hx:XSl e (XRd (ESl Ints)) w (v.ownBlock.toList++fps.flatten) v past:=⟨cs,fps,h4,rfl,h5⟩
 have hx':=Loc.xrd hx
 refine ⟨fp,a1,a2,fun w1 hk=>hx'.1 w1 (fun k hm=>hk k (h1 k ?_)),hx'.2.1,h0⟩
 rcases List.mem_append.1 hm with hm | hm
 ·simp [hm]
 ·simp only [List.mem_append];exact .inr (.inr hm)
theorem mkDkB {f1:List Nat} {cs:List Value} {fps:List (List Nat)} (hw:hi≤w.heap.size) (h1 : ∀ k ∈ v.ownBlock.toList++(f1++fps.flatten),lo≤k∧k < hi) (h2 : ∀ k,v.ownBlock=some k→k ∉ f1++fps.flatten)
  (h3:XRd (ESl Ints) w f1 u now) (h4:w.ownsRow 0 e 1 v past.length cs) (h5:XAll (XRd (ESl Ints)) w fps cs past):OwnedB lo hi (XDk e) w v (u,now,past):=by
 refine ⟨List.range' lo (hi - lo),List.nodup_range',fun k hk=>?_,fun k hk=>?_,f1,cs,fps,fun k hk=>?_,h2,h3,h4,h5⟩
 ·have:=List.mem_range'_1.1 hk;omega
 ·have:=List.mem_range'_1.1 hk;omega
 ·have a1:=h1 k hk
  exact List.mem_range'_1.2 Ka
theorem OwnedB.lt_own {α : Type} {X:World→List Nat→Value→α→Prop} {xs:List α} (h:OwnedB lo hi (XSl e X) w v xs) {k:Nat} (hk:v.ownBlock=some k):lo≤k∧k < hi:=by
 obtain ⟨fp,a1,a2,cs,fps,h3,rfl,h5⟩:=h
 exact a2 k (by simp [hk])
theorem OwnedB.backDk {X:World→List Nat→Value→List (List Int)→Prop} [Loc X] [Shows X (ESl Ints)] (h:OwnedB lo hi (XSl e X) w v past) (hp:0 < past.length) (hw:hi≤w.heap.size) :
  ∃ b c ur,v=.slice (some ⟨b,0,none⟩) past.length c∧past.length≤c∧w.cell? ⟨b,past.length - 1,none⟩=some ur∧isCell ur=true∧lo≤b∧b < hi ∧
   OwnedB lo hi (XDk e) w (.slice (some ⟨b,0,none⟩) (past.length - 1) c) (ur,past[past.length - 1],past.take (past.length - 1)):=by
 obtain ⟨fp,a1,a2,cs,fps,h3,rfl,h5⟩:=h
 obtain ⟨f,ur,h6,h7,h8⟩:=h5.at (i:=past.length - 1) Ka
 have hl:=h5.len
 have h3':=h3
 rcases h3.2 with ⟨rfl,h9⟩ | ⟨g,cap,cur,rfl,hb,hg,hc,hm,hs,ht⟩
 ·omega
 have hgm:g ∈ (Value.ownBlock (.slice (some ⟨g,0,none⟩) past.length cap)).toList++fps.flatten:=by simp [Value.ownBlock]
 have hfm:f ∈ fps:=List.mem_of_getElem? h6
 have hsub : ∀ k ∈ f,k ∈ fps.flatten:=fun k hk=>List.mem_flatten.2 ⟨f,hfm,hk⟩
 have htk : ∀ k ∈ (fps.take (past.length - 1)).flatten,k ∈ fps.flatten:=fun k hk=>by
  obtain ⟨g',hg',hk⟩:=List.mem_flatten.1 hk
  exact List.mem_flatten.2 ⟨g',List.mem_of_mem_take hg',hk⟩
 have hnd:g ∉ fps.flatten:=by
  have:=(List.nodup_append.1 a1).2.2
  exact fun hk=>this g (by simp [Value.ownBlock]) g hk rfl
 refine ⟨g,cap,ur,Z,hc,?_,h5.cells ur (List.mem_of_getElem? h7),(a2 g hgm).1,(a2 g hgm).2,mkDkB hw (f1:=f) (cs:=cs.take (past.length - 1)) (fps:=fps.take (past.length - 1)) (fun k hk=>?_) (fun k hk hm=>?_) (Loc.xrd h8) ?_ (XAll.imp Loc.xrd (XAll_take _ h5))⟩
 ·rw [h3'.cellAt (past.length - 1) Ka,h7]
 ·refine a2 k ?_
  rcases List.mem_append.1 hk with hk | hk
  ·have:k=g:=by simpa [Value.ownBlock] using hk
   rw [this];exact hgm
  ·rcases List.mem_append.1 hk with hk | hk
   ·exact List.mem_append_right _ (hsub k hk)
   ·exact List.mem_append_right _ (htk k hk)
 ·have:g=k:=by simpa [Value.ownBlock] using hk
  subst this
  rcases List.mem_append.1 hm with hm | hm
  ·exact hnd (hsub g hm)
  ·exact hnd (htk g hm)
 ·refine ⟨by rw [List.length_take,List.length_take,h3.1];omega,.inr ⟨g,cap,cur,?_,hb,hg,by rw [List.length_take];omega,hm,hs,?_⟩⟩
  ·rw [List.length_take,Nat.min_eq_left Ka]
  ·rw [List.length_take,← ht,List.take_take,Nat.mul_one,Nat.mul_one,Nat.min_eq_left Ka]
end
section
variable {P:Program} {n:Nat} {N:Env→World→Prop} {ρ : Env} {w w0:World} {all:Array Oper} {rest:List Oper} {d:Nat} {ty t el:TypeId} {pos:String} {after:Array Edge} {g:Option (Nat × Bool)} {x s:Operand} {v u z:Value} {lo hi:Nat} {now:List (List Int)} {past:List (List (List Int))}
end
def XIf {α : Type} (c:Prop) (X:World→List Nat→Value→α→Prop):World→List Nat→Value→α→Prop:=fun w fp v x=>isCell v=true∧(∀ k ∈ fp,k < w.heap.size)∧(c→X w fp v x)
instance loc_XIf {α : Type} {c:Prop} {X:World→List Nat→Value→α→Prop} [Loc X]:Loc (XIf c X):=⟨fun {w w' fp v x} hk h=>⟨h.1,fun k hm=>by
  have h1:=hk k hm
  have h2:=h.2.1 k hm
  rw [Array.getElem?_eq_getElem h2] at h1
  exact (Array.getElem?_eq_some_iff.1 h1).1,fun hc=>Loc.loc hk (h.2.2 hc)⟩,fun h=>h.2.1,fun h=>h.1⟩
end Go.Hs
namespace Go.Proofs.YtbgpppaljpngmaaGreatDoor
open Go.Hs
set_option maxRecDepth 10000
set_option maxHeartbeats 4000000
set_option linter.unusedVariables false
set_option linter.unusedSimpArgs false
theorem IndexFuncAt_ok (w:World) (v:Value) (xs:List Int) (h:Ints w v xs) (fid:FuncId) (cap:List Value) (g:Int→Bool) (hc : ∀ args w,Sem.run Tryz.prog (callFunc fid args) w=.ok (.enter fid args) w)
  (hf : ∀ (x:Int) (w':World),x ∈ xs→Ext w w'→Does Tryz.prog fid (.int .i64 x::cap) w' (Ret w' (.bool (g x)))) :
  Does Tryz.prog 179 [v,.func (.func fid) [].toArray cap.toArray] w (RetX w (Value.int .i64) (fun n _=>(n = -1∧xs.any g=false)∨∃ (j:Nat) (hj:j < xs.length),n=j∧g xs[j]=true∧(xs.take j).any g=false)):=by
 have hle:=h.le
 refine Vh Tryz.func179 Z Tryz.results179 Tryz.ntmps179 Z ?_
 focus
  refine Zp<|Vg Z<|Zn<|Zq<|Zp<|Vb v Z<|Vk Kn Z h<|Zu Z<|Zn<|Zw ?_
 refine Vy [4,5,8,9,10,11,12,13,14,15,16,17,18] (fun (k:Nat)=>[(8,.int .i64 (k:Nat))]) (fun k w'=>Ext w w'∧k≤xs.length∧(xs.take k).any g=false) (fun x=>xs.length - x) 0 Kg ?_ ?_
 ·exact ⟨Ext.refl _,Nat.zero_le _,Ki⟩
 rintro k ρj w1 ⟨E1,hk,hg⟩
 by_cases hlt:k < xs.length
 ·have hmem:=List.getElem_mem hlt
  focus
   refine Zp<|Vi Z<|Zn<|Zq<|Zs Z (fun h1=>?_) (fun h1=>?_);refine Zv<|Zq<|Zw<|Zp<|Zu Z<|Vg Z<|Zn<|Zp<|Vb (.func _ _ _) Z<|Vb v Z<|Zu Z<|Yb Kn Kl Km Z (fun _=>Z) Z h E1 Z Kf ?_;rintro _ _ rfl;refine Zr Z (opc_val1 (a:=.int _ _) Kd Z Z) (hf _ _ Kd (E1)) ?_;rintro _ w2 ⟨rfl,E2⟩;refine Zn<|Xg Z (fun h2=>?_) (fun h2=>?_);refine Zq<|Vf<|Zu Z<|Vg Z<|Zn<|Zy ?_;refine Ve (v:=.int _ _) Z ?_;refine ⟨exq,_,Z,?_⟩;(try dsimp only);rotate_left;refine Zv<|Vf<|Vr Z<|Zu Z<|Zn ?_;rotate_left;(exfalso;omega)
  ·exact .inr ⟨k,hlt,rfl,Kd,hg⟩
  ·refine ⟨(k+1),Kg,Kh,?_,?_⟩
   ·refine ⟨E1.trans E2,Ka,?_⟩
    rw [Yd _ _ hlt,List.any_append,hg]
    simpa using by assumption
   ·omega
 ·obtain rfl:k=xs.length:=by omega
  focus
   refine Zp<|Vi Z<|Zn<|Zq<|Zt Z fun h1=>?_;refine Vw ?_;refine Vd ?_;refine Zp<|Vg Z<|Zn<|Zy ?_;refine Ve (v:=.int _ _) Z ?_;refine ⟨E1,_,Z,?_⟩;(try dsimp only)
  exact .inl ⟨rfl,by simpa using hg⟩
theorem filter_snoc_t {α : Type} {g : α→Bool} {l:List α} {k:Nat} (hk:k < l.length) (h:g l[k]=true):(l.take (k+1)).filter g=(l.take k).filter g++[l[k]]:=by
 rw [Yd _ _ hk,List.filter_append];simp [h]
theorem filter_snoc_f {α : Type} {g : α→Bool} {l:List α} {k:Nat} (hk:k < l.length) (h:g l[k]=false):(l.take (k+1)).filter g=(l.take k).filter g:=by
 rw [Yd _ _ hk,List.filter_append];simp [h]
theorem filter_all {α : Type} {g : α→Bool} {l:List α} (h:l.any (fun x=>!g x)=false):l.filter g=l:=by
 rw [List.filter_eq_self]
 intro a ha
 have:=List.any_eq_false.1 h a ha
 simpa using this
theorem ext_spanD {w w':World} {lo hi:Nat} (E:Ext w w'):Span lo hi w w':=⟨E.os,E.tape,E.output,E.size,fun k _ hl=>E.block k hl⟩
theorem take_set_snoc {α : Type} {l:List α} {i:Nat} {x : α} (hi:i < l.length):(l.set i x).take (i+1)=l.take i++[x]:=by
 rw [Yd _ _ (by simpa using hi)]
 simp [List.take_set_of_le]
theorem DeleteFunc_ok {w0:World} (w:World) {lo hi:Nat} (v:Value) (xs:List Int) (h:OwnedB lo hi XI w v xs) (E0:Ext w0 w) (hlo:w0.heap.size≤lo) (hlh:lo≤hi) (hhi:hi≤w.heap.size) (fid:FuncId) (cap:List Value) (g:Int→Bool) (hc : ∀ args w,Sem.run Tryz.prog (callFunc fid args) w=.ok (.enter fid args) w)
  (hf : ∀ (x:Int) (w':World),x ∈ xs→Ext w0 w'→Does Tryz.prog fid (.int .i64 x::cap) w' (Ret w' (.bool (g x)))) :
  Does Tryz.prog 200 [v,.func (.func fid) [].toArray cap.toArray] w (RetS lo hi w (fun y:Value=>y) (fun y w'=>Ints w' y (xs.filter fun x=>!g x))):=by
 have hI:Ints w v xs:=h.read
 have hle:=hI.le
 have k1:=IndexFuncAt_ok w v xs hI fid cap g hc (fun x w' hx e=>hf x w' hx (E0.trans e))
 refine Vh Tryz.func200 Z Tryz.results200 Tryz.ntmps200 Z ?_
 have stop2:True:=trivial
 focus
  refine Zp<|Ys Z<|Zn<|Zp<|Vb v Z<|Vb (.func _ _ _) Z<|Zr Z (Yg (a:=v) (b:=.func _ _ _) Tryz.call179 Z Z) (k1) ?_;rintro _ w1 ⟨E1,y1,rfl,hy1⟩;refine Vg Z<|Zn<|Zq<|Zq ?_
 clear stop2
 rcases hy1 with ⟨rfl,hn⟩ | ⟨j0,hj0,rfl,hg0,hn0⟩
 ·focus
   refine Vf<|Zu Z<|Vm Z<|Zn<|Zs Z (fun h1=>?_) (fun h1=>?_);refine Zp<|Vb v Z<|Yr v Z<|Zn<|Zy ?_;refine Ve (v:=v) Z ?_;rotate_left;contradiction
  exact ⟨v,rfl,⟨E1.os,E1.tape,E1.output,E1.size,fun k _ hl=>E1.block k hl⟩,by rw [filter_all (by simpa using hn)];exact Mono.mono E1 hI⟩
 ·obtain ⟨b,c,rfl,hcap⟩:=h.o.lit Ka
  have hb:=OwnedB.lt_own h (k:=b) rfl
  clear k1 hI
  focus
   refine Vf<|Zu Z<|Vm Z<|Zn<|Vj Z fun h1=>?_;refine Zv<|Zq<|Zp<|Zu Z<|Vr Z<|Vg Z<|Zn<|Zw ?_
  refine Vy [5,6,7,16,17,18,19,20,21,22,23,24,25,26,27,28,29,30,31,32,33,34,35] (fun ((j,i,ys):Nat × Nat × List Int)=>[(6,.int .i64 (j:Int)),(5,.int .i64 (i:Int))]) (fun (j,i,ys) w'=>Ext w0 w'∧Span lo hi w w'∧j≤xs.length∧i < j∧Owned lo XI w' (.slice (some ⟨b,0,none⟩) xs.length c) ys∧ys.length=xs.length∧ys.take i=(xs.take j).filter (fun x=>!g x)∧ys.drop j=xs.drop j) (fun x=>xs.length - x.1) (j0+1,j0,xs) Kg ?_ ?_
  ·refine ⟨by exact (E0.trans E1),⟨E1.os,E1.tape,E1.output,E1.size,fun k _ hl=>E1.block k hl⟩,Ka,Ka,(h.ext E1).o,Z,?_,Z⟩
   rw [filter_snoc_f hj0 (by rw [hg0];rfl),filter_all (by simpa using hn0)]
  clear h
  rintro ⟨j,i,ys⟩ ρj w2 ⟨E2,S2,hj,hij,hO,hyl,hyt,hyd⟩
  have hs2:=S2.size
  by_cases hlt:j < xs.length
  ·have hyj:ys[j]'Ka=xs[j]:=by
    have h1:=List.getElem?_drop (xs:=ys) (i:=j) (j:=0)
    have h2:=List.getElem?_drop (xs:=xs) (i:=j) (j:=0)
    rw [hyd,h2] at h1
    simpa [hlt,show j < ys.length by omega] using h1.symm
   have hf' : ∀ (w':World),Ext w0 w'→Does Tryz.prog fid (.int .i64 (ys[j]'Ka)::cap) w' (Ret w' (.bool (g xs[j]))):=fun w' e=>by rw [hyj];exact hf _ w' (List.getElem_mem hlt) e
   have hyd':ys.drop (j+1)=xs.drop (j+1):=by rw [← List.drop_drop,hyd,List.drop_drop]
   focus
    refine Zq<|Zp<|Zu Z<|Up Z<|Vk Kn Z (Owned.read hO)<|Vi Z<|Zn<|Zs Z (fun h2=>?_) (fun h2=>?_);refine Zv<|Zq<|Zw<|Zp<|Up Z<|Zu Z<|Yb Kn Kl Km Z (fun _=>Z) Z (Owned.read hO) (Ext.refl _) Z Kf ?_;rintro _ _ rfl;refine Vg Z<|Zn<|Zp<|Vb (.func _ _ _) Z<|Zu Z<|Zr Z (opc_val1 (a:=.int _ _) Kd Z Z) (hf' _ (E2)) ?_;rintro _ w3 ⟨rfl,E3⟩;refine Ym Z<|Zn<|Xg Z (fun h3=>?_) (fun h3=>?_);refine Zp<|Up Z<|Zu Z<|Zu Z<|Wo Z (Yv Kn Kl Z Z Ka) ?_
    refine Nb Z Kl Z Z (hO.toB.ext E3) Kf Owned.int (Nat.le_refl _) Ka ?_;rintro w4 hO On1 K1 hz1;have E4:=On1.ext1 (E2.trans E3) Ka;refine Zn<|Vf<|Zu Z<|Vr Z<|Vg Z<|Zn<|Vf<|Zu Z<|Vr Z<|Vg Z<|Zn ?_;rotate_left;refine Zv<|Vf<|Zu Z<|Vr Z<|Vg Z<|Zn ?_;rotate_left;(exfalso;omega)
   ·refine ⟨((j+1,i+1,ys.set i (ys[j]'Ka))),Kg,Kh,?_,?_⟩
    ·refine ⟨Kd,S2.trans ((ext_spanD E3).trans (Span.of_only On1 (fun k hk=>by simp at hk;omega))),Ka,Ka,hO,by simp;omega,?_,?_⟩
     ·rw [filter_snoc_t hlt Kd,← hyt,take_set_snoc Ka,hyj]
     ·rw [List.drop_set_of_lt Ka,hyd']
    ·simp only;omega
   ·refine ⟨((j+1,i,ys)),Kg,Kh,?_,?_⟩
    ·refine ⟨by exact (E2.trans E3),S2.trans (ext_spanD E3),Ka,Ka,hO.ext E3,hyl,?_,hyd'⟩
     rw [filter_snoc_f hlt Kd,hyt]
    ·simp only;omega
  ·obtain rfl:j=xs.length:=by omega
   focus
    refine Zq<|Zp<|Zu Z<|Up Z<|Vk Kn Z (Owned.read hO)<|Vi Z<|Zn<|Zt Z fun h2=>?_;refine Vw ?_;refine Vd ?_;refine Zp<|Up Z<|Zu Z<|Wo Z (Rm Kn Kl Z Z Ka) ?_
   have hcl : ∀ j,j < xs.length→∃ u,w2.cell? ⟨b,j,none⟩=some u∧w2.frozen? ⟨b,j,none⟩=false:=fun j hj=>hO.cellAt Ka
   refine Wo_clear Z Kn Jg Z Z Z (fun k hk=>?_) (fun k hk=>?_) ?_
   ·obtain ⟨u,h1,h2⟩:=hcl (i+k) Ka
    rw [show 0+(i:Int).toNat+k=i+k by omega,h1];rfl
   ·obtain ⟨u,h1,h2⟩:=hcl (i+k) Ka
    rw [show 0+(i:Int).toNat+k=i+k by omega,h2]
   intro w3 On K hz hcell
   have hR:Ints w3 (.slice (some ⟨b,0,none⟩) i c) (xs.filter fun x=>!g x):=by
    have hRy0:Ints w2 (.slice (some ⟨b,0,none⟩) xs.length c) ys:=hO.read
    have hRy:=hRy0.takeS (c':=c) (k:=i) Ka
    rw [hyt,List.take_length] at hRy
    have hfl:(xs.filter fun x=>!g x).length=i:=by
     have:=congrArg List.length hyt
     rw [List.length_take,List.take_length] at this
     omega
    obtain ⟨a',c',e,hle',hr⟩:=hRy
    refine ⟨some ⟨b,0,none⟩,c,by rw [hfl],hle',?_⟩
    rcases hr with hr | ⟨b',o',e',hr⟩
    ·exact .inl hr
    ·cases e
     cases e'
     refine .inr ⟨b,0,Z,fun k hk=>?_⟩
     obtain ⟨u,h1,h2⟩:=hr k hk
     refine ⟨u,?_,h2⟩
     rw [Nat.zero_add] at h1 ⊢
     rw [hcell k Ka,h1]
   have S3:Span lo hi w w3:=S2.trans (Span.of_only On (fun k hk=>by simp at hk;omega))
   focus
    refine Zn<|Zp<|Up Z<|Zu Z<|Wo Z (Sf Kn Kl Z Z Ka) ?_;refine Ys Z<|Zn<|Zy ?_;refine Ve (v:=.slice _ _ _) Z ?_
   exact ⟨_,rfl,S3,hR⟩
end Go.Proofs.YtbgpppaljpngmaaGreatDoor
