/- Lemmas for FnExactDeskDo. -/
import Derived.Test.YtbgpppaljpngmaaGreatDoorMFnExactDeskDo6
namespace Go.Proofs.YtbgpppaljpngmaaGreatDoor
open Go.Hs
set_option maxRecDepth 10000
set_option maxHeartbeats 4000000
set_option linter.unusedVariables false
set_option linter.unusedSimpArgs false
theorem dk_total {d:Dsk} (h:DkOk d):total d.now≤25∧total3 d.past≤200∧d.now.length≤5∧∀ q ∈ d.past,q.length≤5:=by
 have h3 : ∀ (l:List (List (List Int))),(∀ q ∈ l,Pic q)→total3 l≤l.length*25:=by
  intro l
  induction l with
  | nil=>intro _;simp [total3]
  | cons q l ih =>
    intro h
    have h1 := ih (fun x hx => h x (List.mem_cons_of_mem _ hx))
    have h2 := pic_total (h q (List.mem_cons_self ..))
    simp only [total3, List.length_cons]
    omega
 refine ⟨pic_total h.1.1,?_,h.1.1.2.1,fun q hq=>(h.2.2 q hq).1.2.1⟩
 have:=h3 d.past (fun q hq=>(h.2.2 q hq).1)
 have:=h.2.1
 omega
open Classical in
noncomputable def ddV (d:Dsk) (a:Deed):Dsk × Bool:=if DkOk d then doV d a else (⟨[],[]⟩,false)
theorem ddV_total (d:Dsk) (a:Deed):total (ddV d a).1.now≤25∧total3 (ddV d a).1.past≤200∧(ddV d a).1.now.length≤5∧(ddV d a).1.past.length≤8∧∀ q ∈ (ddV d a).1.past,q.length≤5:=by
 unfold ddV
 split
 ·rename_i h
  have h1:=doV_ok (a:=a) h
  have:=dk_total h1
  exact ⟨this.1,this.2.1,this.2.2.1,h1.2.1,this.2.2.2⟩
 ·exact ⟨by simp [total],by simp [total3],by simp,by simp,fun q hq=>by cases hq⟩
open Classical in
theorem impl_DeskDo_ok (w:World) (hM:EMx gMx w (.bool true) ()) (u1 u2:Value) (d:Dsk) (h1:ESl Ints w u1 d.now) (h2:ESl (ESl Ints) w u2 d.past) (k n:Int) (t:List UInt8) (ht:t.length≤1048576) :
  Does Tryz.prog 36 [.agg #[u1,u2],.agg #[.int .i64 k,str t,.int .i64 n]] w (RetDkB w 23 88 3 (ddV d ⟨k,t,n⟩).1.now (ddV d ⟨k,t,n⟩).1.past (ddV d ⟨k,t,n⟩).2):=by
 have icu1:isCell u1=true:=ESl_isC h1
 have icu2:isCell u2=true:=ESl_isC h2
 refine fn_of_Wct Tryz.func36 rfl Tryz.results36 Tryz.ntmps36 rfl Tryz.isAgg26 Tryz.sizeOf26 ?_
 by_cases hd:DkOk d
 ·rw [show ddV d ⟨k,t,n⟩=doV d ⟨k,t,n⟩ from if_pos hd]
  have k0 : ∀ w,ESl Ints w u1 d.now→ESl (ESl Ints) w u2 d.past→Does Tryz.prog 58 [.agg #[u1,u2]] w (Ret w (.bool true)):=fun w h1 h2=>by
   have:=isDesk_ok w u1 u2 d h1 h2;rwa [decide_eq_true hd] at this
  have k1 : ∀ w,EMx gMx w (.bool true) ()→ESl Ints w u1 d.now→ESl (ESl Ints) w u2 d.past→Does Tryz.prog 92 [.agg #[u1,u2],.agg #[.int .i64 k,str t,.int .i64 n]] w (RetDkB w 23 88 3 (doV d ⟨k,t,n⟩).1.now (doV d ⟨k,t,n⟩).1.past (doV d ⟨k,t,n⟩).2):=fun w hM h1 h2=>deskDo_ok w hM u1 u2 d h1 h2 hd k n t ht
  have litown:True:=trivial
  focus
   refine Ke <| Kc rfl <| Jp rfl rfl rfl ?_;rintro b1 w1 hb1 E1 hB1;have hlb1:=hB1.lt;have hs1:=E1.size;refine Jp rfl rfl rfl ?_;rintro b2 w2 hb2 E2 hB2;have hlb2:=hB2.lt
   have hs2:=E2.size;refine Je rfl flat26 ?_;rintro b3 w3 hb3 E3 hB3;have hlb3:=hB3.lt;have hs3:=E3.size;refine Wo rfl (Kb (v:=.bool _) rfl) <| Kd <| Ke <| Ke ?_
   refine Kc rfl <| Wo (v:=.agg _) rfl (Jd Tryz.isAgg26 Tryz.sizeOf26 rfl (hB1.ext (E2.trans E3))) ?_
   refine Kj rfl (Jk (a:=.agg _) Tryz.call58 rfl) (k0 _ ((Mono.mono ((E1.trans E2).trans E3) h1)) ((Mono.mono ((E1.trans E2).trans E3) h2))) ?_;rintro _ w4 ⟨rfl,E4⟩;have hs4:=E4.size;refine Wo rfl (Jf rfl) ?_
   refine Kd <| Jx rfl (fun h3=>?_) (fun h3=>?_);contradiction;refine Kt ?_;refine Ke <| Kc rfl ?_
   refine Wo (v:=.agg _) rfl (Jd Tryz.isAgg26 Tryz.sizeOf26 rfl (hB1.ext ((E2.trans E3).trans E4))) <| Wo (v:=.agg _) rfl (Jq Tryz.isAgg48 Tryz.sizeOf48 rfl (hB2.ext (E3.trans E4))) ?_
   refine Kj rfl (Jn (a:=.agg _) (b:=.agg _) Tryz.call92 rfl rfl) (k1 _ ((Mono.mono (((E1.trans E2).trans E3).trans E4) hM)) ((Mono.mono (((E1.trans E2).trans E3).trans E4) h1)) ((Mono.mono (((E1.trans E2).trans E3).trans E4) h2))) ?_
   rintro _ w5 ⟨u3,q1,m1,rfl,E5,hO1,hQ1,hm1,hn1⟩;have icu3:=OwnedB.isC hO1;have cpu3:=OwnedB.capOk hO1;have icq1:=OwnedB.isC (Owned.toB hQ1);have cpq1:=OwnedB.capOk (Owned.toB hQ1);have hs5:=E5.size
   refine Wo rfl (Kk (v:=.agg _) rfl rfl) <| Wo rfl (Kk (v:=.bool _) rfl rfl) ?_
   refine Jl rfl Tryz.sizeOf26 rfl rfl (by first | rfl | assumption) (by first | rfl | assumption) (hB3.ext (E4.trans E5)) (by omega) ((((E1.trans E2).trans E3).trans E4).trans E5) ?_;rintro w6 E6 hB3 K1 hz1
   have E7:=(((E2.trans E3).trans E4).trans E5).wroteAt ((((E1.trans E2).trans E3).trans E4).trans E5) E6 K1 hz1 (by omega);have szE7:=E7.size
   have E8:=((E3.trans E4).trans E5).wroteAt ((((E1.trans E2).trans E3).trans E4).trans E5) E6 K1 hz1 (by omega);have szE8:=E8.size;have hB1:=(hB1.ext (((E2.trans E3).trans E4).trans E5)).of_heap (K1 _ (by omega))
   have hB2:=(hB2.ext ((E3.trans E4).trans E5)).of_heap (K1 _ (by omega));have hO1:=hO1.wrote K1 (by omega);have hQ1:=hQ1.toB.wrote K1 (by omega);refine Wo rfl (Kb (v:=.bool _) rfl) <| Kd ?_
   refine Ja ?_
  exact ⟨b3,u3,q1,rfl,hB3,u3,q1,m1,rfl,by exact E6,hO1.wide (by omega) (Nat.le_refl _),hQ1.o,by omega,by omega⟩
 ·rw [show ddV d ⟨k,t,n⟩=(⟨[],[]⟩,false) from if_neg hd]
  have k0 : ∀ w,ESl Ints w u1 d.now→ESl (ESl Ints) w u2 d.past→Does Tryz.prog 58 [.agg #[u1,u2]] w (Ret w (.bool false)):=fun w h1 h2=>by
   have:=isDesk_ok w u1 u2 d h1 h2;rwa [decide_eq_false hd] at this
  have litown:True:=trivial
  focus
   refine Ke <| Kc rfl <| Jp rfl rfl rfl ?_;rintro b1 w1 hb1 E1 hB1;have hlb1:=hB1.lt;have hs1:=E1.size;refine Jp rfl rfl rfl ?_;rintro b2 w2 hb2 E2 hB2;have hlb2:=hB2.lt
   have hs2:=E2.size;refine Je rfl flat26 ?_;rintro b3 w3 hb3 E3 hB3;have hlb3:=hB3.lt;have hs3:=E3.size;refine Wo rfl (Kb (v:=.bool _) rfl) <| Kd <| Ke <| Ke ?_
   refine Kc rfl <| Wo (v:=.agg _) rfl (Jd Tryz.isAgg26 Tryz.sizeOf26 rfl (hB1.ext (E2.trans E3))) ?_
   refine Kj rfl (Jk (a:=.agg _) Tryz.call58 rfl) (k0 _ ((Mono.mono ((E1.trans E2).trans E3) h1)) ((Mono.mono ((E1.trans E2).trans E3) h2))) ?_;rintro _ w4 ⟨rfl,E4⟩;have hs4:=E4.size;refine Wo rfl (Jf rfl) ?_
   refine Kd <| Jx rfl (fun h3=>?_) (fun h3=>?_);refine Ke <| Kc rfl <| Wo rfl (opv_build (ps:=[]) (cs:=[_,_]) flat26 rfl rfl) ?_
   refine Jl rfl Tryz.sizeOf26 rfl rfl (by first | rfl | assumption) (by first | rfl | assumption) (hB3.ext E4) (by omega) (((E1.trans E2).trans E3).trans E4) ?_;rintro w5 E5 hB3 K1 hz1
   have E6:=((E2.trans E3).trans E4).wroteAt (((E1.trans E2).trans E3).trans E4) E5 K1 hz1 (by omega);have szE6:=E6.size;have E7:=(E3.trans E4).wroteAt (((E1.trans E2).trans E3).trans E4) E5 K1 hz1 (by omega)
   have szE7:=E7.size;have hB1:=(hB1.ext ((E2.trans E3).trans E4)).of_heap (K1 _ (by omega));have hB2:=(hB2.ext (E3.trans E4)).of_heap (K1 _ (by omega));refine Wo rfl (Kb (v:=.bool _) rfl) <| Kd ?_
   refine Ja ?_;rotate_left;contradiction
  exact ⟨b3,_,_,rfl,hB3,_,_,w.heap.size,rfl,by exact E5,OwnedB.nil,Owned.nil,Nat.le_refl _,by omega⟩
open Classical in
theorem FnExactDeskDo_walk (w:World) (hM:EMx gMx w (.bool true) ()) (u1 u2:Value) (p:List (List Int)) (pp:List (List (List Int))) (h1:ESl Ints w u1 p) (h2:ESl (ESl Ints) w u2 pp) (k n:Int) (t:List UInt8) (ht:t.length≤9223372036854775807) :
  Does Tryz.prog 7 [.agg #[u1,u2],.agg #[.int .i64 k,str t,.int .i64 n]] w (Ret w (.bool true)):=by
 have icu1:isCell u1=true:=ESl_isC h1
 have icu2:isCell u2=true:=ESl_isC h2
 refine Jc Tryz.func7 rfl Tryz.results7 Tryz.ntmps7 rfl ?_
 have stop3:True:=trivial
 focus
  refine Ke <| Kc rfl <| Jp rfl rfl rfl ?_;rintro b1 w1 hb1 E1 hB1;have hlb1:=hB1.lt;have hs1:=E1.size;refine Jp rfl rfl rfl ?_;rintro b2 w2 hb2 E2 hB2;have hlb2:=hB2.lt
  have hs2:=E2.size;refine Wo rfl (Kb (v:=.bool _) rfl) <| Kd <| Ke <| Kc rfl <| Wo rfl (Kb (v:=.int _ _) rfl) <| Kd <| Ke ?_
  refine Kc rfl <| Wo (v:=.agg _) rfl (Jd Tryz.isAgg40 Tryz.sizeOf40 rfl (hB1.ext E2)) <| Wo rfl (Ka (v:=.int _ _) rfl) ?_
  refine Kj rfl (Jn (a:=.agg _) (b:=.int _ _) Tryz.call25 rfl rfl) (szDesk_ok _ _ _ _ _ ((Mono.mono (E1.trans E2) h1)) ((Mono.mono (E1.trans E2) h2)) _ (by omega)) ?_;rintro _ w3 ⟨E3,y1,rfl,hy1⟩;have hs3:=E3.size
  refine Wo rfl (Kb (v:=.int _ _) rfl) <| Kd <| Ke <| Ke ?_
 clear stop3
 rcases hy1 with h9 | ⟨h9,h10,h11,h12,h13,h14⟩
 ·focus
   have szE3:=E3.size;have szE2:=E2.size;have szE1:=E1.size;refine Kc rfl <| Wo rfl (Ka (v:=.int _ _) rfl) <| Wo rfl (Ks rfl rfl) <| Kd ?_
   refine Kg rfl (fun h3=>?_) (fun h3=>?_);refine Ke <| Kc rfl <| Wo rfl (Kb (v:=.bool _) rfl) <| Kd <| Ja ?_;exact ⟨rfl,((E1.trans E2).trans E3)⟩
   (exfalso;omega)
 have stop6:True:=trivial
 focus
  have szE3:=E3.size;have szE2:=E2.size;have szE1:=E1.size;refine Kc rfl <| Wo rfl (Ka (v:=.int _ _) rfl) <| Wo rfl (Ks rfl rfl) <| Kd ?_
  refine Kg rfl (fun h3=>?_) (fun h3=>?_);(exfalso;omega);refine Kt ?_;refine Ke <| Kc rfl <| Wo (v:=.agg _) rfl (Jq Tryz.isAgg55 Tryz.sizeOf55 rfl (hB2.ext E3)) ?_
  refine Wo rfl (Ka (v:=.int _ _) rfl) <| Kj rfl (Jn (a:=.agg _) (b:=.int _ _) Tryz.call40 rfl rfl) (szDeed_ok _ _ _ _ (by assumption) _ (by omega)) ?_;rintro _ w4 ⟨E4,y2,rfl,hy1⟩;have hs4:=E4.size
  refine Wo rfl (Kb (v:=.int _ _) rfl) <| Kd <| Ke <| Ke ?_
 clear stop6
 rcases hy1 with h8 | ⟨h8,h15,ht2⟩
 ·focus
   have szE4:=E4.size;have szE3:=E3.size;have szE2:=E2.size;have szE1:=E1.size;refine Kc rfl <| Wo rfl (Ka (v:=.int _ _) rfl) <| Wo rfl (Ks rfl rfl) <| Kd ?_
   refine Kg rfl (fun h4=>?_) (fun h4=>?_);refine Ke <| Kc rfl <| Wo rfl (Kb (v:=.bool _) rfl) <| Kd <| Ja ?_;exact ⟨rfl,(((E1.trans E2).trans E3).trans E4)⟩
   (exfalso;omega)
 obtain ⟨c,hcd⟩ : ∃ c,c=ddV ⟨p,pp⟩ ⟨k,t,n⟩:=⟨_,rfl⟩
 obtain ⟨ht25,ht200,hl5,hl8,hq5⟩:=ddV_total ⟨p,pp⟩ ⟨k,t,n⟩
 have kT : ∀ (w:World),ESl Ints w u1 p→ESl (ESl Ints) w u2 pp→Does Tryz.prog 27 [.agg #[u1,u2]] w (RetDk w 23 88 3 p pp):=fun w h1 h2=>toDesk_ok w u1 u2 p pp h1 h2 ⟨h11,h12⟩ h13 h14
 have kI : ∀ (w:World) (v1 v2:Value),EMx gMx w (.bool true) ()→ESl Ints w v1 p→ESl (ESl Ints) w v2 pp→Does Tryz.prog 36 [.agg #[v1,v2],.agg #[.int .i64 k,str t,.int .i64 n]] w (RetDkB w 23 88 3 c.1.now c.1.past c.2):=fun w v1 v2 hM h1 h2=>hcd ▸ impl_DeskDo_ok w hM v1 v2 ⟨p,pp⟩ h1 h2 k n t ht2
 have kS : ∀ (w:World) (v1 v2:Value),ESl Ints w v1 p→ESl (ESl Ints) w v2 pp→Does Tryz.prog 37 [.agg #[v1,v2],.agg #[.int .i64 k,str t,.int .i64 n]] w (RetDkRB w c.1.now c.1.past c.2):=fun w v1 v2 h1 h2=>by
  have:=(spec_DeskDo_ok w v1 v2 ⟨p,pp⟩ h1 h2 k n t ht2).mono fun _ _ h=>h.r
  rw [hcd]
  unfold ddV
  by_cases hd:DkOk ⟨p,pp⟩
  ·rw [if_pos hd,if_pos hd,decide_eq_true hd,Bool.true_and] at this
   rw [if_pos hd];exact this
  ·rw [if_neg hd,if_neg hd,decide_eq_false hd,Bool.false_and] at this
   rw [if_neg hd];exact this
 rw [← hcd] at ht25 ht200 hl5 hl8 hq5
 clear hcd
 obtain ⟨⟨now,past⟩,b⟩:=c
 simp only at ht25 ht200 hl5 hl8 hq5 kI kS
 have kE : ∀ (w:World) (v1 v2 t1 t2:Value),ESl Ints w v1 now→ESl (ESl Ints) w v2 past→ESl Ints w t1 now→ESl (ESl Ints) w t2 past→Does Tryz.prog 29 [.agg #[v1,v2],.agg #[t1,t2]] w (Ret w (.bool true)):=fun w v1 v2 t1 t2 h1 h2 h3 h4=>by
  have:=eqDesk_ok w v1 v2 t1 t2 now now past past h1 h2 h3 h4
  rwa [decide_eq_true ⟨rfl,rfl⟩] at this
 have kEp : ∀ (w:World) (v1 v2 t1 t2:Value),ESl Ints w v1 p→ESl (ESl Ints) w v2 pp→ESl Ints w t1 p→ESl (ESl Ints) w t2 pp→Does Tryz.prog 29 [.agg #[v1,v2],.agg #[t1,t2]] w (Ret w (.bool true)):=fun w v1 v2 t1 t2 h1 h2 h3 h4=>by
  have:=eqDesk_ok w v1 v2 t1 t2 p p pp pp h1 h2 h3 h4
  rwa [decide_eq_true ⟨rfl,rfl⟩] at this
 have kM0 : ∀ (w:World) (lo m hi:Nat) (v1 v2:Value),OwnedB lo m XR w v1 p→OwnedB m hi (XSl 23 XR) w v2 pp→lo≤m→m≤hi→hi≤w.heap.size→Does Tryz.prog 31 [.agg #[v1,v2],.int .i64 1] w (RetS lo hi w (fun _:Unit=>.int .i64 (1+(total p:Nat)+(total3 pp:Nat))) (fun _ _=>True)):=fun w lo m hi v1 v2 h1 h2 h3 h4 h5=>by
  refine (markDesk_ok w v1 v2 p pp h1 h2 h3 h4 h5 1 (by decide) h11 (by omega) h13 (fun q hq=>(h14 q hq).1) (by omega)).mono fun v w' h=>?_
  obtain ⟨z,rfl,hs,rfl,_,_⟩:=h
  exact ⟨(),rfl,hs,trivial⟩
 have kM : ∀ (w:World) (lo m hi:Nat) (v1 v2:Value),OwnedB lo m XR w v1 now→OwnedB m hi (XSl 23 XR) w v2 past→lo≤m→m≤hi→hi≤w.heap.size→Does Tryz.prog 31 [.agg #[v1,v2],.int .i64 1] w (RetS lo hi w (Value.int .i64) (fun z w'=>z=1+(total now:Nat)+(total3 past:Nat)∧OwnedB lo m XR w' v1 (marksS 1 now)∧OwnedB m hi (XSl 23 XR) w' v2 (marks3 (1+(total now:Nat)) past))):=fun w lo m hi v1 v2 h1 h2 h3 h4 h5 =>
  markDesk_ok w v1 v2 now past h1 h2 h3 h4 h5 1 (by decide) (by omega) (by omega) (by omega) (fun q hq=>by have:=hq5 q hq;omega) (by omega)
 have kH : ∀ (w:World) (v1 v2:Value),ESl Ints w v1 (marksS 1 now)→ESl (ESl Ints) w v2 (marks3 (1+(total now:Nat)) past)→Does Tryz.prog 33 [.agg #[v1,v2],.int .i64 1] w (Ret w (.int .i64 (1+(total now:Nat)+(total3 past:Nat)))):=fun w v1 v2 h1 h2 =>
  heldDesk_ok w v1 v2 now past 1 h1 h2 (by decide) (by omega) (by omega) (fun q hq=>by have:=hq5 q hq;omega) (by omega)
 have litown:True:=trivial
 have heldS:w=w:=rfl
 have stop8:True:=trivial
 focus
  have szE4:=E4.size;have szE3:=E3.size;have szE2:=E2.size;have szE1:=E1.size;refine Kc rfl <| Wo rfl (Ka (v:=.int _ _) rfl) <| Wo rfl (Ks rfl rfl) <| Kd ?_
  refine Kg rfl (fun h4=>?_) (fun h4=>?_);(exfalso;omega);refine Kt ?_;refine Ke ?_
 clear stop8
 focus
  have hB1:=(hB1.ext ((E2.trans E3).trans E4));have hB2:=(hB2.ext (E3.trans E4));have Ew1:=(((E1.trans E2).trans E3).trans E4);clear E1;clear E2;clear E3;clear szE3;clear szE3;clear szE2;clear szE2;clear szE1
  clear szE1;clear E4;clear szE4
 refine W_mid [26,27,28,29,30,31,32,33,6,7] (fun ((b9,x1,x2,lo,hi):Nat × Value × Value × Nat × Nat)=>[(6,.pointer (some ⟨b9,0,none⟩)),(7,.bool b)]) (fun (b9,x1,x2,lo,hi) w'=>Ext w4 w'∧Blk w' b9 [x1,x2]∧OwnedB lo hi (XRd (ESl Ints)) w' x1 now∧OwnedB lo hi (XRd (ESl (ESl Ints))) w' x2 past∧isCell x1=true∧isCell x2=true∧w4.heap.size≤lo∧w4.heap.size≤b9∧hi≤w'.heap.size∧b9 < w'.heap.size∧(hi≤b9∨b9 < lo)) ?_ ?_
 ·focus
   have szEw1:=Ew1.size;refine W_held (fun w'=>Ext w w') mixed rfl (by kernel_rfl) ?_;intro w5 E1 K1 hz1;have hs5:=E1.size;refine Ku (rs:=[0,2,8]) (by kernel_rfl) rfl ?_;refine Kh rfl ?_ ?_
   refine Wo (v:=.agg _) rfl (Jd Tryz.isAgg40 Tryz.sizeOf40 rfl (hB1.ext E1)) <| Kd ?_;refine ⟨(Ew1.trans E1),?_⟩;refine Ku (rs:=[1,2,8]) (by kernel_rfl) rfl ?_;refine Kh rfl ?_ ?_
   refine Kj rfl (Jk (a:=.agg _) Tryz.call27 rfl) (kT _ ((Mono.mono (Ew1.trans E1) h1)) ((Mono.mono (Ew1.trans E1) h2))) ?_;rintro _ w6 ⟨u3,q1,m1,rfl,E2,hO1,hQ1,hm1,hn1⟩;have icu3:=OwnedB.isC hO1
   have cpu3:=OwnedB.capOk hO1;have icq1:=OwnedB.isC (Owned.toB hQ1);have cpq1:=OwnedB.capOk (Owned.toB hQ1);have hs6:=E2.size;refine Kd ?_;refine ⟨((Ew1.trans E1).trans E2),?_⟩
   refine Ku (rs:=[2,8]) (by kernel_rfl) rfl ?_;refine Kh rfl ?_ ?_;refine Wo (v:=.agg _) rfl (Jq Tryz.isAgg55 Tryz.sizeOf55 rfl (hB2.ext (E1.trans E2))) <| Kd ?_
   refine ⟨((Ew1.trans E1).trans E2),?_⟩;refine Ku (rs:=[3,8]) (by kernel_rfl) rfl ?_;refine Kh rfl ?_ ?_;refine Kj rfl (Jk (a:=.agg _) Tryz.call41 rfl) (toDeed_ok _ _ _ _) ?_;rintro _ w7 ⟨rfl,E3⟩
   have hs7:=E3.size;refine Kd ?_;refine ⟨(((Ew1.trans E1).trans E2).trans E3),?_⟩;refine Ku (rs:=[4,8]) (by kernel_rfl) rfl ?_;refine Kh rfl ?_ ?_
   refine Kj rfl (Jn (a:=.agg _) (b:=.agg _) Tryz.call37 rfl rfl) (kS _ _ _ ((Mono.mono E3 (OwnedB.read hO1))) ((Mono.mono E3 (Owned.read hQ1)))) ?_;rintro _ w8 ⟨u4,q2,rfl,E4,hA1,hC1,icu4,icq2,gwu4⟩
   have hs8:=E4.size;refine Kd ?_;refine ⟨((((Ew1.trans E1).trans E2).trans E3).trans E4),?_⟩
   refine Kp 5 rfl (by kernel_rfl) (by kernel_rfl) rfl (fun _ _=>Ka (v:=.tuple _) rfl) ((((Ew1.trans E1).trans E2).trans E3).trans E4) ?_
   refine Kp 6 rfl (by kernel_rfl) (by kernel_rfl) rfl (fun _ _=>Kk (v:=.agg _) rfl rfl) ((((Ew1.trans E1).trans E2).trans E3).trans E4) ?_
   refine Kp 7 rfl (by kernel_rfl) (by kernel_rfl) rfl (fun _ _=>Kk (v:=.bool _) rfl rfl) ((((Ew1.trans E1).trans E2).trans E3).trans E4) ?_;refine Ku (rs:=[8]) (by kernel_rfl) rfl ?_
   refine Kh rfl ?_ ?_;refine Je rfl flat26 ?_;rintro b3 w9 hb3 E5 hB3;have hlb3:=hB3.lt;have hs9:=E5.size;refine Kd ?_;refine ⟨(((((Ew1.trans E1).trans E2).trans E3).trans E4).trans E5),?_⟩
   refine Ku (rs:=[9]) (by kernel_rfl) rfl ?_;refine Kh rfl ?_ ?_
   refine Jl rfl Tryz.sizeOf26 rfl rfl (by first | rfl | assumption) (by first | rfl | assumption) hB3 (by omega) (((((Ew1.trans E1).trans E2).trans E3).trans E4).trans E5) ?_;rintro w10 E6 hB3 K2 hz2
   have E7:=((((E1.trans E2).trans E3).trans E4).trans E5).wroteAt (((((Ew1.trans E1).trans E2).trans E3).trans E4).trans E5) E6 K2 hz2 (by omega);have szE7:=E7.size
   have E8:=(((E2.trans E3).trans E4).trans E5).wroteAt (((((Ew1.trans E1).trans E2).trans E3).trans E4).trans E5) E6 K2 hz2 (by omega);have szE8:=E8.size
   have E9:=((E3.trans E4).trans E5).wroteAt (((((Ew1.trans E1).trans E2).trans E3).trans E4).trans E5) E6 K2 hz2 (by omega);have szE9:=E9.size
   have E10:=(E4.trans E5).wroteAt (((((Ew1.trans E1).trans E2).trans E3).trans E4).trans E5) E6 K2 hz2 (by omega);have szE10:=E10.size
   have E11:=E5.wroteAt (((((Ew1.trans E1).trans E2).trans E3).trans E4).trans E5) E6 K2 hz2 (by omega);have szE11:=E11.size;have hB1:=(hB1.ext ((((E1.trans E2).trans E3).trans E4).trans E5)).of_heap (K2 _ (by omega))
   have hB2:=(hB2.ext ((((E1.trans E2).trans E3).trans E4).trans E5)).of_heap (K2 _ (by omega));have hO1:=(hO1.ext ((E3.trans E4).trans E5)).wrote K2 (by omega)
   have hQ1:=(hQ1.toB.ext ((E3.trans E4).trans E5)).wrote K2 (by omega);have hA1:=(hA1.ext E5).wrote K2 (by omega);have hC1:=(hC1.ext E5).wrote K2 (by omega);refine Kd ?_;refine ⟨E6,?_⟩
   refine Kp 10 rfl (by kernel_rfl) (by kernel_rfl) rfl (fun _ _=>Kb (v:=.bool _) rfl) E6 ?_;refine Jm (by kernel_rfl) ?_;rotate_left;exact Kl;exact Kl;refine Kh rfl ?_ ?_
   refine Je rfl flat26 ?_;rintro b3 w8 hb3 E4 hB3;have hlb3:=hB3.lt;have hs8:=E4.size;refine Kd ?_;refine ⟨((((Ew1.trans E1).trans E2).trans E3).trans E4),?_⟩;refine Ku (rs:=[4]) (by kernel_rfl) rfl ?_
   refine Kh rfl ?_ ?_;refine Kj rfl (Jn (a:=.agg _) (b:=.agg _) Tryz.call37 rfl rfl) (kS _ _ _ ((Mono.mono (E3.trans E4) (OwnedB.read hO1))) ((Mono.mono (E3.trans E4) (Owned.read hQ1)))) ?_
   rintro _ w9 ⟨u4,q2,rfl,E5,hA1,hC1,icu4,icq2,gwu4⟩;have hs9:=E5.size;refine Kd ?_;refine ⟨(((((Ew1.trans E1).trans E2).trans E3).trans E4).trans E5),?_⟩
   refine Kp 5 rfl (by kernel_rfl) (by kernel_rfl) rfl (fun _ _=>Ka (v:=.tuple _) rfl) (((((Ew1.trans E1).trans E2).trans E3).trans E4).trans E5) ?_
   refine Kp 6 rfl (by kernel_rfl) (by kernel_rfl) rfl (fun _ _=>Kk (v:=.agg _) rfl rfl) (((((Ew1.trans E1).trans E2).trans E3).trans E4).trans E5) ?_
   refine Kp 7 rfl (by kernel_rfl) (by kernel_rfl) rfl (fun _ _=>Kk (v:=.bool _) rfl rfl) (((((Ew1.trans E1).trans E2).trans E3).trans E4).trans E5) ?_;refine Ku (rs:=[9]) (by kernel_rfl) rfl ?_
   refine Kh rfl ?_ ?_;refine Jl rfl Tryz.sizeOf26 rfl rfl (by first | rfl | assumption) (by first | rfl | assumption) (hB3.ext E5) (by omega) (((((Ew1.trans E1).trans E2).trans E3).trans E4).trans E5) ?_
   rintro w10 E6 hB3 K2 hz2;have E7:=((((E1.trans E2).trans E3).trans E4).trans E5).wroteAt (((((Ew1.trans E1).trans E2).trans E3).trans E4).trans E5) E6 K2 hz2 (by omega);have szE7:=E7.size
   have E8:=(((E2.trans E3).trans E4).trans E5).wroteAt (((((Ew1.trans E1).trans E2).trans E3).trans E4).trans E5) E6 K2 hz2 (by omega);have szE8:=E8.size
   have E9:=((E3.trans E4).trans E5).wroteAt (((((Ew1.trans E1).trans E2).trans E3).trans E4).trans E5) E6 K2 hz2 (by omega);have szE9:=E9.size
   have E10:=(E4.trans E5).wroteAt (((((Ew1.trans E1).trans E2).trans E3).trans E4).trans E5) E6 K2 hz2 (by omega);have szE10:=E10.size
   have hB1:=(hB1.ext ((((E1.trans E2).trans E3).trans E4).trans E5)).of_heap (K2 _ (by omega));have hB2:=(hB2.ext ((((E1.trans E2).trans E3).trans E4).trans E5)).of_heap (K2 _ (by omega))
   have hO1:=(hO1.ext ((E3.trans E4).trans E5)).wrote K2 (by omega);have hQ1:=(hQ1.toB.ext ((E3.trans E4).trans E5)).wrote K2 (by omega);have hA1:=hA1.wrote K2 (by omega);have hC1:=hC1.wrote K2 (by omega);refine Kd ?_
   refine ⟨E6,?_⟩;refine Kp 10 rfl (by kernel_rfl) (by kernel_rfl) rfl (fun _ _=>Kb (v:=.bool _) rfl) E6 ?_;refine Jm (by kernel_rfl) ?_;rotate_left;exact Kl;exact Kl;exact Kl
   refine Kh rfl ?_ ?_;refine Je rfl flat26 ?_;rintro b3 w7 hb3 E3 hB3;have hlb3:=hB3.lt;have hs7:=E3.size;refine Kd ?_;refine ⟨(((Ew1.trans E1).trans E2).trans E3),?_⟩
   refine Ku (rs:=[3]) (by kernel_rfl) rfl ?_;refine Kh rfl ?_ ?_;refine Kj rfl (Jk (a:=.agg _) Tryz.call41 rfl) (toDeed_ok _ _ _ _) ?_;rintro _ w8 ⟨rfl,E4⟩;have hs8:=E4.size;refine Kd ?_
   refine ⟨((((Ew1.trans E1).trans E2).trans E3).trans E4),?_⟩;refine Ku (rs:=[4]) (by kernel_rfl) rfl ?_;refine Kh rfl ?_ ?_
   refine Kj rfl (Jn (a:=.agg _) (b:=.agg _) Tryz.call37 rfl rfl) (kS _ _ _ ((Mono.mono (E3.trans E4) (OwnedB.read hO1))) ((Mono.mono (E3.trans E4) (Owned.read hQ1)))) ?_
   rintro _ w9 ⟨u4,q2,rfl,E5,hA1,hC1,icu4,icq2,gwu4⟩;have hs9:=E5.size;refine Kd ?_;refine ⟨(((((Ew1.trans E1).trans E2).trans E3).trans E4).trans E5),?_⟩
   refine Kp 5 rfl (by kernel_rfl) (by kernel_rfl) rfl (fun _ _=>Ka (v:=.tuple _) rfl) (((((Ew1.trans E1).trans E2).trans E3).trans E4).trans E5) ?_
   refine Kp 6 rfl (by kernel_rfl) (by kernel_rfl) rfl (fun _ _=>Kk (v:=.agg _) rfl rfl) (((((Ew1.trans E1).trans E2).trans E3).trans E4).trans E5) ?_
   refine Kp 7 rfl (by kernel_rfl) (by kernel_rfl) rfl (fun _ _=>Kk (v:=.bool _) rfl rfl) (((((Ew1.trans E1).trans E2).trans E3).trans E4).trans E5) ?_;refine Ku (rs:=[9]) (by kernel_rfl) rfl ?_
   refine Kh rfl ?_ ?_;refine Jl rfl Tryz.sizeOf26 rfl rfl (by first | rfl | assumption) (by first | rfl | assumption) (hB3.ext (E4.trans E5)) (by omega) (((((Ew1.trans E1).trans E2).trans E3).trans E4).trans E5) ?_
   rintro w10 E6 hB3 K2 hz2;have E7:=((((E1.trans E2).trans E3).trans E4).trans E5).wroteAt (((((Ew1.trans E1).trans E2).trans E3).trans E4).trans E5) E6 K2 hz2 (by omega);have szE7:=E7.size
   have E8:=(((E2.trans E3).trans E4).trans E5).wroteAt (((((Ew1.trans E1).trans E2).trans E3).trans E4).trans E5) E6 K2 hz2 (by omega);have szE8:=E8.size
   have E9:=((E3.trans E4).trans E5).wroteAt (((((Ew1.trans E1).trans E2).trans E3).trans E4).trans E5) E6 K2 hz2 (by omega);have szE9:=E9.size
   have hB1:=(hB1.ext ((((E1.trans E2).trans E3).trans E4).trans E5)).of_heap (K2 _ (by omega));have hB2:=(hB2.ext ((((E1.trans E2).trans E3).trans E4).trans E5)).of_heap (K2 _ (by omega))
   have hO1:=(hO1.ext ((E3.trans E4).trans E5)).wrote K2 (by omega);have hQ1:=(hQ1.toB.ext ((E3.trans E4).trans E5)).wrote K2 (by omega);have hA1:=hA1.wrote K2 (by omega);have hC1:=hC1.wrote K2 (by omega);refine Kd ?_
   refine ⟨E6,?_⟩;refine Kp 10 rfl (by kernel_rfl) (by kernel_rfl) rfl (fun _ _=>Kb (v:=.bool _) rfl) E6 ?_;refine Jm (by kernel_rfl) ?_;rotate_left;exact Kl;exact Kl;exact Kl
   exact Kl;refine Kh rfl ?_ ?_;refine Je rfl flat26 ?_;rintro b3 w7 hb3 E3 hB3;have hlb3:=hB3.lt;have hs7:=E3.size;refine Kd ?_;refine ⟨(((Ew1.trans E1).trans E2).trans E3),?_⟩
   refine Ku (rs:=[2]) (by kernel_rfl) rfl ?_;refine Kh rfl ?_ ?_;refine Wo (v:=.agg _) rfl (Jq Tryz.isAgg55 Tryz.sizeOf55 rfl (hB2.ext ((E1.trans E2).trans E3))) <| Kd ?_
   refine ⟨(((Ew1.trans E1).trans E2).trans E3),?_⟩;refine Ku (rs:=[3]) (by kernel_rfl) rfl ?_;refine Kh rfl ?_ ?_;refine Kj rfl (Jk (a:=.agg _) Tryz.call41 rfl) (toDeed_ok _ _ _ _) ?_;rintro _ w8 ⟨rfl,E4⟩
   have hs8:=E4.size;refine Kd ?_;refine ⟨((((Ew1.trans E1).trans E2).trans E3).trans E4),?_⟩;refine Ku (rs:=[4]) (by kernel_rfl) rfl ?_;refine Kh rfl ?_ ?_
   refine Kj rfl (Jn (a:=.agg _) (b:=.agg _) Tryz.call37 rfl rfl) (kS _ _ _ ((Mono.mono (E3.trans E4) (OwnedB.read hO1))) ((Mono.mono (E3.trans E4) (Owned.read hQ1)))) ?_
   rintro _ w9 ⟨u4,q2,rfl,E5,hA1,hC1,icu4,icq2,gwu4⟩;have hs9:=E5.size;refine Kd ?_;refine ⟨(((((Ew1.trans E1).trans E2).trans E3).trans E4).trans E5),?_⟩
   refine Kp 5 rfl (by kernel_rfl) (by kernel_rfl) rfl (fun _ _=>Ka (v:=.tuple _) rfl) (((((Ew1.trans E1).trans E2).trans E3).trans E4).trans E5) ?_
   refine Kp 6 rfl (by kernel_rfl) (by kernel_rfl) rfl (fun _ _=>Kk (v:=.agg _) rfl rfl) (((((Ew1.trans E1).trans E2).trans E3).trans E4).trans E5) ?_
   refine Kp 7 rfl (by kernel_rfl) (by kernel_rfl) rfl (fun _ _=>Kk (v:=.bool _) rfl rfl) (((((Ew1.trans E1).trans E2).trans E3).trans E4).trans E5) ?_;refine Ku (rs:=[9]) (by kernel_rfl) rfl ?_
   refine Kh rfl ?_ ?_;refine Jl rfl Tryz.sizeOf26 rfl rfl (by first | rfl | assumption) (by first | rfl | assumption) (hB3.ext (E4.trans E5)) (by omega) (((((Ew1.trans E1).trans E2).trans E3).trans E4).trans E5) ?_
   rintro w10 E6 hB3 K2 hz2;have E7:=((((E1.trans E2).trans E3).trans E4).trans E5).wroteAt (((((Ew1.trans E1).trans E2).trans E3).trans E4).trans E5) E6 K2 hz2 (by omega);have szE7:=E7.size
   have E8:=(((E2.trans E3).trans E4).trans E5).wroteAt (((((Ew1.trans E1).trans E2).trans E3).trans E4).trans E5) E6 K2 hz2 (by omega);have szE8:=E8.size
   have E9:=((E3.trans E4).trans E5).wroteAt (((((Ew1.trans E1).trans E2).trans E3).trans E4).trans E5) E6 K2 hz2 (by omega);have szE9:=E9.size
   have hB1:=(hB1.ext ((((E1.trans E2).trans E3).trans E4).trans E5)).of_heap (K2 _ (by omega));have hB2:=(hB2.ext ((((E1.trans E2).trans E3).trans E4).trans E5)).of_heap (K2 _ (by omega))
   have hO1:=(hO1.ext ((E3.trans E4).trans E5)).wrote K2 (by omega);have hQ1:=(hQ1.toB.ext ((E3.trans E4).trans E5)).wrote K2 (by omega);have hA1:=hA1.wrote K2 (by omega);have hC1:=hC1.wrote K2 (by omega);refine Kd ?_
   refine ⟨E6,?_⟩;refine Kp 10 rfl (by kernel_rfl) (by kernel_rfl) rfl (fun _ _=>Kb (v:=.bool _) rfl) E6 ?_;refine Jm (by kernel_rfl) ?_;rotate_left;exact Kl;exact Kl;exact Kl
   exact Kl;exact Kl;refine Kh rfl ?_ ?_;refine Wo (v:=.agg _) rfl (Jq Tryz.isAgg55 Tryz.sizeOf55 rfl (hB2.ext E1)) <| Kd ?_;refine ⟨(Ew1.trans E1),?_⟩
   refine Ku (rs:=[1,8]) (by kernel_rfl) rfl ?_;refine Kh rfl ?_ ?_;refine Kj rfl (Jk (a:=.agg _) Tryz.call27 rfl) (kT _ ((Mono.mono (Ew1.trans E1) h1)) ((Mono.mono (Ew1.trans E1) h2))) ?_
   rintro _ w6 ⟨u3,q1,m1,rfl,E2,hO1,hQ1,hm1,hn1⟩;have icu3:=OwnedB.isC hO1;have cpu3:=OwnedB.capOk hO1;have icq1:=OwnedB.isC (Owned.toB hQ1);have cpq1:=OwnedB.capOk (Owned.toB hQ1);have hs6:=E2.size
   refine Kd ?_;refine ⟨((Ew1.trans E1).trans E2),?_⟩;refine Ku (rs:=[3,8]) (by kernel_rfl) rfl ?_;refine Kh rfl ?_ ?_;refine Kj rfl (Jk (a:=.agg _) Tryz.call41 rfl) (toDeed_ok _ _ _ _) ?_
   rintro _ w7 ⟨rfl,E3⟩;have hs7:=E3.size;refine Kd ?_;refine ⟨(((Ew1.trans E1).trans E2).trans E3),?_⟩;refine Ku (rs:=[4,8]) (by kernel_rfl) rfl ?_;refine Kh rfl ?_ ?_
   refine Kj rfl (Jn (a:=.agg _) (b:=.agg _) Tryz.call37 rfl rfl) (kS _ _ _ ((Mono.mono E3 (OwnedB.read hO1))) ((Mono.mono E3 (Owned.read hQ1)))) ?_;rintro _ w8 ⟨u4,q2,rfl,E4,hA1,hC1,icu4,icq2,gwu4⟩
   have hs8:=E4.size;refine Kd ?_;refine ⟨((((Ew1.trans E1).trans E2).trans E3).trans E4),?_⟩
   refine Kp 5 rfl (by kernel_rfl) (by kernel_rfl) rfl (fun _ _=>Ka (v:=.tuple _) rfl) ((((Ew1.trans E1).trans E2).trans E3).trans E4) ?_
   refine Kp 6 rfl (by kernel_rfl) (by kernel_rfl) rfl (fun _ _=>Kk (v:=.agg _) rfl rfl) ((((Ew1.trans E1).trans E2).trans E3).trans E4) ?_
   refine Kp 7 rfl (by kernel_rfl) (by kernel_rfl) rfl (fun _ _=>Kk (v:=.bool _) rfl rfl) ((((Ew1.trans E1).trans E2).trans E3).trans E4) ?_;refine Ku (rs:=[8]) (by kernel_rfl) rfl ?_
   refine Kh rfl ?_ ?_;refine Je rfl flat26 ?_;rintro b3 w9 hb3 E5 hB3;have hlb3:=hB3.lt;have hs9:=E5.size;refine Kd ?_;refine ⟨(((((Ew1.trans E1).trans E2).trans E3).trans E4).trans E5),?_⟩
   refine Ku (rs:=[9]) (by kernel_rfl) rfl ?_;refine Kh rfl ?_ ?_
   refine Jl rfl Tryz.sizeOf26 rfl rfl (by first | rfl | assumption) (by first | rfl | assumption) hB3 (by omega) (((((Ew1.trans E1).trans E2).trans E3).trans E4).trans E5) ?_;rintro w10 E6 hB3 K2 hz2
   have E7:=((((E1.trans E2).trans E3).trans E4).trans E5).wroteAt (((((Ew1.trans E1).trans E2).trans E3).trans E4).trans E5) E6 K2 hz2 (by omega);have szE7:=E7.size
   have E8:=(((E2.trans E3).trans E4).trans E5).wroteAt (((((Ew1.trans E1).trans E2).trans E3).trans E4).trans E5) E6 K2 hz2 (by omega);have szE8:=E8.size
   have E9:=((E3.trans E4).trans E5).wroteAt (((((Ew1.trans E1).trans E2).trans E3).trans E4).trans E5) E6 K2 hz2 (by omega);have szE9:=E9.size
   have E10:=(E4.trans E5).wroteAt (((((Ew1.trans E1).trans E2).trans E3).trans E4).trans E5) E6 K2 hz2 (by omega);have szE10:=E10.size
   have E11:=E5.wroteAt (((((Ew1.trans E1).trans E2).trans E3).trans E4).trans E5) E6 K2 hz2 (by omega);have szE11:=E11.size;have hB1:=(hB1.ext ((((E1.trans E2).trans E3).trans E4).trans E5)).of_heap (K2 _ (by omega))
   have hB2:=(hB2.ext ((((E1.trans E2).trans E3).trans E4).trans E5)).of_heap (K2 _ (by omega));have hO1:=(hO1.ext ((E3.trans E4).trans E5)).wrote K2 (by omega)
   have hQ1:=(hQ1.toB.ext ((E3.trans E4).trans E5)).wrote K2 (by omega);have hA1:=(hA1.ext E5).wrote K2 (by omega);have hC1:=(hC1.ext E5).wrote K2 (by omega);refine Kd ?_;refine ⟨E6,?_⟩
   refine Kp 10 rfl (by kernel_rfl) (by kernel_rfl) rfl (fun _ _=>Kb (v:=.bool _) rfl) E6 ?_;refine Jm (by kernel_rfl) ?_;rotate_left;exact Kl;exact Kl;refine Kh rfl ?_ ?_
   refine Je rfl flat26 ?_;rintro b3 w8 hb3 E4 hB3;have hlb3:=hB3.lt;have hs8:=E4.size;refine Kd ?_;refine ⟨((((Ew1.trans E1).trans E2).trans E3).trans E4),?_⟩;refine Ku (rs:=[4]) (by kernel_rfl) rfl ?_
   refine Kh rfl ?_ ?_;refine Kj rfl (Jn (a:=.agg _) (b:=.agg _) Tryz.call37 rfl rfl) (kS _ _ _ ((Mono.mono (E3.trans E4) (OwnedB.read hO1))) ((Mono.mono (E3.trans E4) (Owned.read hQ1)))) ?_
   rintro _ w9 ⟨u4,q2,rfl,E5,hA1,hC1,icu4,icq2,gwu4⟩;have hs9:=E5.size;refine Kd ?_;refine ⟨(((((Ew1.trans E1).trans E2).trans E3).trans E4).trans E5),?_⟩
   refine Kp 5 rfl (by kernel_rfl) (by kernel_rfl) rfl (fun _ _=>Ka (v:=.tuple _) rfl) (((((Ew1.trans E1).trans E2).trans E3).trans E4).trans E5) ?_
   refine Kp 6 rfl (by kernel_rfl) (by kernel_rfl) rfl (fun _ _=>Kk (v:=.agg _) rfl rfl) (((((Ew1.trans E1).trans E2).trans E3).trans E4).trans E5) ?_
   refine Kp 7 rfl (by kernel_rfl) (by kernel_rfl) rfl (fun _ _=>Kk (v:=.bool _) rfl rfl) (((((Ew1.trans E1).trans E2).trans E3).trans E4).trans E5) ?_;refine Ku (rs:=[9]) (by kernel_rfl) rfl ?_
   refine Kh rfl ?_ ?_;refine Jl rfl Tryz.sizeOf26 rfl rfl (by first | rfl | assumption) (by first | rfl | assumption) (hB3.ext E5) (by omega) (((((Ew1.trans E1).trans E2).trans E3).trans E4).trans E5) ?_
   rintro w10 E6 hB3 K2 hz2;have E7:=((((E1.trans E2).trans E3).trans E4).trans E5).wroteAt (((((Ew1.trans E1).trans E2).trans E3).trans E4).trans E5) E6 K2 hz2 (by omega);have szE7:=E7.size
   have E8:=(((E2.trans E3).trans E4).trans E5).wroteAt (((((Ew1.trans E1).trans E2).trans E3).trans E4).trans E5) E6 K2 hz2 (by omega);have szE8:=E8.size
   have E9:=((E3.trans E4).trans E5).wroteAt (((((Ew1.trans E1).trans E2).trans E3).trans E4).trans E5) E6 K2 hz2 (by omega);have szE9:=E9.size
   have E10:=(E4.trans E5).wroteAt (((((Ew1.trans E1).trans E2).trans E3).trans E4).trans E5) E6 K2 hz2 (by omega);have szE10:=E10.size
   have hB1:=(hB1.ext ((((E1.trans E2).trans E3).trans E4).trans E5)).of_heap (K2 _ (by omega));have hB2:=(hB2.ext ((((E1.trans E2).trans E3).trans E4).trans E5)).of_heap (K2 _ (by omega))
   have hO1:=(hO1.ext ((E3.trans E4).trans E5)).wrote K2 (by omega);have hQ1:=(hQ1.toB.ext ((E3.trans E4).trans E5)).wrote K2 (by omega);have hA1:=hA1.wrote K2 (by omega);have hC1:=hC1.wrote K2 (by omega);refine Kd ?_
   refine ⟨E6,?_⟩;refine Kp 10 rfl (by kernel_rfl) (by kernel_rfl) rfl (fun _ _=>Kb (v:=.bool _) rfl) E6 ?_;refine Jm (by kernel_rfl) ?_;rotate_left;exact Kl;exact Kl;exact Kl
   refine Kh rfl ?_ ?_;refine Je rfl flat26 ?_;rintro b3 w7 hb3 E3 hB3;have hlb3:=hB3.lt;have hs7:=E3.size;refine Kd ?_;refine ⟨(((Ew1.trans E1).trans E2).trans E3),?_⟩
   refine Ku (rs:=[3]) (by kernel_rfl) rfl ?_;refine Kh rfl ?_ ?_;refine Kj rfl (Jk (a:=.agg _) Tryz.call41 rfl) (toDeed_ok _ _ _ _) ?_;rintro _ w8 ⟨rfl,E4⟩;have hs8:=E4.size;refine Kd ?_
   refine ⟨((((Ew1.trans E1).trans E2).trans E3).trans E4),?_⟩;refine Ku (rs:=[4]) (by kernel_rfl) rfl ?_;refine Kh rfl ?_ ?_
   refine Kj rfl (Jn (a:=.agg _) (b:=.agg _) Tryz.call37 rfl rfl) (kS _ _ _ ((Mono.mono (E3.trans E4) (OwnedB.read hO1))) ((Mono.mono (E3.trans E4) (Owned.read hQ1)))) ?_
   rintro _ w9 ⟨u4,q2,rfl,E5,hA1,hC1,icu4,icq2,gwu4⟩;have hs9:=E5.size;refine Kd ?_;refine ⟨(((((Ew1.trans E1).trans E2).trans E3).trans E4).trans E5),?_⟩
   refine Kp 5 rfl (by kernel_rfl) (by kernel_rfl) rfl (fun _ _=>Ka (v:=.tuple _) rfl) (((((Ew1.trans E1).trans E2).trans E3).trans E4).trans E5) ?_
   refine Kp 6 rfl (by kernel_rfl) (by kernel_rfl) rfl (fun _ _=>Kk (v:=.agg _) rfl rfl) (((((Ew1.trans E1).trans E2).trans E3).trans E4).trans E5) ?_
   refine Kp 7 rfl (by kernel_rfl) (by kernel_rfl) rfl (fun _ _=>Kk (v:=.bool _) rfl rfl) (((((Ew1.trans E1).trans E2).trans E3).trans E4).trans E5) ?_;refine Ku (rs:=[9]) (by kernel_rfl) rfl ?_
   refine Kh rfl ?_ ?_;refine Jl rfl Tryz.sizeOf26 rfl rfl (by first | rfl | assumption) (by first | rfl | assumption) (hB3.ext (E4.trans E5)) (by omega) (((((Ew1.trans E1).trans E2).trans E3).trans E4).trans E5) ?_
   rintro w10 E6 hB3 K2 hz2;have E7:=((((E1.trans E2).trans E3).trans E4).trans E5).wroteAt (((((Ew1.trans E1).trans E2).trans E3).trans E4).trans E5) E6 K2 hz2 (by omega);have szE7:=E7.size
   have E8:=(((E2.trans E3).trans E4).trans E5).wroteAt (((((Ew1.trans E1).trans E2).trans E3).trans E4).trans E5) E6 K2 hz2 (by omega);have szE8:=E8.size
   have E9:=((E3.trans E4).trans E5).wroteAt (((((Ew1.trans E1).trans E2).trans E3).trans E4).trans E5) E6 K2 hz2 (by omega);have szE9:=E9.size
   have hB1:=(hB1.ext ((((E1.trans E2).trans E3).trans E4).trans E5)).of_heap (K2 _ (by omega));have hB2:=(hB2.ext ((((E1.trans E2).trans E3).trans E4).trans E5)).of_heap (K2 _ (by omega))
   have hO1:=(hO1.ext ((E3.trans E4).trans E5)).wrote K2 (by omega);have hQ1:=(hQ1.toB.ext ((E3.trans E4).trans E5)).wrote K2 (by omega);have hA1:=hA1.wrote K2 (by omega);have hC1:=hC1.wrote K2 (by omega);refine Kd ?_
   refine ⟨E6,?_⟩;refine Kp 10 rfl (by kernel_rfl) (by kernel_rfl) rfl (fun _ _=>Kb (v:=.bool _) rfl) E6 ?_;refine Jm (by kernel_rfl) ?_;rotate_left;exact Kl;exact Kl;exact Kl
   exact Kl;refine Kh rfl ?_ ?_;refine Je rfl flat26 ?_;rintro b3 w6 hb3 E2 hB3;have hlb3:=hB3.lt;have hs6:=E2.size;refine Kd ?_;refine ⟨((Ew1.trans E1).trans E2),?_⟩
   refine Ku (rs:=[1]) (by kernel_rfl) rfl ?_;refine Kh rfl ?_ ?_;refine Kj rfl (Jk (a:=.agg _) Tryz.call27 rfl) (kT _ ((Mono.mono ((Ew1.trans E1).trans E2) h1)) ((Mono.mono ((Ew1.trans E1).trans E2) h2))) ?_
   rintro _ w7 ⟨u3,q1,m1,rfl,E3,hO1,hQ1,hm1,hn1⟩;have icu3:=OwnedB.isC hO1;have cpu3:=OwnedB.capOk hO1;have icq1:=OwnedB.isC (Owned.toB hQ1);have cpq1:=OwnedB.capOk (Owned.toB hQ1);have hs7:=E3.size
   refine Kd ?_;refine ⟨(((Ew1.trans E1).trans E2).trans E3),?_⟩;refine Ku (rs:=[3]) (by kernel_rfl) rfl ?_;refine Kh rfl ?_ ?_;refine Kj rfl (Jk (a:=.agg _) Tryz.call41 rfl) (toDeed_ok _ _ _ _) ?_
   rintro _ w8 ⟨rfl,E4⟩;have hs8:=E4.size;refine Kd ?_;refine ⟨((((Ew1.trans E1).trans E2).trans E3).trans E4),?_⟩;refine Ku (rs:=[4]) (by kernel_rfl) rfl ?_;refine Kh rfl ?_ ?_
   refine Kj rfl (Jn (a:=.agg _) (b:=.agg _) Tryz.call37 rfl rfl) (kS _ _ _ ((Mono.mono E4 (OwnedB.read hO1))) ((Mono.mono E4 (Owned.read hQ1)))) ?_;rintro _ w9 ⟨u4,q2,rfl,E5,hA1,hC1,icu4,icq2,gwu4⟩
   have hs9:=E5.size;refine Kd ?_;refine ⟨(((((Ew1.trans E1).trans E2).trans E3).trans E4).trans E5),?_⟩
   refine Kp 5 rfl (by kernel_rfl) (by kernel_rfl) rfl (fun _ _=>Ka (v:=.tuple _) rfl) (((((Ew1.trans E1).trans E2).trans E3).trans E4).trans E5) ?_
   refine Kp 6 rfl (by kernel_rfl) (by kernel_rfl) rfl (fun _ _=>Kk (v:=.agg _) rfl rfl) (((((Ew1.trans E1).trans E2).trans E3).trans E4).trans E5) ?_
   refine Kp 7 rfl (by kernel_rfl) (by kernel_rfl) rfl (fun _ _=>Kk (v:=.bool _) rfl rfl) (((((Ew1.trans E1).trans E2).trans E3).trans E4).trans E5) ?_;refine Ku (rs:=[9]) (by kernel_rfl) rfl ?_
   refine Kh rfl ?_ ?_
   refine Jl rfl Tryz.sizeOf26 rfl rfl (by first | rfl | assumption) (by first | rfl | assumption) (hB3.ext ((E3.trans E4).trans E5)) (by omega) (((((Ew1.trans E1).trans E2).trans E3).trans E4).trans E5) ?_
   rintro w10 E6 hB3 K2 hz2;have E7:=((((E1.trans E2).trans E3).trans E4).trans E5).wroteAt (((((Ew1.trans E1).trans E2).trans E3).trans E4).trans E5) E6 K2 hz2 (by omega);have szE7:=E7.size
   have E8:=(((E2.trans E3).trans E4).trans E5).wroteAt (((((Ew1.trans E1).trans E2).trans E3).trans E4).trans E5) E6 K2 hz2 (by omega);have szE8:=E8.size
   have hB1:=(hB1.ext ((((E1.trans E2).trans E3).trans E4).trans E5)).of_heap (K2 _ (by omega));have hB2:=(hB2.ext ((((E1.trans E2).trans E3).trans E4).trans E5)).of_heap (K2 _ (by omega))
   have hO1:=(hO1.ext (E4.trans E5)).wrote K2 (by omega);have hQ1:=(hQ1.toB.ext (E4.trans E5)).wrote K2 (by omega);have hA1:=hA1.wrote K2 (by omega);have hC1:=hC1.wrote K2 (by omega);refine Kd ?_;refine ⟨E6,?_⟩
   refine Kp 10 rfl (by kernel_rfl) (by kernel_rfl) rfl (fun _ _=>Kb (v:=.bool _) rfl) E6 ?_;refine Jm (by kernel_rfl) ?_;rotate_left;exact Kl;exact Kl;exact Kl;exact Kl
   exact Kl;refine Kh rfl ?_ ?_;refine Je rfl flat26 ?_;rintro b3 w6 hb3 E2 hB3;have hlb3:=hB3.lt;have hs6:=E2.size;refine Kd ?_;refine ⟨((Ew1.trans E1).trans E2),?_⟩
   refine Ku (rs:=[1,2]) (by kernel_rfl) rfl ?_;refine Kh rfl ?_ ?_
   refine Kj rfl (Jk (a:=.agg _) Tryz.call27 rfl) (kT _ ((Mono.mono ((Ew1.trans E1).trans E2) h1)) ((Mono.mono ((Ew1.trans E1).trans E2) h2))) ?_;rintro _ w7 ⟨u3,q1,m1,rfl,E3,hO1,hQ1,hm1,hn1⟩
   have icu3:=OwnedB.isC hO1;have cpu3:=OwnedB.capOk hO1;have icq1:=OwnedB.isC (Owned.toB hQ1);have cpq1:=OwnedB.capOk (Owned.toB hQ1);have hs7:=E3.size;refine Kd ?_;refine ⟨(((Ew1.trans E1).trans E2).trans E3),?_⟩
   refine Ku (rs:=[2]) (by kernel_rfl) rfl ?_;refine Kh rfl ?_ ?_;refine Wo (v:=.agg _) rfl (Jq Tryz.isAgg55 Tryz.sizeOf55 rfl (hB2.ext ((E1.trans E2).trans E3))) <| Kd ?_
   refine ⟨(((Ew1.trans E1).trans E2).trans E3),?_⟩;refine Ku (rs:=[3]) (by kernel_rfl) rfl ?_;refine Kh rfl ?_ ?_;refine Kj rfl (Jk (a:=.agg _) Tryz.call41 rfl) (toDeed_ok _ _ _ _) ?_;rintro _ w8 ⟨rfl,E4⟩
   have hs8:=E4.size;refine Kd ?_;refine ⟨((((Ew1.trans E1).trans E2).trans E3).trans E4),?_⟩;refine Ku (rs:=[4]) (by kernel_rfl) rfl ?_;refine Kh rfl ?_ ?_
   refine Kj rfl (Jn (a:=.agg _) (b:=.agg _) Tryz.call37 rfl rfl) (kS _ _ _ ((Mono.mono E4 (OwnedB.read hO1))) ((Mono.mono E4 (Owned.read hQ1)))) ?_;rintro _ w9 ⟨u4,q2,rfl,E5,hA1,hC1,icu4,icq2,gwu4⟩
   have hs9:=E5.size;refine Kd ?_;refine ⟨(((((Ew1.trans E1).trans E2).trans E3).trans E4).trans E5),?_⟩
   refine Kp 5 rfl (by kernel_rfl) (by kernel_rfl) rfl (fun _ _=>Ka (v:=.tuple _) rfl) (((((Ew1.trans E1).trans E2).trans E3).trans E4).trans E5) ?_
   refine Kp 6 rfl (by kernel_rfl) (by kernel_rfl) rfl (fun _ _=>Kk (v:=.agg _) rfl rfl) (((((Ew1.trans E1).trans E2).trans E3).trans E4).trans E5) ?_
   refine Kp 7 rfl (by kernel_rfl) (by kernel_rfl) rfl (fun _ _=>Kk (v:=.bool _) rfl rfl) (((((Ew1.trans E1).trans E2).trans E3).trans E4).trans E5) ?_;refine Ku (rs:=[9]) (by kernel_rfl) rfl ?_
   refine Kh rfl ?_ ?_
   refine Jl rfl Tryz.sizeOf26 rfl rfl (by first | rfl | assumption) (by first | rfl | assumption) (hB3.ext ((E3.trans E4).trans E5)) (by omega) (((((Ew1.trans E1).trans E2).trans E3).trans E4).trans E5) ?_
   rintro w10 E6 hB3 K2 hz2;have E7:=((((E1.trans E2).trans E3).trans E4).trans E5).wroteAt (((((Ew1.trans E1).trans E2).trans E3).trans E4).trans E5) E6 K2 hz2 (by omega);have szE7:=E7.size
   have E8:=(((E2.trans E3).trans E4).trans E5).wroteAt (((((Ew1.trans E1).trans E2).trans E3).trans E4).trans E5) E6 K2 hz2 (by omega);have szE8:=E8.size
   have hB1:=(hB1.ext ((((E1.trans E2).trans E3).trans E4).trans E5)).of_heap (K2 _ (by omega));have hB2:=(hB2.ext ((((E1.trans E2).trans E3).trans E4).trans E5)).of_heap (K2 _ (by omega))
   have hO1:=(hO1.ext (E4.trans E5)).wrote K2 (by omega);have hQ1:=(hQ1.toB.ext (E4.trans E5)).wrote K2 (by omega);have hA1:=hA1.wrote K2 (by omega);have hC1:=hC1.wrote K2 (by omega);refine Kd ?_;refine ⟨E6,?_⟩
   refine Kp 10 rfl (by kernel_rfl) (by kernel_rfl) rfl (fun _ _=>Kb (v:=.bool _) rfl) E6 ?_;refine Jm (by kernel_rfl) ?_;rotate_left;exact Kl;exact Kl;exact Kl;exact Kl
   refine Kh rfl ?_ ?_;refine Wo (v:=.agg _) rfl (Jq Tryz.isAgg55 Tryz.sizeOf55 rfl (hB2.ext (E1.trans E2))) <| Kd ?_;refine ⟨((Ew1.trans E1).trans E2),?_⟩
   refine Ku (rs:=[1]) (by kernel_rfl) rfl ?_;refine Kh rfl ?_ ?_;refine Kj rfl (Jk (a:=.agg _) Tryz.call27 rfl) (kT _ ((Mono.mono ((Ew1.trans E1).trans E2) h1)) ((Mono.mono ((Ew1.trans E1).trans E2) h2))) ?_
   rintro _ w7 ⟨u3,q1,m1,rfl,E3,hO1,hQ1,hm1,hn1⟩;have icu3:=OwnedB.isC hO1;have cpu3:=OwnedB.capOk hO1;have icq1:=OwnedB.isC (Owned.toB hQ1);have cpq1:=OwnedB.capOk (Owned.toB hQ1);have hs7:=E3.size
   refine Kd ?_;refine ⟨(((Ew1.trans E1).trans E2).trans E3),?_⟩;refine Ku (rs:=[3]) (by kernel_rfl) rfl ?_;refine Kh rfl ?_ ?_;refine Kj rfl (Jk (a:=.agg _) Tryz.call41 rfl) (toDeed_ok _ _ _ _) ?_
   rintro _ w8 ⟨rfl,E4⟩;have hs8:=E4.size;refine Kd ?_;refine ⟨((((Ew1.trans E1).trans E2).trans E3).trans E4),?_⟩;refine Ku (rs:=[4]) (by kernel_rfl) rfl ?_;refine Kh rfl ?_ ?_
   refine Kj rfl (Jn (a:=.agg _) (b:=.agg _) Tryz.call37 rfl rfl) (kS _ _ _ ((Mono.mono E4 (OwnedB.read hO1))) ((Mono.mono E4 (Owned.read hQ1)))) ?_;rintro _ w9 ⟨u4,q2,rfl,E5,hA1,hC1,icu4,icq2,gwu4⟩
   have hs9:=E5.size;refine Kd ?_;refine ⟨(((((Ew1.trans E1).trans E2).trans E3).trans E4).trans E5),?_⟩
   refine Kp 5 rfl (by kernel_rfl) (by kernel_rfl) rfl (fun _ _=>Ka (v:=.tuple _) rfl) (((((Ew1.trans E1).trans E2).trans E3).trans E4).trans E5) ?_
   refine Kp 6 rfl (by kernel_rfl) (by kernel_rfl) rfl (fun _ _=>Kk (v:=.agg _) rfl rfl) (((((Ew1.trans E1).trans E2).trans E3).trans E4).trans E5) ?_
   refine Kp 7 rfl (by kernel_rfl) (by kernel_rfl) rfl (fun _ _=>Kk (v:=.bool _) rfl rfl) (((((Ew1.trans E1).trans E2).trans E3).trans E4).trans E5) ?_;refine Ku (rs:=[9]) (by kernel_rfl) rfl ?_
   refine Kh rfl ?_ ?_
   refine Jl rfl Tryz.sizeOf26 rfl rfl (by first | rfl | assumption) (by first | rfl | assumption) (hB3.ext ((E3.trans E4).trans E5)) (by omega) (((((Ew1.trans E1).trans E2).trans E3).trans E4).trans E5) ?_
   rintro w10 E6 hB3 K2 hz2;have E7:=((((E1.trans E2).trans E3).trans E4).trans E5).wroteAt (((((Ew1.trans E1).trans E2).trans E3).trans E4).trans E5) E6 K2 hz2 (by omega);have szE7:=E7.size
   have E8:=(((E2.trans E3).trans E4).trans E5).wroteAt (((((Ew1.trans E1).trans E2).trans E3).trans E4).trans E5) E6 K2 hz2 (by omega);have szE8:=E8.size
   have hB1:=(hB1.ext ((((E1.trans E2).trans E3).trans E4).trans E5)).of_heap (K2 _ (by omega));have hB2:=(hB2.ext ((((E1.trans E2).trans E3).trans E4).trans E5)).of_heap (K2 _ (by omega))
   have hO1:=(hO1.ext (E4.trans E5)).wrote K2 (by omega);have hQ1:=(hQ1.toB.ext (E4.trans E5)).wrote K2 (by omega);have hA1:=hA1.wrote K2 (by omega);have hC1:=hC1.wrote K2 (by omega);refine Kd ?_;refine ⟨E6,?_⟩
   refine Kp 10 rfl (by kernel_rfl) (by kernel_rfl) rfl (fun _ _=>Kb (v:=.bool _) rfl) E6 ?_;refine Jm (by kernel_rfl) ?_;rotate_left;exact Kl;exact Kl;exact Kl;exact Kl
   exact Kl;exact Kl;refine Kh rfl ?_ ?_;refine Wo (v:=.agg _) rfl (Jq Tryz.isAgg55 Tryz.sizeOf55 rfl (hB2.ext E1)) <| Kd ?_;refine ⟨(Ew1.trans E1),?_⟩
   refine Ku (rs:=[0,8]) (by kernel_rfl) rfl ?_;refine Kh rfl ?_ ?_;refine Wo (v:=.agg _) rfl (Jd Tryz.isAgg40 Tryz.sizeOf40 rfl (hB1.ext E1)) <| Kd ?_;refine ⟨(Ew1.trans E1),?_⟩
   refine Ku (rs:=[1,8]) (by kernel_rfl) rfl ?_;refine Kh rfl ?_ ?_;refine Kj rfl (Jk (a:=.agg _) Tryz.call27 rfl) (kT _ ((Mono.mono (Ew1.trans E1) h1)) ((Mono.mono (Ew1.trans E1) h2))) ?_
   rintro _ w6 ⟨u3,q1,m1,rfl,E2,hO1,hQ1,hm1,hn1⟩;have icu3:=OwnedB.isC hO1;have cpu3:=OwnedB.capOk hO1;have icq1:=OwnedB.isC (Owned.toB hQ1);have cpq1:=OwnedB.capOk (Owned.toB hQ1);have hs6:=E2.size
   refine Kd ?_;refine ⟨((Ew1.trans E1).trans E2),?_⟩;refine Ku (rs:=[3,8]) (by kernel_rfl) rfl ?_;refine Kh rfl ?_ ?_;refine Kj rfl (Jk (a:=.agg _) Tryz.call41 rfl) (toDeed_ok _ _ _ _) ?_
   rintro _ w7 ⟨rfl,E3⟩;have hs7:=E3.size;refine Kd ?_;refine ⟨(((Ew1.trans E1).trans E2).trans E3),?_⟩;refine Ku (rs:=[4,8]) (by kernel_rfl) rfl ?_;refine Kh rfl ?_ ?_
   refine Kj rfl (Jn (a:=.agg _) (b:=.agg _) Tryz.call37 rfl rfl) (kS _ _ _ ((Mono.mono E3 (OwnedB.read hO1))) ((Mono.mono E3 (Owned.read hQ1)))) ?_;rintro _ w8 ⟨u4,q2,rfl,E4,hA1,hC1,icu4,icq2,gwu4⟩
   have hs8:=E4.size;refine Kd ?_;refine ⟨((((Ew1.trans E1).trans E2).trans E3).trans E4),?_⟩
   refine Kp 5 rfl (by kernel_rfl) (by kernel_rfl) rfl (fun _ _=>Ka (v:=.tuple _) rfl) ((((Ew1.trans E1).trans E2).trans E3).trans E4) ?_
   refine Kp 6 rfl (by kernel_rfl) (by kernel_rfl) rfl (fun _ _=>Kk (v:=.agg _) rfl rfl) ((((Ew1.trans E1).trans E2).trans E3).trans E4) ?_
   refine Kp 7 rfl (by kernel_rfl) (by kernel_rfl) rfl (fun _ _=>Kk (v:=.bool _) rfl rfl) ((((Ew1.trans E1).trans E2).trans E3).trans E4) ?_;refine Ku (rs:=[8]) (by kernel_rfl) rfl ?_
   refine Kh rfl ?_ ?_;refine Je rfl flat26 ?_;rintro b3 w9 hb3 E5 hB3;have hlb3:=hB3.lt;have hs9:=E5.size;refine Kd ?_;refine ⟨(((((Ew1.trans E1).trans E2).trans E3).trans E4).trans E5),?_⟩
   refine Ku (rs:=[9]) (by kernel_rfl) rfl ?_;refine Kh rfl ?_ ?_
   refine Jl rfl Tryz.sizeOf26 rfl rfl (by first | rfl | assumption) (by first | rfl | assumption) hB3 (by omega) (((((Ew1.trans E1).trans E2).trans E3).trans E4).trans E5) ?_;rintro w10 E6 hB3 K2 hz2
   have E7:=((((E1.trans E2).trans E3).trans E4).trans E5).wroteAt (((((Ew1.trans E1).trans E2).trans E3).trans E4).trans E5) E6 K2 hz2 (by omega);have szE7:=E7.size
   have E8:=(((E2.trans E3).trans E4).trans E5).wroteAt (((((Ew1.trans E1).trans E2).trans E3).trans E4).trans E5) E6 K2 hz2 (by omega);have szE8:=E8.size
   have E9:=((E3.trans E4).trans E5).wroteAt (((((Ew1.trans E1).trans E2).trans E3).trans E4).trans E5) E6 K2 hz2 (by omega);have szE9:=E9.size
   have E10:=(E4.trans E5).wroteAt (((((Ew1.trans E1).trans E2).trans E3).trans E4).trans E5) E6 K2 hz2 (by omega);have szE10:=E10.size
   have E11:=E5.wroteAt (((((Ew1.trans E1).trans E2).trans E3).trans E4).trans E5) E6 K2 hz2 (by omega);have szE11:=E11.size;have hB1:=(hB1.ext ((((E1.trans E2).trans E3).trans E4).trans E5)).of_heap (K2 _ (by omega))
   have hB2:=(hB2.ext ((((E1.trans E2).trans E3).trans E4).trans E5)).of_heap (K2 _ (by omega));have hO1:=(hO1.ext ((E3.trans E4).trans E5)).wrote K2 (by omega)
   have hQ1:=(hQ1.toB.ext ((E3.trans E4).trans E5)).wrote K2 (by omega);have hA1:=(hA1.ext E5).wrote K2 (by omega);have hC1:=(hC1.ext E5).wrote K2 (by omega);refine Kd ?_;refine ⟨E6,?_⟩
   refine Kp 10 rfl (by kernel_rfl) (by kernel_rfl) rfl (fun _ _=>Kb (v:=.bool _) rfl) E6 ?_;refine Jm (by kernel_rfl) ?_;rotate_left;exact Kl;exact Kl;refine Kh rfl ?_ ?_
   refine Je rfl flat26 ?_;rintro b3 w8 hb3 E4 hB3;have hlb3:=hB3.lt;have hs8:=E4.size;refine Kd ?_;refine ⟨((((Ew1.trans E1).trans E2).trans E3).trans E4),?_⟩;refine Ku (rs:=[4]) (by kernel_rfl) rfl ?_
   refine Kh rfl ?_ ?_;refine Kj rfl (Jn (a:=.agg _) (b:=.agg _) Tryz.call37 rfl rfl) (kS _ _ _ ((Mono.mono (E3.trans E4) (OwnedB.read hO1))) ((Mono.mono (E3.trans E4) (Owned.read hQ1)))) ?_
   rintro _ w9 ⟨u4,q2,rfl,E5,hA1,hC1,icu4,icq2,gwu4⟩;have hs9:=E5.size;refine Kd ?_;refine ⟨(((((Ew1.trans E1).trans E2).trans E3).trans E4).trans E5),?_⟩
   refine Kp 5 rfl (by kernel_rfl) (by kernel_rfl) rfl (fun _ _=>Ka (v:=.tuple _) rfl) (((((Ew1.trans E1).trans E2).trans E3).trans E4).trans E5) ?_
   refine Kp 6 rfl (by kernel_rfl) (by kernel_rfl) rfl (fun _ _=>Kk (v:=.agg _) rfl rfl) (((((Ew1.trans E1).trans E2).trans E3).trans E4).trans E5) ?_
   refine Kp 7 rfl (by kernel_rfl) (by kernel_rfl) rfl (fun _ _=>Kk (v:=.bool _) rfl rfl) (((((Ew1.trans E1).trans E2).trans E3).trans E4).trans E5) ?_;refine Ku (rs:=[9]) (by kernel_rfl) rfl ?_
   refine Kh rfl ?_ ?_;refine Jl rfl Tryz.sizeOf26 rfl rfl (by first | rfl | assumption) (by first | rfl | assumption) (hB3.ext E5) (by omega) (((((Ew1.trans E1).trans E2).trans E3).trans E4).trans E5) ?_
   rintro w10 E6 hB3 K2 hz2;have E7:=((((E1.trans E2).trans E3).trans E4).trans E5).wroteAt (((((Ew1.trans E1).trans E2).trans E3).trans E4).trans E5) E6 K2 hz2 (by omega);have szE7:=E7.size
   have E8:=(((E2.trans E3).trans E4).trans E5).wroteAt (((((Ew1.trans E1).trans E2).trans E3).trans E4).trans E5) E6 K2 hz2 (by omega);have szE8:=E8.size
   have E9:=((E3.trans E4).trans E5).wroteAt (((((Ew1.trans E1).trans E2).trans E3).trans E4).trans E5) E6 K2 hz2 (by omega);have szE9:=E9.size
   have E10:=(E4.trans E5).wroteAt (((((Ew1.trans E1).trans E2).trans E3).trans E4).trans E5) E6 K2 hz2 (by omega);have szE10:=E10.size
   have hB1:=(hB1.ext ((((E1.trans E2).trans E3).trans E4).trans E5)).of_heap (K2 _ (by omega));have hB2:=(hB2.ext ((((E1.trans E2).trans E3).trans E4).trans E5)).of_heap (K2 _ (by omega))
   have hO1:=(hO1.ext ((E3.trans E4).trans E5)).wrote K2 (by omega);have hQ1:=(hQ1.toB.ext ((E3.trans E4).trans E5)).wrote K2 (by omega);have hA1:=hA1.wrote K2 (by omega);have hC1:=hC1.wrote K2 (by omega);refine Kd ?_
   refine ⟨E6,?_⟩;refine Kp 10 rfl (by kernel_rfl) (by kernel_rfl) rfl (fun _ _=>Kb (v:=.bool _) rfl) E6 ?_;refine Jm (by kernel_rfl) ?_;rotate_left;exact Kl;exact Kl;exact Kl
   refine Kh rfl ?_ ?_;refine Je rfl flat26 ?_;rintro b3 w7 hb3 E3 hB3;have hlb3:=hB3.lt;have hs7:=E3.size;refine Kd ?_;refine ⟨(((Ew1.trans E1).trans E2).trans E3),?_⟩
   refine Ku (rs:=[3]) (by kernel_rfl) rfl ?_;refine Kh rfl ?_ ?_;refine Kj rfl (Jk (a:=.agg _) Tryz.call41 rfl) (toDeed_ok _ _ _ _) ?_;rintro _ w8 ⟨rfl,E4⟩;have hs8:=E4.size;refine Kd ?_
   refine ⟨((((Ew1.trans E1).trans E2).trans E3).trans E4),?_⟩;refine Ku (rs:=[4]) (by kernel_rfl) rfl ?_;refine Kh rfl ?_ ?_
   refine Kj rfl (Jn (a:=.agg _) (b:=.agg _) Tryz.call37 rfl rfl) (kS _ _ _ ((Mono.mono (E3.trans E4) (OwnedB.read hO1))) ((Mono.mono (E3.trans E4) (Owned.read hQ1)))) ?_
   rintro _ w9 ⟨u4,q2,rfl,E5,hA1,hC1,icu4,icq2,gwu4⟩;have hs9:=E5.size;refine Kd ?_;refine ⟨(((((Ew1.trans E1).trans E2).trans E3).trans E4).trans E5),?_⟩
   refine Kp 5 rfl (by kernel_rfl) (by kernel_rfl) rfl (fun _ _=>Ka (v:=.tuple _) rfl) (((((Ew1.trans E1).trans E2).trans E3).trans E4).trans E5) ?_
   refine Kp 6 rfl (by kernel_rfl) (by kernel_rfl) rfl (fun _ _=>Kk (v:=.agg _) rfl rfl) (((((Ew1.trans E1).trans E2).trans E3).trans E4).trans E5) ?_
   refine Kp 7 rfl (by kernel_rfl) (by kernel_rfl) rfl (fun _ _=>Kk (v:=.bool _) rfl rfl) (((((Ew1.trans E1).trans E2).trans E3).trans E4).trans E5) ?_;refine Ku (rs:=[9]) (by kernel_rfl) rfl ?_
   refine Kh rfl ?_ ?_;refine Jl rfl Tryz.sizeOf26 rfl rfl (by first | rfl | assumption) (by first | rfl | assumption) (hB3.ext (E4.trans E5)) (by omega) (((((Ew1.trans E1).trans E2).trans E3).trans E4).trans E5) ?_
   rintro w10 E6 hB3 K2 hz2;have E7:=((((E1.trans E2).trans E3).trans E4).trans E5).wroteAt (((((Ew1.trans E1).trans E2).trans E3).trans E4).trans E5) E6 K2 hz2 (by omega);have szE7:=E7.size
   have E8:=(((E2.trans E3).trans E4).trans E5).wroteAt (((((Ew1.trans E1).trans E2).trans E3).trans E4).trans E5) E6 K2 hz2 (by omega);have szE8:=E8.size
   have E9:=((E3.trans E4).trans E5).wroteAt (((((Ew1.trans E1).trans E2).trans E3).trans E4).trans E5) E6 K2 hz2 (by omega);have szE9:=E9.size
   have hB1:=(hB1.ext ((((E1.trans E2).trans E3).trans E4).trans E5)).of_heap (K2 _ (by omega));have hB2:=(hB2.ext ((((E1.trans E2).trans E3).trans E4).trans E5)).of_heap (K2 _ (by omega))
   have hO1:=(hO1.ext ((E3.trans E4).trans E5)).wrote K2 (by omega);have hQ1:=(hQ1.toB.ext ((E3.trans E4).trans E5)).wrote K2 (by omega);have hA1:=hA1.wrote K2 (by omega);have hC1:=hC1.wrote K2 (by omega);refine Kd ?_
   refine ⟨E6,?_⟩;refine Kp 10 rfl (by kernel_rfl) (by kernel_rfl) rfl (fun _ _=>Kb (v:=.bool _) rfl) E6 ?_;refine Jm (by kernel_rfl) ?_;rotate_left;exact Kl;exact Kl;exact Kl
   exact Kl;refine Kh rfl ?_ ?_;refine Je rfl flat26 ?_;rintro b3 w6 hb3 E2 hB3;have hlb3:=hB3.lt;have hs6:=E2.size;refine Kd ?_;refine ⟨((Ew1.trans E1).trans E2),?_⟩
   refine Ku (rs:=[1]) (by kernel_rfl) rfl ?_;refine Kh rfl ?_ ?_;refine Kj rfl (Jk (a:=.agg _) Tryz.call27 rfl) (kT _ ((Mono.mono ((Ew1.trans E1).trans E2) h1)) ((Mono.mono ((Ew1.trans E1).trans E2) h2))) ?_
   rintro _ w7 ⟨u3,q1,m1,rfl,E3,hO1,hQ1,hm1,hn1⟩;have icu3:=OwnedB.isC hO1;have cpu3:=OwnedB.capOk hO1;have icq1:=OwnedB.isC (Owned.toB hQ1);have cpq1:=OwnedB.capOk (Owned.toB hQ1);have hs7:=E3.size
   refine Kd ?_;refine ⟨(((Ew1.trans E1).trans E2).trans E3),?_⟩;refine Ku (rs:=[3]) (by kernel_rfl) rfl ?_;refine Kh rfl ?_ ?_;refine Kj rfl (Jk (a:=.agg _) Tryz.call41 rfl) (toDeed_ok _ _ _ _) ?_
   rintro _ w8 ⟨rfl,E4⟩;have hs8:=E4.size;refine Kd ?_;refine ⟨((((Ew1.trans E1).trans E2).trans E3).trans E4),?_⟩;refine Ku (rs:=[4]) (by kernel_rfl) rfl ?_;refine Kh rfl ?_ ?_
   refine Kj rfl (Jn (a:=.agg _) (b:=.agg _) Tryz.call37 rfl rfl) (kS _ _ _ ((Mono.mono E4 (OwnedB.read hO1))) ((Mono.mono E4 (Owned.read hQ1)))) ?_;rintro _ w9 ⟨u4,q2,rfl,E5,hA1,hC1,icu4,icq2,gwu4⟩
   have hs9:=E5.size;refine Kd ?_;refine ⟨(((((Ew1.trans E1).trans E2).trans E3).trans E4).trans E5),?_⟩
   refine Kp 5 rfl (by kernel_rfl) (by kernel_rfl) rfl (fun _ _=>Ka (v:=.tuple _) rfl) (((((Ew1.trans E1).trans E2).trans E3).trans E4).trans E5) ?_
   refine Kp 6 rfl (by kernel_rfl) (by kernel_rfl) rfl (fun _ _=>Kk (v:=.agg _) rfl rfl) (((((Ew1.trans E1).trans E2).trans E3).trans E4).trans E5) ?_
   refine Kp 7 rfl (by kernel_rfl) (by kernel_rfl) rfl (fun _ _=>Kk (v:=.bool _) rfl rfl) (((((Ew1.trans E1).trans E2).trans E3).trans E4).trans E5) ?_;refine Ku (rs:=[9]) (by kernel_rfl) rfl ?_
   refine Kh rfl ?_ ?_
   refine Jl rfl Tryz.sizeOf26 rfl rfl (by first | rfl | assumption) (by first | rfl | assumption) (hB3.ext ((E3.trans E4).trans E5)) (by omega) (((((Ew1.trans E1).trans E2).trans E3).trans E4).trans E5) ?_
   rintro w10 E6 hB3 K2 hz2;have E7:=((((E1.trans E2).trans E3).trans E4).trans E5).wroteAt (((((Ew1.trans E1).trans E2).trans E3).trans E4).trans E5) E6 K2 hz2 (by omega);have szE7:=E7.size
   have E8:=(((E2.trans E3).trans E4).trans E5).wroteAt (((((Ew1.trans E1).trans E2).trans E3).trans E4).trans E5) E6 K2 hz2 (by omega);have szE8:=E8.size
   have hB1:=(hB1.ext ((((E1.trans E2).trans E3).trans E4).trans E5)).of_heap (K2 _ (by omega));have hB2:=(hB2.ext ((((E1.trans E2).trans E3).trans E4).trans E5)).of_heap (K2 _ (by omega))
   have hO1:=(hO1.ext (E4.trans E5)).wrote K2 (by omega);have hQ1:=(hQ1.toB.ext (E4.trans E5)).wrote K2 (by omega);have hA1:=hA1.wrote K2 (by omega);have hC1:=hC1.wrote K2 (by omega);refine Kd ?_;refine ⟨E6,?_⟩
   refine Kp 10 rfl (by kernel_rfl) (by kernel_rfl) rfl (fun _ _=>Kb (v:=.bool _) rfl) E6 ?_;refine Jm (by kernel_rfl) ?_;rotate_left;exact Kl;exact Kl;exact Kl;exact Kl
   exact Kl;refine Kh rfl ?_ ?_;refine Je rfl flat26 ?_;rintro b3 w6 hb3 E2 hB3;have hlb3:=hB3.lt;have hs6:=E2.size;refine Kd ?_;refine ⟨((Ew1.trans E1).trans E2),?_⟩
   refine Ku (rs:=[0]) (by kernel_rfl) rfl ?_;refine Kh rfl ?_ ?_;refine Wo (v:=.agg _) rfl (Jd Tryz.isAgg40 Tryz.sizeOf40 rfl (hB1.ext (E1.trans E2))) <| Kd ?_
   refine ⟨((Ew1.trans E1).trans E2),?_⟩;refine Ku (rs:=[1]) (by kernel_rfl) rfl ?_;refine Kh rfl ?_ ?_
   refine Kj rfl (Jk (a:=.agg _) Tryz.call27 rfl) (kT _ ((Mono.mono ((Ew1.trans E1).trans E2) h1)) ((Mono.mono ((Ew1.trans E1).trans E2) h2))) ?_;rintro _ w7 ⟨u3,q1,m1,rfl,E3,hO1,hQ1,hm1,hn1⟩
   have icu3:=OwnedB.isC hO1;have cpu3:=OwnedB.capOk hO1;have icq1:=OwnedB.isC (Owned.toB hQ1);have cpq1:=OwnedB.capOk (Owned.toB hQ1);have hs7:=E3.size;refine Kd ?_;refine ⟨(((Ew1.trans E1).trans E2).trans E3),?_⟩
   refine Ku (rs:=[3]) (by kernel_rfl) rfl ?_;refine Kh rfl ?_ ?_;refine Kj rfl (Jk (a:=.agg _) Tryz.call41 rfl) (toDeed_ok _ _ _ _) ?_;rintro _ w8 ⟨rfl,E4⟩;have hs8:=E4.size;refine Kd ?_
   refine ⟨((((Ew1.trans E1).trans E2).trans E3).trans E4),?_⟩;refine Ku (rs:=[4]) (by kernel_rfl) rfl ?_;refine Kh rfl ?_ ?_
   refine Kj rfl (Jn (a:=.agg _) (b:=.agg _) Tryz.call37 rfl rfl) (kS _ _ _ ((Mono.mono E4 (OwnedB.read hO1))) ((Mono.mono E4 (Owned.read hQ1)))) ?_;rintro _ w9 ⟨u4,q2,rfl,E5,hA1,hC1,icu4,icq2,gwu4⟩
   have hs9:=E5.size;refine Kd ?_;refine ⟨(((((Ew1.trans E1).trans E2).trans E3).trans E4).trans E5),?_⟩
   refine Kp 5 rfl (by kernel_rfl) (by kernel_rfl) rfl (fun _ _=>Ka (v:=.tuple _) rfl) (((((Ew1.trans E1).trans E2).trans E3).trans E4).trans E5) ?_
   refine Kp 6 rfl (by kernel_rfl) (by kernel_rfl) rfl (fun _ _=>Kk (v:=.agg _) rfl rfl) (((((Ew1.trans E1).trans E2).trans E3).trans E4).trans E5) ?_
   refine Kp 7 rfl (by kernel_rfl) (by kernel_rfl) rfl (fun _ _=>Kk (v:=.bool _) rfl rfl) (((((Ew1.trans E1).trans E2).trans E3).trans E4).trans E5) ?_;refine Ku (rs:=[9]) (by kernel_rfl) rfl ?_
   refine Kh rfl ?_ ?_
   refine Jl rfl Tryz.sizeOf26 rfl rfl (by first | rfl | assumption) (by first | rfl | assumption) (hB3.ext ((E3.trans E4).trans E5)) (by omega) (((((Ew1.trans E1).trans E2).trans E3).trans E4).trans E5) ?_
   rintro w10 E6 hB3 K2 hz2;have E7:=((((E1.trans E2).trans E3).trans E4).trans E5).wroteAt (((((Ew1.trans E1).trans E2).trans E3).trans E4).trans E5) E6 K2 hz2 (by omega);have szE7:=E7.size
   have E8:=(((E2.trans E3).trans E4).trans E5).wroteAt (((((Ew1.trans E1).trans E2).trans E3).trans E4).trans E5) E6 K2 hz2 (by omega);have szE8:=E8.size
   have hB1:=(hB1.ext ((((E1.trans E2).trans E3).trans E4).trans E5)).of_heap (K2 _ (by omega));have hB2:=(hB2.ext ((((E1.trans E2).trans E3).trans E4).trans E5)).of_heap (K2 _ (by omega))
   have hO1:=(hO1.ext (E4.trans E5)).wrote K2 (by omega);have hQ1:=(hQ1.toB.ext (E4.trans E5)).wrote K2 (by omega);have hA1:=hA1.wrote K2 (by omega);have hC1:=hC1.wrote K2 (by omega);refine Kd ?_;refine ⟨E6,?_⟩
   refine Kp 10 rfl (by kernel_rfl) (by kernel_rfl) rfl (fun _ _=>Kb (v:=.bool _) rfl) E6 ?_;refine Jm (by kernel_rfl) ?_;rotate_left;exact Kl;exact Kl;exact Kl;exact Kl
   exact Kl;exact Kl;refine Kh rfl ?_ ?_;refine Je rfl flat26 ?_;rintro b3 w6 hb3 E2 hB3;have hlb3:=hB3.lt;have hs6:=E2.size;refine Kd ?_;refine ⟨((Ew1.trans E1).trans E2),?_⟩
   refine Ku (rs:=[0,2]) (by kernel_rfl) rfl ?_;refine Kh rfl ?_ ?_;refine Wo (v:=.agg _) rfl (Jd Tryz.isAgg40 Tryz.sizeOf40 rfl (hB1.ext (E1.trans E2))) <| Kd ?_
   refine ⟨((Ew1.trans E1).trans E2),?_⟩;refine Ku (rs:=[1,2]) (by kernel_rfl) rfl ?_;refine Kh rfl ?_ ?_
   refine Kj rfl (Jk (a:=.agg _) Tryz.call27 rfl) (kT _ ((Mono.mono ((Ew1.trans E1).trans E2) h1)) ((Mono.mono ((Ew1.trans E1).trans E2) h2))) ?_;rintro _ w7 ⟨u3,q1,m1,rfl,E3,hO1,hQ1,hm1,hn1⟩
   have icu3:=OwnedB.isC hO1;have cpu3:=OwnedB.capOk hO1;have icq1:=OwnedB.isC (Owned.toB hQ1);have cpq1:=OwnedB.capOk (Owned.toB hQ1);have hs7:=E3.size;refine Kd ?_;refine ⟨(((Ew1.trans E1).trans E2).trans E3),?_⟩
   refine Ku (rs:=[2]) (by kernel_rfl) rfl ?_;refine Kh rfl ?_ ?_;refine Wo (v:=.agg _) rfl (Jq Tryz.isAgg55 Tryz.sizeOf55 rfl (hB2.ext ((E1.trans E2).trans E3))) <| Kd ?_
   refine ⟨(((Ew1.trans E1).trans E2).trans E3),?_⟩;refine Ku (rs:=[3]) (by kernel_rfl) rfl ?_;refine Kh rfl ?_ ?_;refine Kj rfl (Jk (a:=.agg _) Tryz.call41 rfl) (toDeed_ok _ _ _ _) ?_;rintro _ w8 ⟨rfl,E4⟩
   have hs8:=E4.size;refine Kd ?_;refine ⟨((((Ew1.trans E1).trans E2).trans E3).trans E4),?_⟩;refine Ku (rs:=[4]) (by kernel_rfl) rfl ?_;refine Kh rfl ?_ ?_
   refine Kj rfl (Jn (a:=.agg _) (b:=.agg _) Tryz.call37 rfl rfl) (kS _ _ _ ((Mono.mono E4 (OwnedB.read hO1))) ((Mono.mono E4 (Owned.read hQ1)))) ?_;rintro _ w9 ⟨u4,q2,rfl,E5,hA1,hC1,icu4,icq2,gwu4⟩
   have hs9:=E5.size;refine Kd ?_;refine ⟨(((((Ew1.trans E1).trans E2).trans E3).trans E4).trans E5),?_⟩
   refine Kp 5 rfl (by kernel_rfl) (by kernel_rfl) rfl (fun _ _=>Ka (v:=.tuple _) rfl) (((((Ew1.trans E1).trans E2).trans E3).trans E4).trans E5) ?_
   refine Kp 6 rfl (by kernel_rfl) (by kernel_rfl) rfl (fun _ _=>Kk (v:=.agg _) rfl rfl) (((((Ew1.trans E1).trans E2).trans E3).trans E4).trans E5) ?_
   refine Kp 7 rfl (by kernel_rfl) (by kernel_rfl) rfl (fun _ _=>Kk (v:=.bool _) rfl rfl) (((((Ew1.trans E1).trans E2).trans E3).trans E4).trans E5) ?_;refine Ku (rs:=[9]) (by kernel_rfl) rfl ?_
   refine Kh rfl ?_ ?_
   refine Jl rfl Tryz.sizeOf26 rfl rfl (by first | rfl | assumption) (by first | rfl | assumption) (hB3.ext ((E3.trans E4).trans E5)) (by omega) (((((Ew1.trans E1).trans E2).trans E3).trans E4).trans E5) ?_
   rintro w10 E6 hB3 K2 hz2;have E7:=((((E1.trans E2).trans E3).trans E4).trans E5).wroteAt (((((Ew1.trans E1).trans E2).trans E3).trans E4).trans E5) E6 K2 hz2 (by omega);have szE7:=E7.size
   have E8:=(((E2.trans E3).trans E4).trans E5).wroteAt (((((Ew1.trans E1).trans E2).trans E3).trans E4).trans E5) E6 K2 hz2 (by omega);have szE8:=E8.size
   have hB1:=(hB1.ext ((((E1.trans E2).trans E3).trans E4).trans E5)).of_heap (K2 _ (by omega));have hB2:=(hB2.ext ((((E1.trans E2).trans E3).trans E4).trans E5)).of_heap (K2 _ (by omega))
   have hO1:=(hO1.ext (E4.trans E5)).wrote K2 (by omega);have hQ1:=(hQ1.toB.ext (E4.trans E5)).wrote K2 (by omega);have hA1:=hA1.wrote K2 (by omega);have hC1:=hC1.wrote K2 (by omega);refine Kd ?_;refine ⟨E6,?_⟩
   refine Kp 10 rfl (by kernel_rfl) (by kernel_rfl) rfl (fun _ _=>Kb (v:=.bool _) rfl) E6 ?_;refine Jm (by kernel_rfl) ?_;rotate_left;exact Kl;exact Kl;exact Kl;exact Kl
   refine Kh rfl ?_ ?_;refine Wo (v:=.agg _) rfl (Jq Tryz.isAgg55 Tryz.sizeOf55 rfl (hB2.ext (E1.trans E2))) <| Kd ?_;refine ⟨((Ew1.trans E1).trans E2),?_⟩
   refine Ku (rs:=[1]) (by kernel_rfl) rfl ?_;refine Kh rfl ?_ ?_;refine Kj rfl (Jk (a:=.agg _) Tryz.call27 rfl) (kT _ ((Mono.mono ((Ew1.trans E1).trans E2) h1)) ((Mono.mono ((Ew1.trans E1).trans E2) h2))) ?_
   rintro _ w7 ⟨u3,q1,m1,rfl,E3,hO1,hQ1,hm1,hn1⟩;have icu3:=OwnedB.isC hO1;have cpu3:=OwnedB.capOk hO1;have icq1:=OwnedB.isC (Owned.toB hQ1);have cpq1:=OwnedB.capOk (Owned.toB hQ1);have hs7:=E3.size
   refine Kd ?_;refine ⟨(((Ew1.trans E1).trans E2).trans E3),?_⟩;refine Ku (rs:=[3]) (by kernel_rfl) rfl ?_;refine Kh rfl ?_ ?_;refine Kj rfl (Jk (a:=.agg _) Tryz.call41 rfl) (toDeed_ok _ _ _ _) ?_
   rintro _ w8 ⟨rfl,E4⟩;have hs8:=E4.size;refine Kd ?_;refine ⟨((((Ew1.trans E1).trans E2).trans E3).trans E4),?_⟩;refine Ku (rs:=[4]) (by kernel_rfl) rfl ?_;refine Kh rfl ?_ ?_
   refine Kj rfl (Jn (a:=.agg _) (b:=.agg _) Tryz.call37 rfl rfl) (kS _ _ _ ((Mono.mono E4 (OwnedB.read hO1))) ((Mono.mono E4 (Owned.read hQ1)))) ?_;rintro _ w9 ⟨u4,q2,rfl,E5,hA1,hC1,icu4,icq2,gwu4⟩
   have hs9:=E5.size;refine Kd ?_;refine ⟨(((((Ew1.trans E1).trans E2).trans E3).trans E4).trans E5),?_⟩
   refine Kp 5 rfl (by kernel_rfl) (by kernel_rfl) rfl (fun _ _=>Ka (v:=.tuple _) rfl) (((((Ew1.trans E1).trans E2).trans E3).trans E4).trans E5) ?_
   refine Kp 6 rfl (by kernel_rfl) (by kernel_rfl) rfl (fun _ _=>Kk (v:=.agg _) rfl rfl) (((((Ew1.trans E1).trans E2).trans E3).trans E4).trans E5) ?_
   refine Kp 7 rfl (by kernel_rfl) (by kernel_rfl) rfl (fun _ _=>Kk (v:=.bool _) rfl rfl) (((((Ew1.trans E1).trans E2).trans E3).trans E4).trans E5) ?_;refine Ku (rs:=[9]) (by kernel_rfl) rfl ?_
   refine Kh rfl ?_ ?_
   refine Jl rfl Tryz.sizeOf26 rfl rfl (by first | rfl | assumption) (by first | rfl | assumption) (hB3.ext ((E3.trans E4).trans E5)) (by omega) (((((Ew1.trans E1).trans E2).trans E3).trans E4).trans E5) ?_
   rintro w10 E6 hB3 K2 hz2;have E7:=((((E1.trans E2).trans E3).trans E4).trans E5).wroteAt (((((Ew1.trans E1).trans E2).trans E3).trans E4).trans E5) E6 K2 hz2 (by omega);have szE7:=E7.size
   have E8:=(((E2.trans E3).trans E4).trans E5).wroteAt (((((Ew1.trans E1).trans E2).trans E3).trans E4).trans E5) E6 K2 hz2 (by omega);have szE8:=E8.size
   have hB1:=(hB1.ext ((((E1.trans E2).trans E3).trans E4).trans E5)).of_heap (K2 _ (by omega));have hB2:=(hB2.ext ((((E1.trans E2).trans E3).trans E4).trans E5)).of_heap (K2 _ (by omega))
   have hO1:=(hO1.ext (E4.trans E5)).wrote K2 (by omega);have hQ1:=(hQ1.toB.ext (E4.trans E5)).wrote K2 (by omega);have hA1:=hA1.wrote K2 (by omega);have hC1:=hC1.wrote K2 (by omega);refine Kd ?_;refine ⟨E6,?_⟩
   refine Kp 10 rfl (by kernel_rfl) (by kernel_rfl) rfl (fun _ _=>Kb (v:=.bool _) rfl) E6 ?_;refine Jm (by kernel_rfl) ?_;rotate_left;exact Kl;exact Kl;exact Kl;exact Kl
   exact Kl;refine Kh rfl ?_ ?_;refine Wo (v:=.agg _) rfl (Jq Tryz.isAgg55 Tryz.sizeOf55 rfl (hB2.ext (E1.trans E2))) <| Kd ?_;refine ⟨((Ew1.trans E1).trans E2),?_⟩
   refine Ku (rs:=[0]) (by kernel_rfl) rfl ?_;refine Kh rfl ?_ ?_;refine Wo (v:=.agg _) rfl (Jd Tryz.isAgg40 Tryz.sizeOf40 rfl (hB1.ext (E1.trans E2))) <| Kd ?_
   refine ⟨((Ew1.trans E1).trans E2),?_⟩;refine Ku (rs:=[1]) (by kernel_rfl) rfl ?_;refine Kh rfl ?_ ?_
   refine Kj rfl (Jk (a:=.agg _) Tryz.call27 rfl) (kT _ ((Mono.mono ((Ew1.trans E1).trans E2) h1)) ((Mono.mono ((Ew1.trans E1).trans E2) h2))) ?_;rintro _ w7 ⟨u3,q1,m1,rfl,E3,hO1,hQ1,hm1,hn1⟩
   have icu3:=OwnedB.isC hO1;have cpu3:=OwnedB.capOk hO1;have icq1:=OwnedB.isC (Owned.toB hQ1);have cpq1:=OwnedB.capOk (Owned.toB hQ1);have hs7:=E3.size;refine Kd ?_;refine ⟨(((Ew1.trans E1).trans E2).trans E3),?_⟩
   refine Ku (rs:=[3]) (by kernel_rfl) rfl ?_;refine Kh rfl ?_ ?_;refine Kj rfl (Jk (a:=.agg _) Tryz.call41 rfl) (toDeed_ok _ _ _ _) ?_;rintro _ w8 ⟨rfl,E4⟩;have hs8:=E4.size;refine Kd ?_
   refine ⟨((((Ew1.trans E1).trans E2).trans E3).trans E4),?_⟩;refine Ku (rs:=[4]) (by kernel_rfl) rfl ?_;refine Kh rfl ?_ ?_
   refine Kj rfl (Jn (a:=.agg _) (b:=.agg _) Tryz.call37 rfl rfl) (kS _ _ _ ((Mono.mono E4 (OwnedB.read hO1))) ((Mono.mono E4 (Owned.read hQ1)))) ?_;rintro _ w9 ⟨u4,q2,rfl,E5,hA1,hC1,icu4,icq2,gwu4⟩
   have hs9:=E5.size;refine Kd ?_;refine ⟨(((((Ew1.trans E1).trans E2).trans E3).trans E4).trans E5),?_⟩
   refine Kp 5 rfl (by kernel_rfl) (by kernel_rfl) rfl (fun _ _=>Ka (v:=.tuple _) rfl) (((((Ew1.trans E1).trans E2).trans E3).trans E4).trans E5) ?_
   refine Kp 6 rfl (by kernel_rfl) (by kernel_rfl) rfl (fun _ _=>Kk (v:=.agg _) rfl rfl) (((((Ew1.trans E1).trans E2).trans E3).trans E4).trans E5) ?_
   refine Kp 7 rfl (by kernel_rfl) (by kernel_rfl) rfl (fun _ _=>Kk (v:=.bool _) rfl rfl) (((((Ew1.trans E1).trans E2).trans E3).trans E4).trans E5) ?_;refine Ku (rs:=[9]) (by kernel_rfl) rfl ?_
   refine Kh rfl ?_ ?_
   refine Jl rfl Tryz.sizeOf26 rfl rfl (by first | rfl | assumption) (by first | rfl | assumption) (hB3.ext ((E3.trans E4).trans E5)) (by omega) (((((Ew1.trans E1).trans E2).trans E3).trans E4).trans E5) ?_
   rintro w10 E6 hB3 K2 hz2;have E7:=((((E1.trans E2).trans E3).trans E4).trans E5).wroteAt (((((Ew1.trans E1).trans E2).trans E3).trans E4).trans E5) E6 K2 hz2 (by omega);have szE7:=E7.size
   have E8:=(((E2.trans E3).trans E4).trans E5).wroteAt (((((Ew1.trans E1).trans E2).trans E3).trans E4).trans E5) E6 K2 hz2 (by omega);have szE8:=E8.size
   have hB1:=(hB1.ext ((((E1.trans E2).trans E3).trans E4).trans E5)).of_heap (K2 _ (by omega));have hB2:=(hB2.ext ((((E1.trans E2).trans E3).trans E4).trans E5)).of_heap (K2 _ (by omega))
   have hO1:=(hO1.ext (E4.trans E5)).wrote K2 (by omega);have hQ1:=(hQ1.toB.ext (E4.trans E5)).wrote K2 (by omega);have hA1:=hA1.wrote K2 (by omega);have hC1:=hC1.wrote K2 (by omega);refine Kd ?_;refine ⟨E6,?_⟩
   refine Kp 10 rfl (by kernel_rfl) (by kernel_rfl) rfl (fun _ _=>Kb (v:=.bool _) rfl) E6 ?_;refine Jm (by kernel_rfl) ?_;rotate_left;exact Kl;exact Kl;exact Kl;exact Kl
   exact Kl;exact Kl;exact Kl
  all_goals exact ⟨(b3,u4,q2,_,_),⟨rfl,rfl,trivial⟩,by repeat (first | with_reducible exact Same.refl | refine Same.upd rfl ?_ | refine Same.upds rfl ?_ | refine Same.mix rfl ?_),by assumption,hB3,hA1,hC1,icu4,icq2,by omega,by omega,by omega,by omega,by omega⟩
 rintro ⟨b9,x1,x2,lo1,hi1⟩ ρ5 w5 ⟨E5,hB9,hX1,hX2,icx1,icx2,hlo1,hb9,hhi1,hb9',hd1⟩
 have stop10:True:=trivial
 focus
  have szE5:=E5.size;have szEw1:=Ew1.size;refine Ke <| Kc rfl <| Wo (v:=.agg _) rfl (Jd Tryz.isAgg40 Tryz.sizeOf40 rfl (hB1.ext E5)) ?_
  refine Kj rfl (Jk (a:=.agg _) Tryz.call27 rfl) (kT _ ((Mono.mono (Ew1.trans E5) h1)) ((Mono.mono (Ew1.trans E5) h2))) ?_;rintro _ w6 ⟨u3,q1,m1,rfl,E1,hO1,hQ1,hm1,hn1⟩;have icu3:=OwnedB.isC hO1
  have cpu3:=OwnedB.capOk hO1;have icq1:=OwnedB.isC (Owned.toB hQ1);have cpq1:=OwnedB.capOk (Owned.toB hQ1);have hs5:=E1.size;refine Je rfl flat26 ?_;rintro b3 w7 hb3 E2 hB3;have hlb3:=hB3.lt
  have hs6:=E2.size;refine Jl rfl Tryz.sizeOf26 rfl rfl (by first | rfl | assumption) (by first | rfl | assumption) hB3 (by omega) (((Ew1.trans E5).trans E1).trans E2) ?_;rintro w8 E3 hB3 K1 hz1
  have E4:=((E5.trans E1).trans E2).wroteAt (((Ew1.trans E5).trans E1).trans E2) E3 K1 hz1 (by omega);have szE4:=E4.size;have E6:=(E1.trans E2).wroteAt (((Ew1.trans E5).trans E1).trans E2) E3 K1 hz1 (by omega)
  have szE6:=E6.size;have E7:=E2.wroteAt (((Ew1.trans E5).trans E1).trans E2) E3 K1 hz1 (by omega);have szE7:=E7.size;have hB1:=(hB1.ext ((E5.trans E1).trans E2)).of_heap (K1 _ (by omega))
  have hB2:=(hB2.ext ((E5.trans E1).trans E2)).of_heap (K1 _ (by omega));have hB9:=(hB9.ext (E1.trans E2)).of_heap (K1 _ (by omega));have hX1:=(hX1.ext (E1.trans E2)).wrote K1 (by omega)
  have hX2:=(hX2.ext (E1.trans E2)).wrote K1 (by omega);have hO1:=(hO1.ext E2).wrote K1 (by omega);have hQ1:=(hQ1.toB.ext E2).wrote K1 (by omega);refine Kd <| Ke ?_
 clear stop10
 focus
  have Ew2:=E3;clear Ew1;clear E5;clear szE5;clear szEw1;clear E1;clear E2;clear E3;clear E4;clear szE4;clear E6;clear szE6;clear E7;clear szE7
 refine W_mid [36,37,38,39,40,41,42,9,10] (fun ((b8,y1,y2,lo,m,hi):Nat × Value × Value × Nat × Nat × Nat)=>[(9,.pointer (some ⟨b8,0,none⟩)),(10,.bool b)]) (fun (b8,y1,y2,lo,m,hi) w'=>Ext w8 w'∧Blk w' b8 [y1,y2]∧OwnedB lo m XR w' y1 now∧OwnedB m hi (XSl 23 XR) w' y2 past∧isCell y1=true∧isCell y2=true∧w8.heap.size≤lo∧lo≤m∧m≤hi∧w8.heap.size≤b8∧hi≤w'.heap.size∧b8 < w'.heap.size∧(hi≤b8∨b8 < lo)) ?_ ?_
 ·focus
   have szEw2:=Ew2.size;refine W_held (fun w'=>Ext w w') mixed rfl (by kernel_rfl) ?_;intro w9 E1 K2 hz2;have hs7:=E1.size;refine Ku (rs:=[0,1,7]) (by kernel_rfl) rfl ?_;refine Kh rfl ?_ ?_
   refine Wo (v:=.agg _) rfl (Jd Tryz.isAgg26 Tryz.sizeOf26 rfl (hB3.ext E1)) <| Kd ?_;refine ⟨(Ew2.trans E1),?_⟩;refine Ku (rs:=[1,7]) (by kernel_rfl) rfl ?_;refine Kh rfl ?_ ?_
   refine Wo (v:=.agg _) rfl (Jq Tryz.isAgg55 Tryz.sizeOf55 rfl (hB2.ext E1)) <| Kd ?_;refine ⟨(Ew2.trans E1),?_⟩;refine Ku (rs:=[2,7]) (by kernel_rfl) rfl ?_;refine Kh rfl ?_ ?_
   refine Kj rfl (Jk (a:=.agg _) Tryz.call41 rfl) (toDeed_ok _ _ _ _) ?_;rintro _ w10 ⟨rfl,E2⟩;have hs8:=E2.size;refine Kd ?_;refine ⟨((Ew2.trans E1).trans E2),?_⟩
   refine Ku (rs:=[3,7]) (by kernel_rfl) rfl ?_;refine Kh rfl ?_ ?_
   refine Kj rfl (Jn (a:=.agg _) (b:=.agg _) Tryz.call36 rfl rfl) (kI _ _ _ ((Mono.mono ((Ew2.trans E1).trans E2) hM)) ((Mono.mono (E1.trans E2) (OwnedB.read hO1))) ((Mono.mono (E1.trans E2) (OwnedB.read hQ1)))) ?_
   rintro _ w11 ⟨u4,q2,m2,rfl,E3,hO2,hQ2,hm2,hn2⟩;have icu4:=OwnedB.isC hO2;have cpu4:=OwnedB.capOk hO2;have icq2:=OwnedB.isC (Owned.toB hQ2);have cpq2:=OwnedB.capOk (Owned.toB hQ2);have hs9:=E3.size
   refine Kd ?_;refine ⟨(((Ew2.trans E1).trans E2).trans E3),?_⟩;refine Kp 4 rfl (by kernel_rfl) (by kernel_rfl) rfl (fun _ _=>Ka (v:=.tuple _) rfl) (((Ew2.trans E1).trans E2).trans E3) ?_
   refine Kp 5 rfl (by kernel_rfl) (by kernel_rfl) rfl (fun _ _=>Kk (v:=.agg _) rfl rfl) (((Ew2.trans E1).trans E2).trans E3) ?_
   refine Kp 6 rfl (by kernel_rfl) (by kernel_rfl) rfl (fun _ _=>Kk (v:=.bool _) rfl rfl) (((Ew2.trans E1).trans E2).trans E3) ?_;refine Ku (rs:=[7]) (by kernel_rfl) rfl ?_;refine Kh rfl ?_ ?_
   refine Je rfl flat26 ?_;rintro b4 w12 hb4 E4 hB4;have hlb4:=hB4.lt;have hs10:=E4.size;refine Kd ?_;refine ⟨((((Ew2.trans E1).trans E2).trans E3).trans E4),?_⟩;refine Ku (rs:=[8]) (by kernel_rfl) rfl ?_
   refine Kh rfl ?_ ?_;refine Jl rfl Tryz.sizeOf26 rfl rfl (by first | rfl | assumption) (by first | rfl | assumption) hB4 (by omega) ((((Ew2.trans E1).trans E2).trans E3).trans E4) ?_;rintro w13 E5 hB4 K3 hz3
   have E6:=(((E1.trans E2).trans E3).trans E4).wroteAt ((((Ew2.trans E1).trans E2).trans E3).trans E4) E5 K3 hz3 (by omega);have szE6:=E6.size
   have E7:=((E2.trans E3).trans E4).wroteAt ((((Ew2.trans E1).trans E2).trans E3).trans E4) E5 K3 hz3 (by omega);have szE7:=E7.size
   have E8:=(E3.trans E4).wroteAt ((((Ew2.trans E1).trans E2).trans E3).trans E4) E5 K3 hz3 (by omega);have szE8:=E8.size;have E9:=E4.wroteAt ((((Ew2.trans E1).trans E2).trans E3).trans E4) E5 K3 hz3 (by omega)
   have szE9:=E9.size;have hB3:=(hB3.ext (((E1.trans E2).trans E3).trans E4)).of_heap (K3 _ (by omega));have hB1:=(hB1.ext (((E1.trans E2).trans E3).trans E4)).of_heap (K3 _ (by omega))
   have hB2:=(hB2.ext (((E1.trans E2).trans E3).trans E4)).of_heap (K3 _ (by omega));have hB9:=(hB9.ext (((E1.trans E2).trans E3).trans E4)).of_heap (K3 _ (by omega))
   have hX1:=(hX1.ext (((E1.trans E2).trans E3).trans E4)).wrote K3 (by omega);have hX2:=(hX2.ext (((E1.trans E2).trans E3).trans E4)).wrote K3 (by omega)
   have hO1:=(hO1.ext (((E1.trans E2).trans E3).trans E4)).wrote K3 (by omega);have hQ1:=(hQ1.ext (((E1.trans E2).trans E3).trans E4)).wrote K3 (by omega);have hO2:=(hO2.ext E4).wrote K3 (by omega)
   have hQ2:=(hQ2.toB.ext E4).wrote K3 (by omega);refine Kd ?_;refine ⟨E5,?_⟩;refine Kp 9 rfl (by kernel_rfl) (by kernel_rfl) rfl (fun _ _=>Kb (v:=.bool _) rfl) E5 ?_;refine Jm (by kernel_rfl) ?_
   rotate_left;exact Kl;exact Kl;refine Kh rfl ?_ ?_;refine Je rfl flat26 ?_;rintro b4 w11 hb4 E3 hB4;have hlb4:=hB4.lt;have hs9:=E3.size;refine Kd ?_
   refine ⟨(((Ew2.trans E1).trans E2).trans E3),?_⟩;refine Ku (rs:=[3]) (by kernel_rfl) rfl ?_;refine Kh rfl ?_ ?_
   refine Kj rfl (Jn (a:=.agg _) (b:=.agg _) Tryz.call36 rfl rfl) (kI _ _ _ ((Mono.mono (((Ew2.trans E1).trans E2).trans E3) hM)) ((Mono.mono ((E1.trans E2).trans E3) (OwnedB.read hO1))) ((Mono.mono ((E1.trans E2).trans E3) (OwnedB.read hQ1)))) ?_
   rintro _ w12 ⟨u4,q2,m2,rfl,E4,hO2,hQ2,hm2,hn2⟩;have icu4:=OwnedB.isC hO2;have cpu4:=OwnedB.capOk hO2;have icq2:=OwnedB.isC (Owned.toB hQ2);have cpq2:=OwnedB.capOk (Owned.toB hQ2);have hs10:=E4.size
   refine Kd ?_;refine ⟨((((Ew2.trans E1).trans E2).trans E3).trans E4),?_⟩;refine Kp 4 rfl (by kernel_rfl) (by kernel_rfl) rfl (fun _ _=>Ka (v:=.tuple _) rfl) ((((Ew2.trans E1).trans E2).trans E3).trans E4) ?_
   refine Kp 5 rfl (by kernel_rfl) (by kernel_rfl) rfl (fun _ _=>Kk (v:=.agg _) rfl rfl) ((((Ew2.trans E1).trans E2).trans E3).trans E4) ?_
   refine Kp 6 rfl (by kernel_rfl) (by kernel_rfl) rfl (fun _ _=>Kk (v:=.bool _) rfl rfl) ((((Ew2.trans E1).trans E2).trans E3).trans E4) ?_;refine Ku (rs:=[8]) (by kernel_rfl) rfl ?_
   refine Kh rfl ?_ ?_;refine Jl rfl Tryz.sizeOf26 rfl rfl (by first | rfl | assumption) (by first | rfl | assumption) (hB4.ext E4) (by omega) ((((Ew2.trans E1).trans E2).trans E3).trans E4) ?_;rintro w13 E5 hB4 K3 hz3
   have E6:=(((E1.trans E2).trans E3).trans E4).wroteAt ((((Ew2.trans E1).trans E2).trans E3).trans E4) E5 K3 hz3 (by omega);have szE6:=E6.size
   have E7:=((E2.trans E3).trans E4).wroteAt ((((Ew2.trans E1).trans E2).trans E3).trans E4) E5 K3 hz3 (by omega);have szE7:=E7.size
   have E8:=(E3.trans E4).wroteAt ((((Ew2.trans E1).trans E2).trans E3).trans E4) E5 K3 hz3 (by omega);have szE8:=E8.size;have hB3:=(hB3.ext (((E1.trans E2).trans E3).trans E4)).of_heap (K3 _ (by omega))
   have hB1:=(hB1.ext (((E1.trans E2).trans E3).trans E4)).of_heap (K3 _ (by omega));have hB2:=(hB2.ext (((E1.trans E2).trans E3).trans E4)).of_heap (K3 _ (by omega))
   have hB9:=(hB9.ext (((E1.trans E2).trans E3).trans E4)).of_heap (K3 _ (by omega));have hX1:=(hX1.ext (((E1.trans E2).trans E3).trans E4)).wrote K3 (by omega)
   have hX2:=(hX2.ext (((E1.trans E2).trans E3).trans E4)).wrote K3 (by omega);have hO1:=(hO1.ext (((E1.trans E2).trans E3).trans E4)).wrote K3 (by omega)
   have hQ1:=(hQ1.ext (((E1.trans E2).trans E3).trans E4)).wrote K3 (by omega);have hO2:=hO2.wrote K3 (by omega);have hQ2:=hQ2.toB.wrote K3 (by omega);refine Kd ?_;refine ⟨E5,?_⟩
   refine Kp 9 rfl (by kernel_rfl) (by kernel_rfl) rfl (fun _ _=>Kb (v:=.bool _) rfl) E5 ?_;refine Jm (by kernel_rfl) ?_;rotate_left;exact Kl;exact Kl;exact Kl
   refine Kh rfl ?_ ?_;refine Je rfl flat26 ?_;rintro b4 w10 hb4 E2 hB4;have hlb4:=hB4.lt;have hs8:=E2.size;refine Kd ?_;refine ⟨((Ew2.trans E1).trans E2),?_⟩
   refine Ku (rs:=[2]) (by kernel_rfl) rfl ?_;refine Kh rfl ?_ ?_;refine Kj rfl (Jk (a:=.agg _) Tryz.call41 rfl) (toDeed_ok _ _ _ _) ?_;rintro _ w11 ⟨rfl,E3⟩;have hs9:=E3.size;refine Kd ?_
   refine ⟨(((Ew2.trans E1).trans E2).trans E3),?_⟩;refine Ku (rs:=[3]) (by kernel_rfl) rfl ?_;refine Kh rfl ?_ ?_
   refine Kj rfl (Jn (a:=.agg _) (b:=.agg _) Tryz.call36 rfl rfl) (kI _ _ _ ((Mono.mono (((Ew2.trans E1).trans E2).trans E3) hM)) ((Mono.mono ((E1.trans E2).trans E3) (OwnedB.read hO1))) ((Mono.mono ((E1.trans E2).trans E3) (OwnedB.read hQ1)))) ?_
   rintro _ w12 ⟨u4,q2,m2,rfl,E4,hO2,hQ2,hm2,hn2⟩;have icu4:=OwnedB.isC hO2;have cpu4:=OwnedB.capOk hO2;have icq2:=OwnedB.isC (Owned.toB hQ2);have cpq2:=OwnedB.capOk (Owned.toB hQ2);have hs10:=E4.size
   refine Kd ?_;refine ⟨((((Ew2.trans E1).trans E2).trans E3).trans E4),?_⟩;refine Kp 4 rfl (by kernel_rfl) (by kernel_rfl) rfl (fun _ _=>Ka (v:=.tuple _) rfl) ((((Ew2.trans E1).trans E2).trans E3).trans E4) ?_
   refine Kp 5 rfl (by kernel_rfl) (by kernel_rfl) rfl (fun _ _=>Kk (v:=.agg _) rfl rfl) ((((Ew2.trans E1).trans E2).trans E3).trans E4) ?_
   refine Kp 6 rfl (by kernel_rfl) (by kernel_rfl) rfl (fun _ _=>Kk (v:=.bool _) rfl rfl) ((((Ew2.trans E1).trans E2).trans E3).trans E4) ?_;refine Ku (rs:=[8]) (by kernel_rfl) rfl ?_
   refine Kh rfl ?_ ?_;refine Jl rfl Tryz.sizeOf26 rfl rfl (by first | rfl | assumption) (by first | rfl | assumption) (hB4.ext (E3.trans E4)) (by omega) ((((Ew2.trans E1).trans E2).trans E3).trans E4) ?_
   rintro w13 E5 hB4 K3 hz3;have E6:=(((E1.trans E2).trans E3).trans E4).wroteAt ((((Ew2.trans E1).trans E2).trans E3).trans E4) E5 K3 hz3 (by omega);have szE6:=E6.size
   have E7:=((E2.trans E3).trans E4).wroteAt ((((Ew2.trans E1).trans E2).trans E3).trans E4) E5 K3 hz3 (by omega);have szE7:=E7.size;have hB3:=(hB3.ext (((E1.trans E2).trans E3).trans E4)).of_heap (K3 _ (by omega))
   have hB1:=(hB1.ext (((E1.trans E2).trans E3).trans E4)).of_heap (K3 _ (by omega));have hB2:=(hB2.ext (((E1.trans E2).trans E3).trans E4)).of_heap (K3 _ (by omega))
   have hB9:=(hB9.ext (((E1.trans E2).trans E3).trans E4)).of_heap (K3 _ (by omega));have hX1:=(hX1.ext (((E1.trans E2).trans E3).trans E4)).wrote K3 (by omega)
   have hX2:=(hX2.ext (((E1.trans E2).trans E3).trans E4)).wrote K3 (by omega);have hO1:=(hO1.ext (((E1.trans E2).trans E3).trans E4)).wrote K3 (by omega)
   have hQ1:=(hQ1.ext (((E1.trans E2).trans E3).trans E4)).wrote K3 (by omega);have hO2:=hO2.wrote K3 (by omega);have hQ2:=hQ2.toB.wrote K3 (by omega);refine Kd ?_;refine ⟨E5,?_⟩
   refine Kp 9 rfl (by kernel_rfl) (by kernel_rfl) rfl (fun _ _=>Kb (v:=.bool _) rfl) E5 ?_;refine Jm (by kernel_rfl) ?_;rotate_left;exact Kl;exact Kl;exact Kl;exact Kl
   refine Kh rfl ?_ ?_;refine Je rfl flat26 ?_;rintro b4 w10 hb4 E2 hB4;have hlb4:=hB4.lt;have hs8:=E2.size;refine Kd ?_;refine ⟨((Ew2.trans E1).trans E2),?_⟩
   refine Ku (rs:=[1]) (by kernel_rfl) rfl ?_;refine Kh rfl ?_ ?_;refine Wo (v:=.agg _) rfl (Jq Tryz.isAgg55 Tryz.sizeOf55 rfl (hB2.ext (E1.trans E2))) <| Kd ?_
   refine ⟨((Ew2.trans E1).trans E2),?_⟩;refine Ku (rs:=[2]) (by kernel_rfl) rfl ?_;refine Kh rfl ?_ ?_;refine Kj rfl (Jk (a:=.agg _) Tryz.call41 rfl) (toDeed_ok _ _ _ _) ?_;rintro _ w11 ⟨rfl,E3⟩
   have hs9:=E3.size;refine Kd ?_;refine ⟨(((Ew2.trans E1).trans E2).trans E3),?_⟩;refine Ku (rs:=[3]) (by kernel_rfl) rfl ?_;refine Kh rfl ?_ ?_
   refine Kj rfl (Jn (a:=.agg _) (b:=.agg _) Tryz.call36 rfl rfl) (kI _ _ _ ((Mono.mono (((Ew2.trans E1).trans E2).trans E3) hM)) ((Mono.mono ((E1.trans E2).trans E3) (OwnedB.read hO1))) ((Mono.mono ((E1.trans E2).trans E3) (OwnedB.read hQ1)))) ?_
   rintro _ w12 ⟨u4,q2,m2,rfl,E4,hO2,hQ2,hm2,hn2⟩;have icu4:=OwnedB.isC hO2;have cpu4:=OwnedB.capOk hO2;have icq2:=OwnedB.isC (Owned.toB hQ2);have cpq2:=OwnedB.capOk (Owned.toB hQ2);have hs10:=E4.size
   refine Kd ?_;refine ⟨((((Ew2.trans E1).trans E2).trans E3).trans E4),?_⟩;refine Kp 4 rfl (by kernel_rfl) (by kernel_rfl) rfl (fun _ _=>Ka (v:=.tuple _) rfl) ((((Ew2.trans E1).trans E2).trans E3).trans E4) ?_
   refine Kp 5 rfl (by kernel_rfl) (by kernel_rfl) rfl (fun _ _=>Kk (v:=.agg _) rfl rfl) ((((Ew2.trans E1).trans E2).trans E3).trans E4) ?_
   refine Kp 6 rfl (by kernel_rfl) (by kernel_rfl) rfl (fun _ _=>Kk (v:=.bool _) rfl rfl) ((((Ew2.trans E1).trans E2).trans E3).trans E4) ?_;refine Ku (rs:=[8]) (by kernel_rfl) rfl ?_
   refine Kh rfl ?_ ?_;refine Jl rfl Tryz.sizeOf26 rfl rfl (by first | rfl | assumption) (by first | rfl | assumption) (hB4.ext (E3.trans E4)) (by omega) ((((Ew2.trans E1).trans E2).trans E3).trans E4) ?_
   rintro w13 E5 hB4 K3 hz3;have E6:=(((E1.trans E2).trans E3).trans E4).wroteAt ((((Ew2.trans E1).trans E2).trans E3).trans E4) E5 K3 hz3 (by omega);have szE6:=E6.size
   have E7:=((E2.trans E3).trans E4).wroteAt ((((Ew2.trans E1).trans E2).trans E3).trans E4) E5 K3 hz3 (by omega);have szE7:=E7.size;have hB3:=(hB3.ext (((E1.trans E2).trans E3).trans E4)).of_heap (K3 _ (by omega))
   have hB1:=(hB1.ext (((E1.trans E2).trans E3).trans E4)).of_heap (K3 _ (by omega));have hB2:=(hB2.ext (((E1.trans E2).trans E3).trans E4)).of_heap (K3 _ (by omega))
   have hB9:=(hB9.ext (((E1.trans E2).trans E3).trans E4)).of_heap (K3 _ (by omega));have hX1:=(hX1.ext (((E1.trans E2).trans E3).trans E4)).wrote K3 (by omega)
   have hX2:=(hX2.ext (((E1.trans E2).trans E3).trans E4)).wrote K3 (by omega);have hO1:=(hO1.ext (((E1.trans E2).trans E3).trans E4)).wrote K3 (by omega)
   have hQ1:=(hQ1.ext (((E1.trans E2).trans E3).trans E4)).wrote K3 (by omega);have hO2:=hO2.wrote K3 (by omega);have hQ2:=hQ2.toB.wrote K3 (by omega);refine Kd ?_;refine ⟨E5,?_⟩
   refine Kp 9 rfl (by kernel_rfl) (by kernel_rfl) rfl (fun _ _=>Kb (v:=.bool _) rfl) E5 ?_;refine Jm (by kernel_rfl) ?_;rotate_left;exact Kl;exact Kl;exact Kl;exact Kl
   exact Kl;refine Kh rfl ?_ ?_;refine Wo (v:=.agg _) rfl (Jq Tryz.isAgg55 Tryz.sizeOf55 rfl (hB2.ext E1)) <| Kd ?_;refine ⟨(Ew2.trans E1),?_⟩
   refine Ku (rs:=[0,2,7]) (by kernel_rfl) rfl ?_;refine Kh rfl ?_ ?_;refine Wo (v:=.agg _) rfl (Jd Tryz.isAgg26 Tryz.sizeOf26 rfl (hB3.ext E1)) <| Kd ?_;refine ⟨(Ew2.trans E1),?_⟩
   refine Ku (rs:=[2,7]) (by kernel_rfl) rfl ?_;refine Kh rfl ?_ ?_;refine Kj rfl (Jk (a:=.agg _) Tryz.call41 rfl) (toDeed_ok _ _ _ _) ?_;rintro _ w10 ⟨rfl,E2⟩;have hs8:=E2.size;refine Kd ?_
   refine ⟨((Ew2.trans E1).trans E2),?_⟩;refine Ku (rs:=[3,7]) (by kernel_rfl) rfl ?_;refine Kh rfl ?_ ?_
   refine Kj rfl (Jn (a:=.agg _) (b:=.agg _) Tryz.call36 rfl rfl) (kI _ _ _ ((Mono.mono ((Ew2.trans E1).trans E2) hM)) ((Mono.mono (E1.trans E2) (OwnedB.read hO1))) ((Mono.mono (E1.trans E2) (OwnedB.read hQ1)))) ?_
   rintro _ w11 ⟨u4,q2,m2,rfl,E3,hO2,hQ2,hm2,hn2⟩;have icu4:=OwnedB.isC hO2;have cpu4:=OwnedB.capOk hO2;have icq2:=OwnedB.isC (Owned.toB hQ2);have cpq2:=OwnedB.capOk (Owned.toB hQ2);have hs9:=E3.size
   refine Kd ?_;refine ⟨(((Ew2.trans E1).trans E2).trans E3),?_⟩;refine Kp 4 rfl (by kernel_rfl) (by kernel_rfl) rfl (fun _ _=>Ka (v:=.tuple _) rfl) (((Ew2.trans E1).trans E2).trans E3) ?_
   refine Kp 5 rfl (by kernel_rfl) (by kernel_rfl) rfl (fun _ _=>Kk (v:=.agg _) rfl rfl) (((Ew2.trans E1).trans E2).trans E3) ?_
   refine Kp 6 rfl (by kernel_rfl) (by kernel_rfl) rfl (fun _ _=>Kk (v:=.bool _) rfl rfl) (((Ew2.trans E1).trans E2).trans E3) ?_;refine Ku (rs:=[7]) (by kernel_rfl) rfl ?_;refine Kh rfl ?_ ?_
   refine Je rfl flat26 ?_;rintro b4 w12 hb4 E4 hB4;have hlb4:=hB4.lt;have hs10:=E4.size;refine Kd ?_;refine ⟨((((Ew2.trans E1).trans E2).trans E3).trans E4),?_⟩;refine Ku (rs:=[8]) (by kernel_rfl) rfl ?_
   refine Kh rfl ?_ ?_;refine Jl rfl Tryz.sizeOf26 rfl rfl (by first | rfl | assumption) (by first | rfl | assumption) hB4 (by omega) ((((Ew2.trans E1).trans E2).trans E3).trans E4) ?_;rintro w13 E5 hB4 K3 hz3
   have E6:=(((E1.trans E2).trans E3).trans E4).wroteAt ((((Ew2.trans E1).trans E2).trans E3).trans E4) E5 K3 hz3 (by omega);have szE6:=E6.size
   have E7:=((E2.trans E3).trans E4).wroteAt ((((Ew2.trans E1).trans E2).trans E3).trans E4) E5 K3 hz3 (by omega);have szE7:=E7.size
   have E8:=(E3.trans E4).wroteAt ((((Ew2.trans E1).trans E2).trans E3).trans E4) E5 K3 hz3 (by omega);have szE8:=E8.size;have E9:=E4.wroteAt ((((Ew2.trans E1).trans E2).trans E3).trans E4) E5 K3 hz3 (by omega)
   have szE9:=E9.size;have hB3:=(hB3.ext (((E1.trans E2).trans E3).trans E4)).of_heap (K3 _ (by omega));have hB1:=(hB1.ext (((E1.trans E2).trans E3).trans E4)).of_heap (K3 _ (by omega))
   have hB2:=(hB2.ext (((E1.trans E2).trans E3).trans E4)).of_heap (K3 _ (by omega));have hB9:=(hB9.ext (((E1.trans E2).trans E3).trans E4)).of_heap (K3 _ (by omega))
   have hX1:=(hX1.ext (((E1.trans E2).trans E3).trans E4)).wrote K3 (by omega);have hX2:=(hX2.ext (((E1.trans E2).trans E3).trans E4)).wrote K3 (by omega)
   have hO1:=(hO1.ext (((E1.trans E2).trans E3).trans E4)).wrote K3 (by omega);have hQ1:=(hQ1.ext (((E1.trans E2).trans E3).trans E4)).wrote K3 (by omega);have hO2:=(hO2.ext E4).wrote K3 (by omega)
   have hQ2:=(hQ2.toB.ext E4).wrote K3 (by omega);refine Kd ?_;refine ⟨E5,?_⟩;refine Kp 9 rfl (by kernel_rfl) (by kernel_rfl) rfl (fun _ _=>Kb (v:=.bool _) rfl) E5 ?_;refine Jm (by kernel_rfl) ?_
   rotate_left;exact Kl;exact Kl;refine Kh rfl ?_ ?_;refine Je rfl flat26 ?_;rintro b4 w11 hb4 E3 hB4;have hlb4:=hB4.lt;have hs9:=E3.size;refine Kd ?_
   refine ⟨(((Ew2.trans E1).trans E2).trans E3),?_⟩;refine Ku (rs:=[3]) (by kernel_rfl) rfl ?_;refine Kh rfl ?_ ?_
   refine Kj rfl (Jn (a:=.agg _) (b:=.agg _) Tryz.call36 rfl rfl) (kI _ _ _ ((Mono.mono (((Ew2.trans E1).trans E2).trans E3) hM)) ((Mono.mono ((E1.trans E2).trans E3) (OwnedB.read hO1))) ((Mono.mono ((E1.trans E2).trans E3) (OwnedB.read hQ1)))) ?_
   rintro _ w12 ⟨u4,q2,m2,rfl,E4,hO2,hQ2,hm2,hn2⟩;have icu4:=OwnedB.isC hO2;have cpu4:=OwnedB.capOk hO2;have icq2:=OwnedB.isC (Owned.toB hQ2);have cpq2:=OwnedB.capOk (Owned.toB hQ2);have hs10:=E4.size
   refine Kd ?_;refine ⟨((((Ew2.trans E1).trans E2).trans E3).trans E4),?_⟩;refine Kp 4 rfl (by kernel_rfl) (by kernel_rfl) rfl (fun _ _=>Ka (v:=.tuple _) rfl) ((((Ew2.trans E1).trans E2).trans E3).trans E4) ?_
   refine Kp 5 rfl (by kernel_rfl) (by kernel_rfl) rfl (fun _ _=>Kk (v:=.agg _) rfl rfl) ((((Ew2.trans E1).trans E2).trans E3).trans E4) ?_
   refine Kp 6 rfl (by kernel_rfl) (by kernel_rfl) rfl (fun _ _=>Kk (v:=.bool _) rfl rfl) ((((Ew2.trans E1).trans E2).trans E3).trans E4) ?_;refine Ku (rs:=[8]) (by kernel_rfl) rfl ?_
   refine Kh rfl ?_ ?_;refine Jl rfl Tryz.sizeOf26 rfl rfl (by first | rfl | assumption) (by first | rfl | assumption) (hB4.ext E4) (by omega) ((((Ew2.trans E1).trans E2).trans E3).trans E4) ?_;rintro w13 E5 hB4 K3 hz3
   have E6:=(((E1.trans E2).trans E3).trans E4).wroteAt ((((Ew2.trans E1).trans E2).trans E3).trans E4) E5 K3 hz3 (by omega);have szE6:=E6.size
   have E7:=((E2.trans E3).trans E4).wroteAt ((((Ew2.trans E1).trans E2).trans E3).trans E4) E5 K3 hz3 (by omega);have szE7:=E7.size
   have E8:=(E3.trans E4).wroteAt ((((Ew2.trans E1).trans E2).trans E3).trans E4) E5 K3 hz3 (by omega);have szE8:=E8.size;have hB3:=(hB3.ext (((E1.trans E2).trans E3).trans E4)).of_heap (K3 _ (by omega))
   have hB1:=(hB1.ext (((E1.trans E2).trans E3).trans E4)).of_heap (K3 _ (by omega));have hB2:=(hB2.ext (((E1.trans E2).trans E3).trans E4)).of_heap (K3 _ (by omega))
   have hB9:=(hB9.ext (((E1.trans E2).trans E3).trans E4)).of_heap (K3 _ (by omega));have hX1:=(hX1.ext (((E1.trans E2).trans E3).trans E4)).wrote K3 (by omega)
   have hX2:=(hX2.ext (((E1.trans E2).trans E3).trans E4)).wrote K3 (by omega);have hO1:=(hO1.ext (((E1.trans E2).trans E3).trans E4)).wrote K3 (by omega)
   have hQ1:=(hQ1.ext (((E1.trans E2).trans E3).trans E4)).wrote K3 (by omega);have hO2:=hO2.wrote K3 (by omega);have hQ2:=hQ2.toB.wrote K3 (by omega);refine Kd ?_;refine ⟨E5,?_⟩
   refine Kp 9 rfl (by kernel_rfl) (by kernel_rfl) rfl (fun _ _=>Kb (v:=.bool _) rfl) E5 ?_;refine Jm (by kernel_rfl) ?_;rotate_left;exact Kl;exact Kl;exact Kl
   refine Kh rfl ?_ ?_;refine Je rfl flat26 ?_;rintro b4 w10 hb4 E2 hB4;have hlb4:=hB4.lt;have hs8:=E2.size;refine Kd ?_;refine ⟨((Ew2.trans E1).trans E2),?_⟩
   refine Ku (rs:=[2]) (by kernel_rfl) rfl ?_;refine Kh rfl ?_ ?_;refine Kj rfl (Jk (a:=.agg _) Tryz.call41 rfl) (toDeed_ok _ _ _ _) ?_;rintro _ w11 ⟨rfl,E3⟩;have hs9:=E3.size;refine Kd ?_
   refine ⟨(((Ew2.trans E1).trans E2).trans E3),?_⟩;refine Ku (rs:=[3]) (by kernel_rfl) rfl ?_;refine Kh rfl ?_ ?_
   refine Kj rfl (Jn (a:=.agg _) (b:=.agg _) Tryz.call36 rfl rfl) (kI _ _ _ ((Mono.mono (((Ew2.trans E1).trans E2).trans E3) hM)) ((Mono.mono ((E1.trans E2).trans E3) (OwnedB.read hO1))) ((Mono.mono ((E1.trans E2).trans E3) (OwnedB.read hQ1)))) ?_
   rintro _ w12 ⟨u4,q2,m2,rfl,E4,hO2,hQ2,hm2,hn2⟩;have icu4:=OwnedB.isC hO2;have cpu4:=OwnedB.capOk hO2;have icq2:=OwnedB.isC (Owned.toB hQ2);have cpq2:=OwnedB.capOk (Owned.toB hQ2);have hs10:=E4.size
   refine Kd ?_;refine ⟨((((Ew2.trans E1).trans E2).trans E3).trans E4),?_⟩;refine Kp 4 rfl (by kernel_rfl) (by kernel_rfl) rfl (fun _ _=>Ka (v:=.tuple _) rfl) ((((Ew2.trans E1).trans E2).trans E3).trans E4) ?_
   refine Kp 5 rfl (by kernel_rfl) (by kernel_rfl) rfl (fun _ _=>Kk (v:=.agg _) rfl rfl) ((((Ew2.trans E1).trans E2).trans E3).trans E4) ?_
   refine Kp 6 rfl (by kernel_rfl) (by kernel_rfl) rfl (fun _ _=>Kk (v:=.bool _) rfl rfl) ((((Ew2.trans E1).trans E2).trans E3).trans E4) ?_;refine Ku (rs:=[8]) (by kernel_rfl) rfl ?_
   refine Kh rfl ?_ ?_;refine Jl rfl Tryz.sizeOf26 rfl rfl (by first | rfl | assumption) (by first | rfl | assumption) (hB4.ext (E3.trans E4)) (by omega) ((((Ew2.trans E1).trans E2).trans E3).trans E4) ?_
   rintro w13 E5 hB4 K3 hz3;have E6:=(((E1.trans E2).trans E3).trans E4).wroteAt ((((Ew2.trans E1).trans E2).trans E3).trans E4) E5 K3 hz3 (by omega);have szE6:=E6.size
   have E7:=((E2.trans E3).trans E4).wroteAt ((((Ew2.trans E1).trans E2).trans E3).trans E4) E5 K3 hz3 (by omega);have szE7:=E7.size;have hB3:=(hB3.ext (((E1.trans E2).trans E3).trans E4)).of_heap (K3 _ (by omega))
   have hB1:=(hB1.ext (((E1.trans E2).trans E3).trans E4)).of_heap (K3 _ (by omega));have hB2:=(hB2.ext (((E1.trans E2).trans E3).trans E4)).of_heap (K3 _ (by omega))
   have hB9:=(hB9.ext (((E1.trans E2).trans E3).trans E4)).of_heap (K3 _ (by omega));have hX1:=(hX1.ext (((E1.trans E2).trans E3).trans E4)).wrote K3 (by omega)
   have hX2:=(hX2.ext (((E1.trans E2).trans E3).trans E4)).wrote K3 (by omega);have hO1:=(hO1.ext (((E1.trans E2).trans E3).trans E4)).wrote K3 (by omega)
   have hQ1:=(hQ1.ext (((E1.trans E2).trans E3).trans E4)).wrote K3 (by omega);have hO2:=hO2.wrote K3 (by omega);have hQ2:=hQ2.toB.wrote K3 (by omega);refine Kd ?_;refine ⟨E5,?_⟩
   refine Kp 9 rfl (by kernel_rfl) (by kernel_rfl) rfl (fun _ _=>Kb (v:=.bool _) rfl) E5 ?_;refine Jm (by kernel_rfl) ?_;rotate_left;exact Kl;exact Kl;exact Kl;exact Kl
   refine Kh rfl ?_ ?_;refine Kj rfl (Jk (a:=.agg _) Tryz.call41 rfl) (toDeed_ok _ _ _ _) ?_;rintro _ w10 ⟨rfl,E2⟩;have hs8:=E2.size;refine Kd ?_;refine ⟨((Ew2.trans E1).trans E2),?_⟩
   refine Ku (rs:=[0,7]) (by kernel_rfl) rfl ?_;refine Kh rfl ?_ ?_;refine Wo (v:=.agg _) rfl (Jd Tryz.isAgg26 Tryz.sizeOf26 rfl (hB3.ext (E1.trans E2))) <| Kd ?_
   refine ⟨((Ew2.trans E1).trans E2),?_⟩;refine Ku (rs:=[3,7]) (by kernel_rfl) rfl ?_;refine Kh rfl ?_ ?_
   refine Kj rfl (Jn (a:=.agg _) (b:=.agg _) Tryz.call36 rfl rfl) (kI _ _ _ ((Mono.mono ((Ew2.trans E1).trans E2) hM)) ((Mono.mono (E1.trans E2) (OwnedB.read hO1))) ((Mono.mono (E1.trans E2) (OwnedB.read hQ1)))) ?_
   rintro _ w11 ⟨u4,q2,m2,rfl,E3,hO2,hQ2,hm2,hn2⟩;have icu4:=OwnedB.isC hO2;have cpu4:=OwnedB.capOk hO2;have icq2:=OwnedB.isC (Owned.toB hQ2);have cpq2:=OwnedB.capOk (Owned.toB hQ2);have hs9:=E3.size
   refine Kd ?_;refine ⟨(((Ew2.trans E1).trans E2).trans E3),?_⟩;refine Kp 4 rfl (by kernel_rfl) (by kernel_rfl) rfl (fun _ _=>Ka (v:=.tuple _) rfl) (((Ew2.trans E1).trans E2).trans E3) ?_
   refine Kp 5 rfl (by kernel_rfl) (by kernel_rfl) rfl (fun _ _=>Kk (v:=.agg _) rfl rfl) (((Ew2.trans E1).trans E2).trans E3) ?_
   refine Kp 6 rfl (by kernel_rfl) (by kernel_rfl) rfl (fun _ _=>Kk (v:=.bool _) rfl rfl) (((Ew2.trans E1).trans E2).trans E3) ?_;refine Ku (rs:=[7]) (by kernel_rfl) rfl ?_;refine Kh rfl ?_ ?_
   refine Je rfl flat26 ?_;rintro b4 w12 hb4 E4 hB4;have hlb4:=hB4.lt;have hs10:=E4.size;refine Kd ?_;refine ⟨((((Ew2.trans E1).trans E2).trans E3).trans E4),?_⟩;refine Ku (rs:=[8]) (by kernel_rfl) rfl ?_
   refine Kh rfl ?_ ?_;refine Jl rfl Tryz.sizeOf26 rfl rfl (by first | rfl | assumption) (by first | rfl | assumption) hB4 (by omega) ((((Ew2.trans E1).trans E2).trans E3).trans E4) ?_;rintro w13 E5 hB4 K3 hz3
   have E6:=(((E1.trans E2).trans E3).trans E4).wroteAt ((((Ew2.trans E1).trans E2).trans E3).trans E4) E5 K3 hz3 (by omega);have szE6:=E6.size
   have E7:=((E2.trans E3).trans E4).wroteAt ((((Ew2.trans E1).trans E2).trans E3).trans E4) E5 K3 hz3 (by omega);have szE7:=E7.size
   have E8:=(E3.trans E4).wroteAt ((((Ew2.trans E1).trans E2).trans E3).trans E4) E5 K3 hz3 (by omega);have szE8:=E8.size;have E9:=E4.wroteAt ((((Ew2.trans E1).trans E2).trans E3).trans E4) E5 K3 hz3 (by omega)
   have szE9:=E9.size;have hB3:=(hB3.ext (((E1.trans E2).trans E3).trans E4)).of_heap (K3 _ (by omega));have hB1:=(hB1.ext (((E1.trans E2).trans E3).trans E4)).of_heap (K3 _ (by omega))
   have hB2:=(hB2.ext (((E1.trans E2).trans E3).trans E4)).of_heap (K3 _ (by omega));have hB9:=(hB9.ext (((E1.trans E2).trans E3).trans E4)).of_heap (K3 _ (by omega))
   have hX1:=(hX1.ext (((E1.trans E2).trans E3).trans E4)).wrote K3 (by omega);have hX2:=(hX2.ext (((E1.trans E2).trans E3).trans E4)).wrote K3 (by omega)
   have hO1:=(hO1.ext (((E1.trans E2).trans E3).trans E4)).wrote K3 (by omega);have hQ1:=(hQ1.ext (((E1.trans E2).trans E3).trans E4)).wrote K3 (by omega);have hO2:=(hO2.ext E4).wrote K3 (by omega)
   have hQ2:=(hQ2.toB.ext E4).wrote K3 (by omega);refine Kd ?_;refine ⟨E5,?_⟩;refine Kp 9 rfl (by kernel_rfl) (by kernel_rfl) rfl (fun _ _=>Kb (v:=.bool _) rfl) E5 ?_;refine Jm (by kernel_rfl) ?_
   rotate_left;exact Kl;exact Kl;refine Kh rfl ?_ ?_;refine Je rfl flat26 ?_;rintro b4 w11 hb4 E3 hB4;have hlb4:=hB4.lt;have hs9:=E3.size;refine Kd ?_
   refine ⟨(((Ew2.trans E1).trans E2).trans E3),?_⟩;refine Ku (rs:=[3]) (by kernel_rfl) rfl ?_;refine Kh rfl ?_ ?_
   refine Kj rfl (Jn (a:=.agg _) (b:=.agg _) Tryz.call36 rfl rfl) (kI _ _ _ ((Mono.mono (((Ew2.trans E1).trans E2).trans E3) hM)) ((Mono.mono ((E1.trans E2).trans E3) (OwnedB.read hO1))) ((Mono.mono ((E1.trans E2).trans E3) (OwnedB.read hQ1)))) ?_
   rintro _ w12 ⟨u4,q2,m2,rfl,E4,hO2,hQ2,hm2,hn2⟩;have icu4:=OwnedB.isC hO2;have cpu4:=OwnedB.capOk hO2;have icq2:=OwnedB.isC (Owned.toB hQ2);have cpq2:=OwnedB.capOk (Owned.toB hQ2);have hs10:=E4.size
   refine Kd ?_;refine ⟨((((Ew2.trans E1).trans E2).trans E3).trans E4),?_⟩;refine Kp 4 rfl (by kernel_rfl) (by kernel_rfl) rfl (fun _ _=>Ka (v:=.tuple _) rfl) ((((Ew2.trans E1).trans E2).trans E3).trans E4) ?_
   refine Kp 5 rfl (by kernel_rfl) (by kernel_rfl) rfl (fun _ _=>Kk (v:=.agg _) rfl rfl) ((((Ew2.trans E1).trans E2).trans E3).trans E4) ?_
   refine Kp 6 rfl (by kernel_rfl) (by kernel_rfl) rfl (fun _ _=>Kk (v:=.bool _) rfl rfl) ((((Ew2.trans E1).trans E2).trans E3).trans E4) ?_;refine Ku (rs:=[8]) (by kernel_rfl) rfl ?_
   refine Kh rfl ?_ ?_;refine Jl rfl Tryz.sizeOf26 rfl rfl (by first | rfl | assumption) (by first | rfl | assumption) (hB4.ext E4) (by omega) ((((Ew2.trans E1).trans E2).trans E3).trans E4) ?_;rintro w13 E5 hB4 K3 hz3
   have E6:=(((E1.trans E2).trans E3).trans E4).wroteAt ((((Ew2.trans E1).trans E2).trans E3).trans E4) E5 K3 hz3 (by omega);have szE6:=E6.size
   have E7:=((E2.trans E3).trans E4).wroteAt ((((Ew2.trans E1).trans E2).trans E3).trans E4) E5 K3 hz3 (by omega);have szE7:=E7.size
   have E8:=(E3.trans E4).wroteAt ((((Ew2.trans E1).trans E2).trans E3).trans E4) E5 K3 hz3 (by omega);have szE8:=E8.size;have hB3:=(hB3.ext (((E1.trans E2).trans E3).trans E4)).of_heap (K3 _ (by omega))
   have hB1:=(hB1.ext (((E1.trans E2).trans E3).trans E4)).of_heap (K3 _ (by omega));have hB2:=(hB2.ext (((E1.trans E2).trans E3).trans E4)).of_heap (K3 _ (by omega))
   have hB9:=(hB9.ext (((E1.trans E2).trans E3).trans E4)).of_heap (K3 _ (by omega));have hX1:=(hX1.ext (((E1.trans E2).trans E3).trans E4)).wrote K3 (by omega)
   have hX2:=(hX2.ext (((E1.trans E2).trans E3).trans E4)).wrote K3 (by omega);have hO1:=(hO1.ext (((E1.trans E2).trans E3).trans E4)).wrote K3 (by omega)
   have hQ1:=(hQ1.ext (((E1.trans E2).trans E3).trans E4)).wrote K3 (by omega);have hO2:=hO2.wrote K3 (by omega);have hQ2:=hQ2.toB.wrote K3 (by omega);refine Kd ?_;refine ⟨E5,?_⟩
   refine Kp 9 rfl (by kernel_rfl) (by kernel_rfl) rfl (fun _ _=>Kb (v:=.bool _) rfl) E5 ?_;refine Jm (by kernel_rfl) ?_;rotate_left;exact Kl;exact Kl;exact Kl
   refine Kh rfl ?_ ?_;refine Je rfl flat26 ?_;rintro b4 w11 hb4 E3 hB4;have hlb4:=hB4.lt;have hs9:=E3.size;refine Kd ?_;refine ⟨(((Ew2.trans E1).trans E2).trans E3),?_⟩
   refine Ku (rs:=[0]) (by kernel_rfl) rfl ?_;refine Kh rfl ?_ ?_;refine Wo (v:=.agg _) rfl (Jd Tryz.isAgg26 Tryz.sizeOf26 rfl (hB3.ext ((E1.trans E2).trans E3))) <| Kd ?_
   refine ⟨(((Ew2.trans E1).trans E2).trans E3),?_⟩;refine Ku (rs:=[3]) (by kernel_rfl) rfl ?_;refine Kh rfl ?_ ?_
   refine Kj rfl (Jn (a:=.agg _) (b:=.agg _) Tryz.call36 rfl rfl) (kI _ _ _ ((Mono.mono (((Ew2.trans E1).trans E2).trans E3) hM)) ((Mono.mono ((E1.trans E2).trans E3) (OwnedB.read hO1))) ((Mono.mono ((E1.trans E2).trans E3) (OwnedB.read hQ1)))) ?_
   rintro _ w12 ⟨u4,q2,m2,rfl,E4,hO2,hQ2,hm2,hn2⟩;have icu4:=OwnedB.isC hO2;have cpu4:=OwnedB.capOk hO2;have icq2:=OwnedB.isC (Owned.toB hQ2);have cpq2:=OwnedB.capOk (Owned.toB hQ2);have hs10:=E4.size
   refine Kd ?_;refine ⟨((((Ew2.trans E1).trans E2).trans E3).trans E4),?_⟩;refine Kp 4 rfl (by kernel_rfl) (by kernel_rfl) rfl (fun _ _=>Ka (v:=.tuple _) rfl) ((((Ew2.trans E1).trans E2).trans E3).trans E4) ?_
   refine Kp 5 rfl (by kernel_rfl) (by kernel_rfl) rfl (fun _ _=>Kk (v:=.agg _) rfl rfl) ((((Ew2.trans E1).trans E2).trans E3).trans E4) ?_
   refine Kp 6 rfl (by kernel_rfl) (by kernel_rfl) rfl (fun _ _=>Kk (v:=.bool _) rfl rfl) ((((Ew2.trans E1).trans E2).trans E3).trans E4) ?_;refine Ku (rs:=[8]) (by kernel_rfl) rfl ?_
   refine Kh rfl ?_ ?_;refine Jl rfl Tryz.sizeOf26 rfl rfl (by first | rfl | assumption) (by first | rfl | assumption) (hB4.ext E4) (by omega) ((((Ew2.trans E1).trans E2).trans E3).trans E4) ?_;rintro w13 E5 hB4 K3 hz3
   have E6:=(((E1.trans E2).trans E3).trans E4).wroteAt ((((Ew2.trans E1).trans E2).trans E3).trans E4) E5 K3 hz3 (by omega);have szE6:=E6.size
   have E7:=((E2.trans E3).trans E4).wroteAt ((((Ew2.trans E1).trans E2).trans E3).trans E4) E5 K3 hz3 (by omega);have szE7:=E7.size
   have E8:=(E3.trans E4).wroteAt ((((Ew2.trans E1).trans E2).trans E3).trans E4) E5 K3 hz3 (by omega);have szE8:=E8.size;have hB3:=(hB3.ext (((E1.trans E2).trans E3).trans E4)).of_heap (K3 _ (by omega))
   have hB1:=(hB1.ext (((E1.trans E2).trans E3).trans E4)).of_heap (K3 _ (by omega));have hB2:=(hB2.ext (((E1.trans E2).trans E3).trans E4)).of_heap (K3 _ (by omega))
   have hB9:=(hB9.ext (((E1.trans E2).trans E3).trans E4)).of_heap (K3 _ (by omega));have hX1:=(hX1.ext (((E1.trans E2).trans E3).trans E4)).wrote K3 (by omega)
   have hX2:=(hX2.ext (((E1.trans E2).trans E3).trans E4)).wrote K3 (by omega);have hO1:=(hO1.ext (((E1.trans E2).trans E3).trans E4)).wrote K3 (by omega)
   have hQ1:=(hQ1.ext (((E1.trans E2).trans E3).trans E4)).wrote K3 (by omega);have hO2:=hO2.wrote K3 (by omega);have hQ2:=hQ2.toB.wrote K3 (by omega);refine Kd ?_;refine ⟨E5,?_⟩
   refine Kp 9 rfl (by kernel_rfl) (by kernel_rfl) rfl (fun _ _=>Kb (v:=.bool _) rfl) E5 ?_;refine Jm (by kernel_rfl) ?_;rotate_left;exact Kl;exact Kl;exact Kl;exact Kl
   refine Kh rfl ?_ ?_;refine Je rfl flat26 ?_;rintro b4 w10 hb4 E2 hB4;have hlb4:=hB4.lt;have hs8:=E2.size;refine Kd ?_;refine ⟨((Ew2.trans E1).trans E2),?_⟩
   refine Ku (rs:=[0,2]) (by kernel_rfl) rfl ?_;refine Kh rfl ?_ ?_;refine Wo (v:=.agg _) rfl (Jd Tryz.isAgg26 Tryz.sizeOf26 rfl (hB3.ext (E1.trans E2))) <| Kd ?_
   refine ⟨((Ew2.trans E1).trans E2),?_⟩;refine Ku (rs:=[2]) (by kernel_rfl) rfl ?_;refine Kh rfl ?_ ?_;refine Kj rfl (Jk (a:=.agg _) Tryz.call41 rfl) (toDeed_ok _ _ _ _) ?_;rintro _ w11 ⟨rfl,E3⟩
   have hs9:=E3.size;refine Kd ?_;refine ⟨(((Ew2.trans E1).trans E2).trans E3),?_⟩;refine Ku (rs:=[3]) (by kernel_rfl) rfl ?_;refine Kh rfl ?_ ?_
   refine Kj rfl (Jn (a:=.agg _) (b:=.agg _) Tryz.call36 rfl rfl) (kI _ _ _ ((Mono.mono (((Ew2.trans E1).trans E2).trans E3) hM)) ((Mono.mono ((E1.trans E2).trans E3) (OwnedB.read hO1))) ((Mono.mono ((E1.trans E2).trans E3) (OwnedB.read hQ1)))) ?_
   rintro _ w12 ⟨u4,q2,m2,rfl,E4,hO2,hQ2,hm2,hn2⟩;have icu4:=OwnedB.isC hO2;have cpu4:=OwnedB.capOk hO2;have icq2:=OwnedB.isC (Owned.toB hQ2);have cpq2:=OwnedB.capOk (Owned.toB hQ2);have hs10:=E4.size
   refine Kd ?_;refine ⟨((((Ew2.trans E1).trans E2).trans E3).trans E4),?_⟩;refine Kp 4 rfl (by kernel_rfl) (by kernel_rfl) rfl (fun _ _=>Ka (v:=.tuple _) rfl) ((((Ew2.trans E1).trans E2).trans E3).trans E4) ?_
   refine Kp 5 rfl (by kernel_rfl) (by kernel_rfl) rfl (fun _ _=>Kk (v:=.agg _) rfl rfl) ((((Ew2.trans E1).trans E2).trans E3).trans E4) ?_
   refine Kp 6 rfl (by kernel_rfl) (by kernel_rfl) rfl (fun _ _=>Kk (v:=.bool _) rfl rfl) ((((Ew2.trans E1).trans E2).trans E3).trans E4) ?_;refine Ku (rs:=[8]) (by kernel_rfl) rfl ?_
   refine Kh rfl ?_ ?_;refine Jl rfl Tryz.sizeOf26 rfl rfl (by first | rfl | assumption) (by first | rfl | assumption) (hB4.ext (E3.trans E4)) (by omega) ((((Ew2.trans E1).trans E2).trans E3).trans E4) ?_
   rintro w13 E5 hB4 K3 hz3;have E6:=(((E1.trans E2).trans E3).trans E4).wroteAt ((((Ew2.trans E1).trans E2).trans E3).trans E4) E5 K3 hz3 (by omega);have szE6:=E6.size
   have E7:=((E2.trans E3).trans E4).wroteAt ((((Ew2.trans E1).trans E2).trans E3).trans E4) E5 K3 hz3 (by omega);have szE7:=E7.size;have hB3:=(hB3.ext (((E1.trans E2).trans E3).trans E4)).of_heap (K3 _ (by omega))
   have hB1:=(hB1.ext (((E1.trans E2).trans E3).trans E4)).of_heap (K3 _ (by omega));have hB2:=(hB2.ext (((E1.trans E2).trans E3).trans E4)).of_heap (K3 _ (by omega))
   have hB9:=(hB9.ext (((E1.trans E2).trans E3).trans E4)).of_heap (K3 _ (by omega));have hX1:=(hX1.ext (((E1.trans E2).trans E3).trans E4)).wrote K3 (by omega)
   have hX2:=(hX2.ext (((E1.trans E2).trans E3).trans E4)).wrote K3 (by omega);have hO1:=(hO1.ext (((E1.trans E2).trans E3).trans E4)).wrote K3 (by omega)
   have hQ1:=(hQ1.ext (((E1.trans E2).trans E3).trans E4)).wrote K3 (by omega);have hO2:=hO2.wrote K3 (by omega);have hQ2:=hQ2.toB.wrote K3 (by omega);refine Kd ?_;refine ⟨E5,?_⟩
   refine Kp 9 rfl (by kernel_rfl) (by kernel_rfl) rfl (fun _ _=>Kb (v:=.bool _) rfl) E5 ?_;refine Jm (by kernel_rfl) ?_;rotate_left;exact Kl;exact Kl;exact Kl
   refine Kh rfl ?_ ?_;refine Kj rfl (Jk (a:=.agg _) Tryz.call41 rfl) (toDeed_ok _ _ _ _) ?_;rintro _ w11 ⟨rfl,E3⟩;have hs9:=E3.size;refine Kd ?_;refine ⟨(((Ew2.trans E1).trans E2).trans E3),?_⟩
   refine Ku (rs:=[0]) (by kernel_rfl) rfl ?_;refine Kh rfl ?_ ?_;refine Wo (v:=.agg _) rfl (Jd Tryz.isAgg26 Tryz.sizeOf26 rfl (hB3.ext ((E1.trans E2).trans E3))) <| Kd ?_
   refine ⟨(((Ew2.trans E1).trans E2).trans E3),?_⟩;refine Ku (rs:=[3]) (by kernel_rfl) rfl ?_;refine Kh rfl ?_ ?_
   refine Kj rfl (Jn (a:=.agg _) (b:=.agg _) Tryz.call36 rfl rfl) (kI _ _ _ ((Mono.mono (((Ew2.trans E1).trans E2).trans E3) hM)) ((Mono.mono ((E1.trans E2).trans E3) (OwnedB.read hO1))) ((Mono.mono ((E1.trans E2).trans E3) (OwnedB.read hQ1)))) ?_
   rintro _ w12 ⟨u4,q2,m2,rfl,E4,hO2,hQ2,hm2,hn2⟩;have icu4:=OwnedB.isC hO2;have cpu4:=OwnedB.capOk hO2;have icq2:=OwnedB.isC (Owned.toB hQ2);have cpq2:=OwnedB.capOk (Owned.toB hQ2);have hs10:=E4.size
   refine Kd ?_;refine ⟨((((Ew2.trans E1).trans E2).trans E3).trans E4),?_⟩;refine Kp 4 rfl (by kernel_rfl) (by kernel_rfl) rfl (fun _ _=>Ka (v:=.tuple _) rfl) ((((Ew2.trans E1).trans E2).trans E3).trans E4) ?_
   refine Kp 5 rfl (by kernel_rfl) (by kernel_rfl) rfl (fun _ _=>Kk (v:=.agg _) rfl rfl) ((((Ew2.trans E1).trans E2).trans E3).trans E4) ?_
   refine Kp 6 rfl (by kernel_rfl) (by kernel_rfl) rfl (fun _ _=>Kk (v:=.bool _) rfl rfl) ((((Ew2.trans E1).trans E2).trans E3).trans E4) ?_;refine Ku (rs:=[8]) (by kernel_rfl) rfl ?_
   refine Kh rfl ?_ ?_;refine Jl rfl Tryz.sizeOf26 rfl rfl (by first | rfl | assumption) (by first | rfl | assumption) (hB4.ext (E3.trans E4)) (by omega) ((((Ew2.trans E1).trans E2).trans E3).trans E4) ?_
   rintro w13 E5 hB4 K3 hz3;have E6:=(((E1.trans E2).trans E3).trans E4).wroteAt ((((Ew2.trans E1).trans E2).trans E3).trans E4) E5 K3 hz3 (by omega);have szE6:=E6.size
   have E7:=((E2.trans E3).trans E4).wroteAt ((((Ew2.trans E1).trans E2).trans E3).trans E4) E5 K3 hz3 (by omega);have szE7:=E7.size;have hB3:=(hB3.ext (((E1.trans E2).trans E3).trans E4)).of_heap (K3 _ (by omega))
   have hB1:=(hB1.ext (((E1.trans E2).trans E3).trans E4)).of_heap (K3 _ (by omega));have hB2:=(hB2.ext (((E1.trans E2).trans E3).trans E4)).of_heap (K3 _ (by omega))
   have hB9:=(hB9.ext (((E1.trans E2).trans E3).trans E4)).of_heap (K3 _ (by omega));have hX1:=(hX1.ext (((E1.trans E2).trans E3).trans E4)).wrote K3 (by omega)
   have hX2:=(hX2.ext (((E1.trans E2).trans E3).trans E4)).wrote K3 (by omega);have hO1:=(hO1.ext (((E1.trans E2).trans E3).trans E4)).wrote K3 (by omega)
   have hQ1:=(hQ1.ext (((E1.trans E2).trans E3).trans E4)).wrote K3 (by omega);have hO2:=hO2.wrote K3 (by omega);have hQ2:=hQ2.toB.wrote K3 (by omega);refine Kd ?_;refine ⟨E5,?_⟩
   refine Kp 9 rfl (by kernel_rfl) (by kernel_rfl) rfl (fun _ _=>Kb (v:=.bool _) rfl) E5 ?_;refine Jm (by kernel_rfl) ?_;rotate_left;exact Kl;exact Kl;exact Kl;exact Kl
   exact Kl;refine Kh rfl ?_ ?_;refine Je rfl flat26 ?_;rintro b4 w10 hb4 E2 hB4;have hlb4:=hB4.lt;have hs8:=E2.size;refine Kd ?_;refine ⟨((Ew2.trans E1).trans E2),?_⟩
   refine Ku (rs:=[0,1]) (by kernel_rfl) rfl ?_;refine Kh rfl ?_ ?_;refine Wo (v:=.agg _) rfl (Jd Tryz.isAgg26 Tryz.sizeOf26 rfl (hB3.ext (E1.trans E2))) <| Kd ?_
   refine ⟨((Ew2.trans E1).trans E2),?_⟩;refine Ku (rs:=[1]) (by kernel_rfl) rfl ?_;refine Kh rfl ?_ ?_;refine Wo (v:=.agg _) rfl (Jq Tryz.isAgg55 Tryz.sizeOf55 rfl (hB2.ext (E1.trans E2))) ?_
   refine Kd ?_;refine ⟨((Ew2.trans E1).trans E2),?_⟩;refine Ku (rs:=[2]) (by kernel_rfl) rfl ?_;refine Kh rfl ?_ ?_;refine Kj rfl (Jk (a:=.agg _) Tryz.call41 rfl) (toDeed_ok _ _ _ _) ?_
   rintro _ w11 ⟨rfl,E3⟩;have hs9:=E3.size;refine Kd ?_;refine ⟨(((Ew2.trans E1).trans E2).trans E3),?_⟩;refine Ku (rs:=[3]) (by kernel_rfl) rfl ?_;refine Kh rfl ?_ ?_
   refine Kj rfl (Jn (a:=.agg _) (b:=.agg _) Tryz.call36 rfl rfl) (kI _ _ _ ((Mono.mono (((Ew2.trans E1).trans E2).trans E3) hM)) ((Mono.mono ((E1.trans E2).trans E3) (OwnedB.read hO1))) ((Mono.mono ((E1.trans E2).trans E3) (OwnedB.read hQ1)))) ?_
   rintro _ w12 ⟨u4,q2,m2,rfl,E4,hO2,hQ2,hm2,hn2⟩;have icu4:=OwnedB.isC hO2;have cpu4:=OwnedB.capOk hO2;have icq2:=OwnedB.isC (Owned.toB hQ2);have cpq2:=OwnedB.capOk (Owned.toB hQ2);have hs10:=E4.size
   refine Kd ?_;refine ⟨((((Ew2.trans E1).trans E2).trans E3).trans E4),?_⟩;refine Kp 4 rfl (by kernel_rfl) (by kernel_rfl) rfl (fun _ _=>Ka (v:=.tuple _) rfl) ((((Ew2.trans E1).trans E2).trans E3).trans E4) ?_
   refine Kp 5 rfl (by kernel_rfl) (by kernel_rfl) rfl (fun _ _=>Kk (v:=.agg _) rfl rfl) ((((Ew2.trans E1).trans E2).trans E3).trans E4) ?_
   refine Kp 6 rfl (by kernel_rfl) (by kernel_rfl) rfl (fun _ _=>Kk (v:=.bool _) rfl rfl) ((((Ew2.trans E1).trans E2).trans E3).trans E4) ?_;refine Ku (rs:=[8]) (by kernel_rfl) rfl ?_
   refine Kh rfl ?_ ?_;refine Jl rfl Tryz.sizeOf26 rfl rfl (by first | rfl | assumption) (by first | rfl | assumption) (hB4.ext (E3.trans E4)) (by omega) ((((Ew2.trans E1).trans E2).trans E3).trans E4) ?_
   rintro w13 E5 hB4 K3 hz3;have E6:=(((E1.trans E2).trans E3).trans E4).wroteAt ((((Ew2.trans E1).trans E2).trans E3).trans E4) E5 K3 hz3 (by omega);have szE6:=E6.size
   have E7:=((E2.trans E3).trans E4).wroteAt ((((Ew2.trans E1).trans E2).trans E3).trans E4) E5 K3 hz3 (by omega);have szE7:=E7.size;have hB3:=(hB3.ext (((E1.trans E2).trans E3).trans E4)).of_heap (K3 _ (by omega))
   have hB1:=(hB1.ext (((E1.trans E2).trans E3).trans E4)).of_heap (K3 _ (by omega));have hB2:=(hB2.ext (((E1.trans E2).trans E3).trans E4)).of_heap (K3 _ (by omega))
   have hB9:=(hB9.ext (((E1.trans E2).trans E3).trans E4)).of_heap (K3 _ (by omega));have hX1:=(hX1.ext (((E1.trans E2).trans E3).trans E4)).wrote K3 (by omega)
   have hX2:=(hX2.ext (((E1.trans E2).trans E3).trans E4)).wrote K3 (by omega);have hO1:=(hO1.ext (((E1.trans E2).trans E3).trans E4)).wrote K3 (by omega)
   have hQ1:=(hQ1.ext (((E1.trans E2).trans E3).trans E4)).wrote K3 (by omega);have hO2:=hO2.wrote K3 (by omega);have hQ2:=hQ2.toB.wrote K3 (by omega);refine Kd ?_;refine ⟨E5,?_⟩
   refine Kp 9 rfl (by kernel_rfl) (by kernel_rfl) rfl (fun _ _=>Kb (v:=.bool _) rfl) E5 ?_;refine Jm (by kernel_rfl) ?_;rotate_left;exact Kl;exact Kl;exact Kl;exact Kl
   refine Kh rfl ?_ ?_;refine Wo (v:=.agg _) rfl (Jq Tryz.isAgg55 Tryz.sizeOf55 rfl (hB2.ext (E1.trans E2))) <| Kd ?_;refine ⟨((Ew2.trans E1).trans E2),?_⟩
   refine Ku (rs:=[0,2]) (by kernel_rfl) rfl ?_;refine Kh rfl ?_ ?_;refine Wo (v:=.agg _) rfl (Jd Tryz.isAgg26 Tryz.sizeOf26 rfl (hB3.ext (E1.trans E2))) <| Kd ?_
   refine ⟨((Ew2.trans E1).trans E2),?_⟩;refine Ku (rs:=[2]) (by kernel_rfl) rfl ?_;refine Kh rfl ?_ ?_;refine Kj rfl (Jk (a:=.agg _) Tryz.call41 rfl) (toDeed_ok _ _ _ _) ?_;rintro _ w11 ⟨rfl,E3⟩
   have hs9:=E3.size;refine Kd ?_;refine ⟨(((Ew2.trans E1).trans E2).trans E3),?_⟩;refine Ku (rs:=[3]) (by kernel_rfl) rfl ?_;refine Kh rfl ?_ ?_
   refine Kj rfl (Jn (a:=.agg _) (b:=.agg _) Tryz.call36 rfl rfl) (kI _ _ _ ((Mono.mono (((Ew2.trans E1).trans E2).trans E3) hM)) ((Mono.mono ((E1.trans E2).trans E3) (OwnedB.read hO1))) ((Mono.mono ((E1.trans E2).trans E3) (OwnedB.read hQ1)))) ?_
   rintro _ w12 ⟨u4,q2,m2,rfl,E4,hO2,hQ2,hm2,hn2⟩;have icu4:=OwnedB.isC hO2;have cpu4:=OwnedB.capOk hO2;have icq2:=OwnedB.isC (Owned.toB hQ2);have cpq2:=OwnedB.capOk (Owned.toB hQ2);have hs10:=E4.size
   refine Kd ?_;refine ⟨((((Ew2.trans E1).trans E2).trans E3).trans E4),?_⟩;refine Kp 4 rfl (by kernel_rfl) (by kernel_rfl) rfl (fun _ _=>Ka (v:=.tuple _) rfl) ((((Ew2.trans E1).trans E2).trans E3).trans E4) ?_
   refine Kp 5 rfl (by kernel_rfl) (by kernel_rfl) rfl (fun _ _=>Kk (v:=.agg _) rfl rfl) ((((Ew2.trans E1).trans E2).trans E3).trans E4) ?_
   refine Kp 6 rfl (by kernel_rfl) (by kernel_rfl) rfl (fun _ _=>Kk (v:=.bool _) rfl rfl) ((((Ew2.trans E1).trans E2).trans E3).trans E4) ?_;refine Ku (rs:=[8]) (by kernel_rfl) rfl ?_
   refine Kh rfl ?_ ?_;refine Jl rfl Tryz.sizeOf26 rfl rfl (by first | rfl | assumption) (by first | rfl | assumption) (hB4.ext (E3.trans E4)) (by omega) ((((Ew2.trans E1).trans E2).trans E3).trans E4) ?_
   rintro w13 E5 hB4 K3 hz3;have E6:=(((E1.trans E2).trans E3).trans E4).wroteAt ((((Ew2.trans E1).trans E2).trans E3).trans E4) E5 K3 hz3 (by omega);have szE6:=E6.size
   have E7:=((E2.trans E3).trans E4).wroteAt ((((Ew2.trans E1).trans E2).trans E3).trans E4) E5 K3 hz3 (by omega);have szE7:=E7.size;have hB3:=(hB3.ext (((E1.trans E2).trans E3).trans E4)).of_heap (K3 _ (by omega))
   have hB1:=(hB1.ext (((E1.trans E2).trans E3).trans E4)).of_heap (K3 _ (by omega));have hB2:=(hB2.ext (((E1.trans E2).trans E3).trans E4)).of_heap (K3 _ (by omega))
   have hB9:=(hB9.ext (((E1.trans E2).trans E3).trans E4)).of_heap (K3 _ (by omega));have hX1:=(hX1.ext (((E1.trans E2).trans E3).trans E4)).wrote K3 (by omega)
   have hX2:=(hX2.ext (((E1.trans E2).trans E3).trans E4)).wrote K3 (by omega);have hO1:=(hO1.ext (((E1.trans E2).trans E3).trans E4)).wrote K3 (by omega)
   have hQ1:=(hQ1.ext (((E1.trans E2).trans E3).trans E4)).wrote K3 (by omega);have hO2:=hO2.wrote K3 (by omega);have hQ2:=hQ2.toB.wrote K3 (by omega);refine Kd ?_;refine ⟨E5,?_⟩
   refine Kp 9 rfl (by kernel_rfl) (by kernel_rfl) rfl (fun _ _=>Kb (v:=.bool _) rfl) E5 ?_;refine Jm (by kernel_rfl) ?_;rotate_left;exact Kl;exact Kl;exact Kl
   refine Kh rfl ?_ ?_;refine Kj rfl (Jk (a:=.agg _) Tryz.call41 rfl) (toDeed_ok _ _ _ _) ?_;rintro _ w11 ⟨rfl,E3⟩;have hs9:=E3.size;refine Kd ?_;refine ⟨(((Ew2.trans E1).trans E2).trans E3),?_⟩
   refine Ku (rs:=[0]) (by kernel_rfl) rfl ?_;refine Kh rfl ?_ ?_;refine Wo (v:=.agg _) rfl (Jd Tryz.isAgg26 Tryz.sizeOf26 rfl (hB3.ext ((E1.trans E2).trans E3))) <| Kd ?_
   refine ⟨(((Ew2.trans E1).trans E2).trans E3),?_⟩;refine Ku (rs:=[3]) (by kernel_rfl) rfl ?_;refine Kh rfl ?_ ?_
   refine Kj rfl (Jn (a:=.agg _) (b:=.agg _) Tryz.call36 rfl rfl) (kI _ _ _ ((Mono.mono (((Ew2.trans E1).trans E2).trans E3) hM)) ((Mono.mono ((E1.trans E2).trans E3) (OwnedB.read hO1))) ((Mono.mono ((E1.trans E2).trans E3) (OwnedB.read hQ1)))) ?_
   rintro _ w12 ⟨u4,q2,m2,rfl,E4,hO2,hQ2,hm2,hn2⟩;have icu4:=OwnedB.isC hO2;have cpu4:=OwnedB.capOk hO2;have icq2:=OwnedB.isC (Owned.toB hQ2);have cpq2:=OwnedB.capOk (Owned.toB hQ2);have hs10:=E4.size
   refine Kd ?_;refine ⟨((((Ew2.trans E1).trans E2).trans E3).trans E4),?_⟩;refine Kp 4 rfl (by kernel_rfl) (by kernel_rfl) rfl (fun _ _=>Ka (v:=.tuple _) rfl) ((((Ew2.trans E1).trans E2).trans E3).trans E4) ?_
   refine Kp 5 rfl (by kernel_rfl) (by kernel_rfl) rfl (fun _ _=>Kk (v:=.agg _) rfl rfl) ((((Ew2.trans E1).trans E2).trans E3).trans E4) ?_
   refine Kp 6 rfl (by kernel_rfl) (by kernel_rfl) rfl (fun _ _=>Kk (v:=.bool _) rfl rfl) ((((Ew2.trans E1).trans E2).trans E3).trans E4) ?_;refine Ku (rs:=[8]) (by kernel_rfl) rfl ?_
   refine Kh rfl ?_ ?_;refine Jl rfl Tryz.sizeOf26 rfl rfl (by first | rfl | assumption) (by first | rfl | assumption) (hB4.ext (E3.trans E4)) (by omega) ((((Ew2.trans E1).trans E2).trans E3).trans E4) ?_
   rintro w13 E5 hB4 K3 hz3;have E6:=(((E1.trans E2).trans E3).trans E4).wroteAt ((((Ew2.trans E1).trans E2).trans E3).trans E4) E5 K3 hz3 (by omega);have szE6:=E6.size
   have E7:=((E2.trans E3).trans E4).wroteAt ((((Ew2.trans E1).trans E2).trans E3).trans E4) E5 K3 hz3 (by omega);have szE7:=E7.size;have hB3:=(hB3.ext (((E1.trans E2).trans E3).trans E4)).of_heap (K3 _ (by omega))
   have hB1:=(hB1.ext (((E1.trans E2).trans E3).trans E4)).of_heap (K3 _ (by omega));have hB2:=(hB2.ext (((E1.trans E2).trans E3).trans E4)).of_heap (K3 _ (by omega))
   have hB9:=(hB9.ext (((E1.trans E2).trans E3).trans E4)).of_heap (K3 _ (by omega));have hX1:=(hX1.ext (((E1.trans E2).trans E3).trans E4)).wrote K3 (by omega)
   have hX2:=(hX2.ext (((E1.trans E2).trans E3).trans E4)).wrote K3 (by omega);have hO1:=(hO1.ext (((E1.trans E2).trans E3).trans E4)).wrote K3 (by omega)
   have hQ1:=(hQ1.ext (((E1.trans E2).trans E3).trans E4)).wrote K3 (by omega);have hO2:=hO2.wrote K3 (by omega);have hQ2:=hQ2.toB.wrote K3 (by omega);refine Kd ?_;refine ⟨E5,?_⟩
   refine Kp 9 rfl (by kernel_rfl) (by kernel_rfl) rfl (fun _ _=>Kb (v:=.bool _) rfl) E5 ?_;refine Jm (by kernel_rfl) ?_;rotate_left;exact Kl;exact Kl;exact Kl;exact Kl
   exact Kl;exact Kl
  all_goals exact ⟨(b4,u4,q2,_,m2,_),⟨rfl,rfl,trivial⟩,by repeat (first | with_reducible exact Same.refl | refine Same.upd rfl ?_ | refine Same.upds rfl ?_ | refine Same.mix rfl ?_),by assumption,hB4,hO2,hQ2,icu4,icq2,by omega,by omega,by omega,by omega,by omega,by omega,by omega⟩
 rintro ⟨b8,g1,g2,lo2,m2,hi2⟩ ρ9 w9 ⟨E15,hB8,hG1,hG2,icg1,icg2,hlo2,hm2,hm2',hb8,hhi2,hb8',hd2⟩
 have stop13:True:=trivial
 focus
  have szE15:=E15.size;have szEw2:=Ew2.size;refine Ke <| Ke <| Kc rfl <| Wo (v:=.agg _) rfl (Jd Tryz.isAgg26 Tryz.sizeOf26 rfl hB8) ?_
  refine Wo (v:=.agg _) rfl (Jd Tryz.isAgg26 Tryz.sizeOf26 rfl (hB9.ext E15)) ?_
  refine Kj rfl (Jn (a:=.agg _) (b:=.agg _) Tryz.call29 rfl rfl) (kE _ _ _ _ _ ((OwnedB.read hG1)) ((OwnedB.read hG2)) ((Mono.mono E15 (OwnedB.read hX1))) ((Mono.mono E15 (OwnedB.read hX2)))) ?_;rintro _ w10 ⟨rfl,E1⟩
  have hs7:=E1.size;refine Wo rfl (Jf rfl) <| Jy rfl (Ka (v:=.bool _) rfl) (fun h5=>?_) (fun h5=>?_);contradiction;refine Wo rfl (Ka (v:=.bool _) rfl) ?_
  refine Wo rfl (Ka (v:=.bool _) rfl) <| Wo rfl (opv_neq_bool Tryz.underlying4 rfl rfl) <| Wo rfl (Kn (v:=.bool _) rfl rfl) <| Kd <| Jj rfl (fun h6=>?_) (fun h6=>?_)
  contradiction;refine Kt ?_;refine Ke <| Ke ?_
 clear stop13
 focus
  have hB3:=(hB3.ext (E15.trans E1));have hB1:=(hB1.ext (E15.trans E1));have hB2:=(hB2.ext (E15.trans E1));have hB9:=(hB9.ext (E15.trans E1));have hX1:=(hX1.ext (E15.trans E1));have hX2:=(hX2.ext (E15.trans E1))
  have hO1:=(hO1.ext (E15.trans E1));have hQ1:=(hQ1.ext (E15.trans E1));have hB8:=(hB8.ext E1);have hG1:=(hG1.ext E1);have hG2:=(hG2.ext E1);have Ew1:=((Ew2.trans E15).trans E1);clear Ew2;clear E15;clear szE15
  clear szEw2;clear E1
 refine W_mid [52,53,54,55,56] (fun _:Unit=>[(56,.bool false)]) (fun _ w'=>Ext w10 w') ?_ ?_
 ·focus
   have szEw1:=Ew1.size;refine W_held (fun w'=>Ext w w') mixed rfl (by kernel_rfl) ?_;intro w11 E1 K2 hz2;have hs8:=E1.size;refine Ku (rs:=[0,1]) (by kernel_rfl) rfl ?_;refine Kh rfl ?_ ?_
   refine Wo (v:=.agg _) rfl (Jd Tryz.isAgg26 Tryz.sizeOf26 rfl (hB3.ext E1)) <| Kd ?_;refine ⟨(Ew1.trans E1),?_⟩;refine Ku (rs:=[1]) (by kernel_rfl) rfl ?_;refine Kh rfl ?_ ?_
   refine Wo (v:=.agg _) rfl (Jd Tryz.isAgg40 Tryz.sizeOf40 rfl (hB1.ext E1)) <| Kd ?_;refine ⟨(Ew1.trans E1),?_⟩;refine Ku (rs:=[2]) (by kernel_rfl) rfl ?_;refine Kh rfl ?_ ?_
   refine Kj rfl (Jk (a:=.agg _) Tryz.call27 rfl) (kT _ ((Mono.mono (Ew1.trans E1) h1)) ((Mono.mono (Ew1.trans E1) h2))) ?_;rintro _ w12 ⟨u4,q2,m3,rfl,E2,hO2,hQ2,hm3,hn2⟩;have icu4:=OwnedB.isC hO2
   have cpu4:=OwnedB.capOk hO2;have icq2:=OwnedB.isC (Owned.toB hQ2);have cpq2:=OwnedB.capOk (Owned.toB hQ2);have hs9:=E2.size;refine Kd ?_;refine ⟨((Ew1.trans E1).trans E2),?_⟩
   refine Ku (rs:=[3]) (by kernel_rfl) rfl ?_;refine Kh rfl ?_ ?_
   refine Kj rfl (Jn (a:=.agg _) (b:=.agg _) Tryz.call29 rfl rfl) (kEp _ _ _ _ _ ((Mono.mono (E1.trans E2) (OwnedB.read hO1))) ((Mono.mono (E1.trans E2) (OwnedB.read hQ1))) ((OwnedB.read hO2)) ((Owned.read hQ2))) ?_
   rintro _ w13 ⟨rfl,E3⟩;have hs10:=E3.size;refine Kd ?_;refine ⟨(((Ew1.trans E1).trans E2).trans E3),?_⟩
   refine Kp 4 rfl (by kernel_rfl) (by kernel_rfl) rfl (fun _ _=>Jf rfl) (((Ew1.trans E1).trans E2).trans E3) ?_;refine Jm (by kernel_rfl) ?_;rotate_left;exact Kl;exact Kl;exact Kl
   refine Kh rfl ?_ ?_;refine Wo (v:=.agg _) rfl (Jd Tryz.isAgg40 Tryz.sizeOf40 rfl (hB1.ext E1)) <| Kd ?_;refine ⟨(Ew1.trans E1),?_⟩;refine Ku (rs:=[0,2]) (by kernel_rfl) rfl ?_
   refine Kh rfl ?_ ?_;refine Wo (v:=.agg _) rfl (Jd Tryz.isAgg26 Tryz.sizeOf26 rfl (hB3.ext E1)) <| Kd ?_;refine ⟨(Ew1.trans E1),?_⟩;refine Ku (rs:=[2]) (by kernel_rfl) rfl ?_
   refine Kh rfl ?_ ?_;refine Kj rfl (Jk (a:=.agg _) Tryz.call27 rfl) (kT _ ((Mono.mono (Ew1.trans E1) h1)) ((Mono.mono (Ew1.trans E1) h2))) ?_;rintro _ w12 ⟨u4,q2,m3,rfl,E2,hO2,hQ2,hm3,hn2⟩
   have icu4:=OwnedB.isC hO2;have cpu4:=OwnedB.capOk hO2;have icq2:=OwnedB.isC (Owned.toB hQ2);have cpq2:=OwnedB.capOk (Owned.toB hQ2);have hs9:=E2.size;refine Kd ?_;refine ⟨((Ew1.trans E1).trans E2),?_⟩
   refine Ku (rs:=[3]) (by kernel_rfl) rfl ?_;refine Kh rfl ?_ ?_
   refine Kj rfl (Jn (a:=.agg _) (b:=.agg _) Tryz.call29 rfl rfl) (kEp _ _ _ _ _ ((Mono.mono (E1.trans E2) (OwnedB.read hO1))) ((Mono.mono (E1.trans E2) (OwnedB.read hQ1))) ((OwnedB.read hO2)) ((Owned.read hQ2))) ?_
   rintro _ w13 ⟨rfl,E3⟩;have hs10:=E3.size;refine Kd ?_;refine ⟨(((Ew1.trans E1).trans E2).trans E3),?_⟩
   refine Kp 4 rfl (by kernel_rfl) (by kernel_rfl) rfl (fun _ _=>Jf rfl) (((Ew1.trans E1).trans E2).trans E3) ?_;refine Jm (by kernel_rfl) ?_;rotate_left;exact Kl;exact Kl;refine Kh rfl ?_ ?_
   refine Kj rfl (Jk (a:=.agg _) Tryz.call27 rfl) (kT _ ((Mono.mono (Ew1.trans E1) h1)) ((Mono.mono (Ew1.trans E1) h2))) ?_;rintro _ w12 ⟨u4,q2,m3,rfl,E2,hO2,hQ2,hm3,hn2⟩;have icu4:=OwnedB.isC hO2
   have cpu4:=OwnedB.capOk hO2;have icq2:=OwnedB.isC (Owned.toB hQ2);have cpq2:=OwnedB.capOk (Owned.toB hQ2);have hs9:=E2.size;refine Kd ?_;refine ⟨((Ew1.trans E1).trans E2),?_⟩
   refine Ku (rs:=[0]) (by kernel_rfl) rfl ?_;refine Kh rfl ?_ ?_;refine Wo (v:=.agg _) rfl (Jd Tryz.isAgg26 Tryz.sizeOf26 rfl (hB3.ext (E1.trans E2))) <| Kd ?_
   refine ⟨((Ew1.trans E1).trans E2),?_⟩;refine Ku (rs:=[3]) (by kernel_rfl) rfl ?_;refine Kh rfl ?_ ?_
   refine Kj rfl (Jn (a:=.agg _) (b:=.agg _) Tryz.call29 rfl rfl) (kEp _ _ _ _ _ ((Mono.mono (E1.trans E2) (OwnedB.read hO1))) ((Mono.mono (E1.trans E2) (OwnedB.read hQ1))) ((OwnedB.read hO2)) ((Owned.read hQ2))) ?_
   rintro _ w13 ⟨rfl,E3⟩;have hs10:=E3.size;refine Kd ?_;refine ⟨(((Ew1.trans E1).trans E2).trans E3),?_⟩
   refine Kp 4 rfl (by kernel_rfl) (by kernel_rfl) rfl (fun _ _=>Jf rfl) (((Ew1.trans E1).trans E2).trans E3) ?_;refine Jm (by kernel_rfl) ?_;rotate_left;exact Kl;exact Kl;exact Kl
   exact Kl
  all_goals exact ⟨(),⟨rfl,trivial⟩,by repeat (first | with_reducible exact Same.refl | refine Same.upd rfl ?_ | refine Same.upds rfl ?_ | refine Same.mix rfl ?_),(by repeat (first | assumption | refine Ext.trans (by assumption) ?_))⟩
 rintro ⟨⟩ ρ10 w11 E16
 have stop21:True:=trivial
 focus
  have szE16:=E16.size;have szEw1:=Ew1.size;refine Ky rfl ?_;refine Kt ?_;refine Ke <| Kc rfl <| Wo rfl (Kb (v:=.int _ _) rfl) <| Kd <| Ke ?_
  refine Kc rfl <| Wo (v:=.agg _) rfl (Jd Tryz.isAgg26 Tryz.sizeOf26 rfl (hB3.ext E16)) <| Wo rfl (Ka (v:=.int _ _) rfl) ?_
  refine Kj rfl (Jn (a:=.agg _) (b:=.int _ _) Tryz.call31 rfl rfl) (kM0 _ _ _ _ _ _ ((hO1.ext E16)) ((hQ1.ext E16)) (by assumption) (by assumption) (by omega)) ?_;rintro _ w12 ⟨y3,rfl,E1,hy1⟩
  have hB3:=(hB3.ext E16).span E1 (by omega);have hB1:=(hB1.ext E16).span E1 (by omega);have hB2:=(hB2.ext E16).span E1 (by omega);have hB9:=(hB9.ext E16).span E1 (by omega);have hX1:=(hX1.ext E16).span E1 (by omega)
  have hX2:=(hX2.ext E16).span E1 (by omega);have hB8:=(hB8.ext E16).span E1 (by omega);have hG1:=(hG1.ext E16).span E1 (by omega);have hG2:=(hG2.ext E16).span E1 (by omega);have E2:=(Ew1.trans E16).span E1 (by omega)
  have hs8:=E1.size;refine Wo rfl (Kb (v:=.int _ _) rfl) <| Kd <| Ke <| Ke <| Kc rfl <| Wo rfl (Ka (v:=.int _ _) rfl) <| Wo rfl (Ks rfl rfl) ?_
  refine Kv rfl (Ka (v:=.bool _) rfl) (fun h7=>?_) (fun h7=>?_);contradiction;refine Wo (v:=.agg _) rfl (Jd Tryz.isAgg26 Tryz.sizeOf26 rfl hB8) ?_
  refine Wo (v:=.agg _) rfl (Jd Tryz.isAgg26 Tryz.sizeOf26 rfl hB9) ?_
  refine Kj rfl (Jn (a:=.agg _) (b:=.agg _) Tryz.call29 rfl rfl) (kE _ _ _ _ _ ((OwnedB.read hG1)) ((OwnedB.read hG2)) ((OwnedB.read hX1)) ((OwnedB.read hX2))) ?_;rintro _ w13 ⟨rfl,E3⟩;have hs9:=E3.size
  refine Wo rfl (Jf rfl) <| Wo rfl (Kn (v:=.bool _) rfl rfl) <| Jy rfl (Ka (v:=.bool _) rfl) (fun h16=>?_) (fun h16=>?_);contradiction;refine Wo rfl (Ka (v:=.bool _) rfl) ?_
  refine Wo rfl (Ka (v:=.bool _) rfl) <| Wo rfl (opv_neq_bool Tryz.underlying4 rfl rfl) <| Wo rfl (Kn (v:=.bool _) rfl rfl) <| Kd <| Jj rfl (fun h17=>?_) (fun h17=>?_)
  contradiction;refine Kt ?_;refine Ke <| Kc rfl <| Wo rfl (Kb (v:=.int _ _) rfl) <| Kd <| Ke <| Kc rfl ?_
  refine Wo (v:=.agg _) rfl (Jd Tryz.isAgg26 Tryz.sizeOf26 rfl (hB8.ext E3)) <| Wo rfl (Ka (v:=.int _ _) rfl) ?_
  refine Kj rfl (Jn (a:=.agg _) (b:=.int _ _) Tryz.call31 rfl rfl) (kM _ _ _ _ _ _ ((hG1.ext E3)) ((hG2.ext E3)) (by assumption) (by assumption) (by omega)) ?_;rintro _ w14 ⟨y4,rfl,E4,hy2⟩
  have hB3:=(hB3.ext E3).span E4 (by omega);have hB1:=(hB1.ext E3).span E4 (by omega);have hB2:=(hB2.ext E3).span E4 (by omega);have hB9:=(hB9.ext E3).span E4 (by omega);have hX1:=(hX1.ext E3).span E4 (by omega)
  have hX2:=(hX2.ext E3).span E4 (by omega);have hB8:=(hB8.ext E3).span E4 (by omega);have E5:=(E2.trans E3).span E4 (by omega);have hs10:=E4.size;refine Wo rfl (Kb (v:=.int _ _) rfl) <| Kd ?_
  refine Ke ?_
 clear stop21
 obtain ⟨rfl,hOx,hQx⟩:=hy2
 have stop27:True:=trivial
 focus
  have szE5:=E5.size;have szE3:=E3.size;have szE2:=E2.size;have szE16:=E16.size;have szEw1:=Ew1.size;refine Kc rfl <| Wo rfl (Kb (v:=.int _ _) rfl) <| Kd <| Ke ?_
  refine Kc rfl <| Wo (v:=.agg _) rfl (Jd Tryz.isAgg26 Tryz.sizeOf26 rfl hB8) <| Wo rfl (Ka (v:=.int _ _) rfl) ?_
  refine Kj rfl (Jn (a:=.agg _) (b:=.int _ _) Tryz.call33 rfl rfl) (kH _ _ _ ((OwnedB.read hOx)) ((OwnedB.read hQx))) ?_;rintro _ w15 ⟨rfl,E6⟩;have hs11:=E6.size;refine Wo rfl (Kb (v:=.int _ _) rfl) ?_
  refine Kd <| Ke <| Ke <| Kc rfl <| Wo rfl (Ka (v:=.int _ _) rfl) <| Wo rfl (Ks rfl rfl) <| Kd <| Kg rfl (fun h18=>?_) (fun h18=>?_)
  contradiction;refine Kt ?_;refine Ke <| Ke <| Kc rfl <| Wo rfl (Ka (v:=.int _ _) rfl) <| Wo rfl (Ka (v:=.int _ _) rfl) <| Wo rfl (Gb rfl rfl) ?_
  refine Kd <| Jj rfl (fun h19=>?_) (fun h19=>?_);contradiction;refine Kt ?_;refine Ke ?_
 clear stop27
 focus
  have hB3:=(hB3.ext E6);have hB1:=(hB1.ext E6);have hB2:=(hB2.ext E6);have hB9:=(hB9.ext E6);have hX1:=(hX1.ext E6);have hX2:=(hX2.ext E6);have hB8:=(hB8.ext E6);have hOx:=(hOx.ext E6);have hQx:=(hQx.ext E6)
  have Ew2:=(E5.trans E6);clear Ew1;clear E16;clear szE16;clear szE16;clear szEw1;clear szEw1;clear E2;clear E3;clear E5;clear szE5;clear szE3;clear szE2;clear E6
 refine W_mid [84,85,86,87,88,89,90,91,14,15] (fun ((b7,z1,z2):Nat × Value × Value)=>[(14,.pointer (some ⟨b7,0,none⟩)),(15,.bool b)]) (fun (b7,z1,z2) w'=>Ext w15 w'∧Blk w' b7 [z1,z2]∧ESl Ints w' z1 now∧ESl (ESl Ints) w' z2 past∧isCell z1=true∧isCell z2=true) ?_ ?_
 ·focus
   have szEw2:=Ew2.size;refine W_held (fun w'=>Ext w w') mixed rfl (by kernel_rfl) ?_;intro w16 E2 K2 hz2;have hs12:=E2.size;refine Ku (rs:=[0,2,8]) (by kernel_rfl) rfl ?_;refine Kh rfl ?_ ?_
   refine Wo (v:=.agg _) rfl (Jd Tryz.isAgg40 Tryz.sizeOf40 rfl (hB1.ext E2)) <| Kd ?_;refine ⟨(Ew2.trans E2),?_⟩;refine Ku (rs:=[1,2,8]) (by kernel_rfl) rfl ?_;refine Kh rfl ?_ ?_
   refine Kj rfl (Jk (a:=.agg _) Tryz.call27 rfl) (kT _ ((Mono.mono (Ew2.trans E2) h1)) ((Mono.mono (Ew2.trans E2) h2))) ?_;rintro _ w17 ⟨u4,q2,m3,rfl,E3,hO2,hQ2,hm3,hn2⟩;have icu4:=OwnedB.isC hO2
   have cpu4:=OwnedB.capOk hO2;have icq2:=OwnedB.isC (Owned.toB hQ2);have cpq2:=OwnedB.capOk (Owned.toB hQ2);have hs13:=E3.size;refine Kd ?_;refine ⟨((Ew2.trans E2).trans E3),?_⟩
   refine Ku (rs:=[2,8]) (by kernel_rfl) rfl ?_;refine Kh rfl ?_ ?_;refine Wo (v:=.agg _) rfl (Jq Tryz.isAgg55 Tryz.sizeOf55 rfl (hB2.ext (E2.trans E3))) <| Kd ?_
   refine ⟨((Ew2.trans E2).trans E3),?_⟩;refine Ku (rs:=[3,8]) (by kernel_rfl) rfl ?_;refine Kh rfl ?_ ?_;refine Kj rfl (Jk (a:=.agg _) Tryz.call41 rfl) (toDeed_ok _ _ _ _) ?_;rintro _ w18 ⟨rfl,E5⟩
   have hs14:=E5.size;refine Kd ?_;refine ⟨(((Ew2.trans E2).trans E3).trans E5),?_⟩;refine Ku (rs:=[4,8]) (by kernel_rfl) rfl ?_;refine Kh rfl ?_ ?_
   refine Kj rfl (Jn (a:=.agg _) (b:=.agg _) Tryz.call36 rfl rfl) (kI _ _ _ ((Mono.mono (((Ew2.trans E2).trans E3).trans E5) hM)) ((Mono.mono E5 (OwnedB.read hO2))) ((Mono.mono E5 (Owned.read hQ2)))) ?_
   rintro _ w19 ⟨u5,q3,m4,rfl,E6,hO3,hQ3,hm4,hn3⟩;have icu5:=OwnedB.isC hO3;have cpu5:=OwnedB.capOk hO3;have icq3:=OwnedB.isC (Owned.toB hQ3);have cpq3:=OwnedB.capOk (Owned.toB hQ3);have hs15:=E6.size
   refine Kd ?_;refine ⟨((((Ew2.trans E2).trans E3).trans E5).trans E6),?_⟩;refine Kp 5 rfl (by kernel_rfl) (by kernel_rfl) rfl (fun _ _=>Ka (v:=.tuple _) rfl) ((((Ew2.trans E2).trans E3).trans E5).trans E6) ?_
   refine Kp 6 rfl (by kernel_rfl) (by kernel_rfl) rfl (fun _ _=>Kk (v:=.agg _) rfl rfl) ((((Ew2.trans E2).trans E3).trans E5).trans E6) ?_
   refine Kp 7 rfl (by kernel_rfl) (by kernel_rfl) rfl (fun _ _=>Kk (v:=.bool _) rfl rfl) ((((Ew2.trans E2).trans E3).trans E5).trans E6) ?_;refine Ku (rs:=[8]) (by kernel_rfl) rfl ?_
   refine Kh rfl ?_ ?_;refine Je rfl flat26 ?_;rintro b4 w20 hb4 E7 hB4;have hlb4:=hB4.lt;have hs16:=E7.size;refine Kd ?_;refine ⟨(((((Ew2.trans E2).trans E3).trans E5).trans E6).trans E7),?_⟩
   refine Ku (rs:=[9]) (by kernel_rfl) rfl ?_;refine Kh rfl ?_ ?_
   refine Jl rfl Tryz.sizeOf26 rfl rfl (by first | rfl | assumption) (by first | rfl | assumption) hB4 (by omega) (((((Ew2.trans E2).trans E3).trans E5).trans E6).trans E7) ?_;rintro w21 E8 hB4 K3 hz3
   have E9:=((((E2.trans E3).trans E5).trans E6).trans E7).wroteAt (((((Ew2.trans E2).trans E3).trans E5).trans E6).trans E7) E8 K3 hz3 (by omega);have szE9:=E9.size
   have E10:=(((E3.trans E5).trans E6).trans E7).wroteAt (((((Ew2.trans E2).trans E3).trans E5).trans E6).trans E7) E8 K3 hz3 (by omega);have szE10:=E10.size
   have E11:=((E5.trans E6).trans E7).wroteAt (((((Ew2.trans E2).trans E3).trans E5).trans E6).trans E7) E8 K3 hz3 (by omega);have szE11:=E11.size
   have E12:=(E6.trans E7).wroteAt (((((Ew2.trans E2).trans E3).trans E5).trans E6).trans E7) E8 K3 hz3 (by omega);have szE12:=E12.size
   have E13:=E7.wroteAt (((((Ew2.trans E2).trans E3).trans E5).trans E6).trans E7) E8 K3 hz3 (by omega);have szE13:=E13.size;have hO2:=(hO2.ext ((E5.trans E6).trans E7)).wrote K3 (by omega)
   have hQ2:=(hQ2.toB.ext ((E5.trans E6).trans E7)).wrote K3 (by omega);have hO3:=(hO3.ext E7).wrote K3 (by omega);have hQ3:=(hQ3.toB.ext E7).wrote K3 (by omega);refine Kd ?_;refine ⟨E8,?_⟩
   refine Kp 10 rfl (by kernel_rfl) (by kernel_rfl) rfl (fun _ _=>Kb (v:=.bool _) rfl) E8 ?_;refine Jm (by kernel_rfl) ?_;rotate_left;exact Kl;exact Kl;refine Kh rfl ?_ ?_
   refine Je rfl flat26 ?_;rintro b4 w19 hb4 E6 hB4;have hlb4:=hB4.lt;have hs15:=E6.size;refine Kd ?_;refine ⟨((((Ew2.trans E2).trans E3).trans E5).trans E6),?_⟩;refine Ku (rs:=[4]) (by kernel_rfl) rfl ?_
   refine Kh rfl ?_ ?_
   refine Kj rfl (Jn (a:=.agg _) (b:=.agg _) Tryz.call36 rfl rfl) (kI _ _ _ ((Mono.mono ((((Ew2.trans E2).trans E3).trans E5).trans E6) hM)) ((Mono.mono (E5.trans E6) (OwnedB.read hO2))) ((Mono.mono (E5.trans E6) (Owned.read hQ2)))) ?_
   rintro _ w20 ⟨u5,q3,m4,rfl,E7,hO3,hQ3,hm4,hn3⟩;have icu5:=OwnedB.isC hO3;have cpu5:=OwnedB.capOk hO3;have icq3:=OwnedB.isC (Owned.toB hQ3);have cpq3:=OwnedB.capOk (Owned.toB hQ3);have hs16:=E7.size
   refine Kd ?_;refine ⟨(((((Ew2.trans E2).trans E3).trans E5).trans E6).trans E7),?_⟩
   refine Kp 5 rfl (by kernel_rfl) (by kernel_rfl) rfl (fun _ _=>Ka (v:=.tuple _) rfl) (((((Ew2.trans E2).trans E3).trans E5).trans E6).trans E7) ?_
   refine Kp 6 rfl (by kernel_rfl) (by kernel_rfl) rfl (fun _ _=>Kk (v:=.agg _) rfl rfl) (((((Ew2.trans E2).trans E3).trans E5).trans E6).trans E7) ?_
   refine Kp 7 rfl (by kernel_rfl) (by kernel_rfl) rfl (fun _ _=>Kk (v:=.bool _) rfl rfl) (((((Ew2.trans E2).trans E3).trans E5).trans E6).trans E7) ?_;refine Ku (rs:=[9]) (by kernel_rfl) rfl ?_
   refine Kh rfl ?_ ?_;refine Jl rfl Tryz.sizeOf26 rfl rfl (by first | rfl | assumption) (by first | rfl | assumption) (hB4.ext E7) (by omega) (((((Ew2.trans E2).trans E3).trans E5).trans E6).trans E7) ?_
   rintro w21 E8 hB4 K3 hz3;have E9:=((((E2.trans E3).trans E5).trans E6).trans E7).wroteAt (((((Ew2.trans E2).trans E3).trans E5).trans E6).trans E7) E8 K3 hz3 (by omega);have szE9:=E9.size
   have E10:=(((E3.trans E5).trans E6).trans E7).wroteAt (((((Ew2.trans E2).trans E3).trans E5).trans E6).trans E7) E8 K3 hz3 (by omega);have szE10:=E10.size
   have E11:=((E5.trans E6).trans E7).wroteAt (((((Ew2.trans E2).trans E3).trans E5).trans E6).trans E7) E8 K3 hz3 (by omega);have szE11:=E11.size
   have E12:=(E6.trans E7).wroteAt (((((Ew2.trans E2).trans E3).trans E5).trans E6).trans E7) E8 K3 hz3 (by omega);have szE12:=E12.size;have hO2:=(hO2.ext ((E5.trans E6).trans E7)).wrote K3 (by omega)
   have hQ2:=(hQ2.toB.ext ((E5.trans E6).trans E7)).wrote K3 (by omega);have hO3:=hO3.wrote K3 (by omega);have hQ3:=hQ3.toB.wrote K3 (by omega);refine Kd ?_;refine ⟨E8,?_⟩
   refine Kp 10 rfl (by kernel_rfl) (by kernel_rfl) rfl (fun _ _=>Kb (v:=.bool _) rfl) E8 ?_;refine Jm (by kernel_rfl) ?_;rotate_left;exact Kl;exact Kl;exact Kl
   refine Kh rfl ?_ ?_;refine Je rfl flat26 ?_;rintro b4 w18 hb4 E5 hB4;have hlb4:=hB4.lt;have hs14:=E5.size;refine Kd ?_;refine ⟨(((Ew2.trans E2).trans E3).trans E5),?_⟩
   refine Ku (rs:=[3]) (by kernel_rfl) rfl ?_;refine Kh rfl ?_ ?_;refine Kj rfl (Jk (a:=.agg _) Tryz.call41 rfl) (toDeed_ok _ _ _ _) ?_;rintro _ w19 ⟨rfl,E6⟩;have hs15:=E6.size;refine Kd ?_
   refine ⟨((((Ew2.trans E2).trans E3).trans E5).trans E6),?_⟩;refine Ku (rs:=[4]) (by kernel_rfl) rfl ?_;refine Kh rfl ?_ ?_
   refine Kj rfl (Jn (a:=.agg _) (b:=.agg _) Tryz.call36 rfl rfl) (kI _ _ _ ((Mono.mono ((((Ew2.trans E2).trans E3).trans E5).trans E6) hM)) ((Mono.mono (E5.trans E6) (OwnedB.read hO2))) ((Mono.mono (E5.trans E6) (Owned.read hQ2)))) ?_
   rintro _ w20 ⟨u5,q3,m4,rfl,E7,hO3,hQ3,hm4,hn3⟩;have icu5:=OwnedB.isC hO3;have cpu5:=OwnedB.capOk hO3;have icq3:=OwnedB.isC (Owned.toB hQ3);have cpq3:=OwnedB.capOk (Owned.toB hQ3);have hs16:=E7.size
   refine Kd ?_;refine ⟨(((((Ew2.trans E2).trans E3).trans E5).trans E6).trans E7),?_⟩
   refine Kp 5 rfl (by kernel_rfl) (by kernel_rfl) rfl (fun _ _=>Ka (v:=.tuple _) rfl) (((((Ew2.trans E2).trans E3).trans E5).trans E6).trans E7) ?_
   refine Kp 6 rfl (by kernel_rfl) (by kernel_rfl) rfl (fun _ _=>Kk (v:=.agg _) rfl rfl) (((((Ew2.trans E2).trans E3).trans E5).trans E6).trans E7) ?_
   refine Kp 7 rfl (by kernel_rfl) (by kernel_rfl) rfl (fun _ _=>Kk (v:=.bool _) rfl rfl) (((((Ew2.trans E2).trans E3).trans E5).trans E6).trans E7) ?_;refine Ku (rs:=[9]) (by kernel_rfl) rfl ?_
   refine Kh rfl ?_ ?_;refine Jl rfl Tryz.sizeOf26 rfl rfl (by first | rfl | assumption) (by first | rfl | assumption) (hB4.ext (E6.trans E7)) (by omega) (((((Ew2.trans E2).trans E3).trans E5).trans E6).trans E7) ?_
   rintro w21 E8 hB4 K3 hz3;have E9:=((((E2.trans E3).trans E5).trans E6).trans E7).wroteAt (((((Ew2.trans E2).trans E3).trans E5).trans E6).trans E7) E8 K3 hz3 (by omega);have szE9:=E9.size
   have E10:=(((E3.trans E5).trans E6).trans E7).wroteAt (((((Ew2.trans E2).trans E3).trans E5).trans E6).trans E7) E8 K3 hz3 (by omega);have szE10:=E10.size
   have E11:=((E5.trans E6).trans E7).wroteAt (((((Ew2.trans E2).trans E3).trans E5).trans E6).trans E7) E8 K3 hz3 (by omega);have szE11:=E11.size;have hO2:=(hO2.ext ((E5.trans E6).trans E7)).wrote K3 (by omega)
   have hQ2:=(hQ2.toB.ext ((E5.trans E6).trans E7)).wrote K3 (by omega);have hO3:=hO3.wrote K3 (by omega);have hQ3:=hQ3.toB.wrote K3 (by omega);refine Kd ?_;refine ⟨E8,?_⟩
   refine Kp 10 rfl (by kernel_rfl) (by kernel_rfl) rfl (fun _ _=>Kb (v:=.bool _) rfl) E8 ?_;refine Jm (by kernel_rfl) ?_;rotate_left;exact Kl;exact Kl;exact Kl;exact Kl
   refine Kh rfl ?_ ?_;refine Je rfl flat26 ?_;rintro b4 w18 hb4 E5 hB4;have hlb4:=hB4.lt;have hs14:=E5.size;refine Kd ?_;refine ⟨(((Ew2.trans E2).trans E3).trans E5),?_⟩
   refine Ku (rs:=[2]) (by kernel_rfl) rfl ?_;refine Kh rfl ?_ ?_;refine Wo (v:=.agg _) rfl (Jq Tryz.isAgg55 Tryz.sizeOf55 rfl (hB2.ext ((E2.trans E3).trans E5))) <| Kd ?_
   refine ⟨(((Ew2.trans E2).trans E3).trans E5),?_⟩;refine Ku (rs:=[3]) (by kernel_rfl) rfl ?_;refine Kh rfl ?_ ?_;refine Kj rfl (Jk (a:=.agg _) Tryz.call41 rfl) (toDeed_ok _ _ _ _) ?_;rintro _ w19 ⟨rfl,E6⟩
   have hs15:=E6.size;refine Kd ?_;refine ⟨((((Ew2.trans E2).trans E3).trans E5).trans E6),?_⟩;refine Ku (rs:=[4]) (by kernel_rfl) rfl ?_;refine Kh rfl ?_ ?_
   refine Kj rfl (Jn (a:=.agg _) (b:=.agg _) Tryz.call36 rfl rfl) (kI _ _ _ ((Mono.mono ((((Ew2.trans E2).trans E3).trans E5).trans E6) hM)) ((Mono.mono (E5.trans E6) (OwnedB.read hO2))) ((Mono.mono (E5.trans E6) (Owned.read hQ2)))) ?_
   rintro _ w20 ⟨u5,q3,m4,rfl,E7,hO3,hQ3,hm4,hn3⟩;have icu5:=OwnedB.isC hO3;have cpu5:=OwnedB.capOk hO3;have icq3:=OwnedB.isC (Owned.toB hQ3);have cpq3:=OwnedB.capOk (Owned.toB hQ3);have hs16:=E7.size
   refine Kd ?_;refine ⟨(((((Ew2.trans E2).trans E3).trans E5).trans E6).trans E7),?_⟩
   refine Kp 5 rfl (by kernel_rfl) (by kernel_rfl) rfl (fun _ _=>Ka (v:=.tuple _) rfl) (((((Ew2.trans E2).trans E3).trans E5).trans E6).trans E7) ?_
   refine Kp 6 rfl (by kernel_rfl) (by kernel_rfl) rfl (fun _ _=>Kk (v:=.agg _) rfl rfl) (((((Ew2.trans E2).trans E3).trans E5).trans E6).trans E7) ?_
   refine Kp 7 rfl (by kernel_rfl) (by kernel_rfl) rfl (fun _ _=>Kk (v:=.bool _) rfl rfl) (((((Ew2.trans E2).trans E3).trans E5).trans E6).trans E7) ?_;refine Ku (rs:=[9]) (by kernel_rfl) rfl ?_
   refine Kh rfl ?_ ?_;refine Jl rfl Tryz.sizeOf26 rfl rfl (by first | rfl | assumption) (by first | rfl | assumption) (hB4.ext (E6.trans E7)) (by omega) (((((Ew2.trans E2).trans E3).trans E5).trans E6).trans E7) ?_
   rintro w21 E8 hB4 K3 hz3;have E9:=((((E2.trans E3).trans E5).trans E6).trans E7).wroteAt (((((Ew2.trans E2).trans E3).trans E5).trans E6).trans E7) E8 K3 hz3 (by omega);have szE9:=E9.size
   have E10:=(((E3.trans E5).trans E6).trans E7).wroteAt (((((Ew2.trans E2).trans E3).trans E5).trans E6).trans E7) E8 K3 hz3 (by omega);have szE10:=E10.size
   have E11:=((E5.trans E6).trans E7).wroteAt (((((Ew2.trans E2).trans E3).trans E5).trans E6).trans E7) E8 K3 hz3 (by omega);have szE11:=E11.size;have hO2:=(hO2.ext ((E5.trans E6).trans E7)).wrote K3 (by omega)
   have hQ2:=(hQ2.toB.ext ((E5.trans E6).trans E7)).wrote K3 (by omega);have hO3:=hO3.wrote K3 (by omega);have hQ3:=hQ3.toB.wrote K3 (by omega);refine Kd ?_;refine ⟨E8,?_⟩
   refine Kp 10 rfl (by kernel_rfl) (by kernel_rfl) rfl (fun _ _=>Kb (v:=.bool _) rfl) E8 ?_;refine Jm (by kernel_rfl) ?_;rotate_left;exact Kl;exact Kl;exact Kl;exact Kl
   exact Kl;refine Kh rfl ?_ ?_;refine Wo (v:=.agg _) rfl (Jq Tryz.isAgg55 Tryz.sizeOf55 rfl (hB2.ext E2)) <| Kd ?_;refine ⟨(Ew2.trans E2),?_⟩;refine Ku (rs:=[1,8]) (by kernel_rfl) rfl ?_
   refine Kh rfl ?_ ?_;refine Kj rfl (Jk (a:=.agg _) Tryz.call27 rfl) (kT _ ((Mono.mono (Ew2.trans E2) h1)) ((Mono.mono (Ew2.trans E2) h2))) ?_;rintro _ w17 ⟨u4,q2,m3,rfl,E3,hO2,hQ2,hm3,hn2⟩
   have icu4:=OwnedB.isC hO2;have cpu4:=OwnedB.capOk hO2;have icq2:=OwnedB.isC (Owned.toB hQ2);have cpq2:=OwnedB.capOk (Owned.toB hQ2);have hs13:=E3.size;refine Kd ?_;refine ⟨((Ew2.trans E2).trans E3),?_⟩
   refine Ku (rs:=[3,8]) (by kernel_rfl) rfl ?_;refine Kh rfl ?_ ?_;refine Kj rfl (Jk (a:=.agg _) Tryz.call41 rfl) (toDeed_ok _ _ _ _) ?_;rintro _ w18 ⟨rfl,E5⟩;have hs14:=E5.size;refine Kd ?_
   refine ⟨(((Ew2.trans E2).trans E3).trans E5),?_⟩;refine Ku (rs:=[4,8]) (by kernel_rfl) rfl ?_;refine Kh rfl ?_ ?_
   refine Kj rfl (Jn (a:=.agg _) (b:=.agg _) Tryz.call36 rfl rfl) (kI _ _ _ ((Mono.mono (((Ew2.trans E2).trans E3).trans E5) hM)) ((Mono.mono E5 (OwnedB.read hO2))) ((Mono.mono E5 (Owned.read hQ2)))) ?_
   rintro _ w19 ⟨u5,q3,m4,rfl,E6,hO3,hQ3,hm4,hn3⟩;have icu5:=OwnedB.isC hO3;have cpu5:=OwnedB.capOk hO3;have icq3:=OwnedB.isC (Owned.toB hQ3);have cpq3:=OwnedB.capOk (Owned.toB hQ3);have hs15:=E6.size
   refine Kd ?_;refine ⟨((((Ew2.trans E2).trans E3).trans E5).trans E6),?_⟩;refine Kp 5 rfl (by kernel_rfl) (by kernel_rfl) rfl (fun _ _=>Ka (v:=.tuple _) rfl) ((((Ew2.trans E2).trans E3).trans E5).trans E6) ?_
   refine Kp 6 rfl (by kernel_rfl) (by kernel_rfl) rfl (fun _ _=>Kk (v:=.agg _) rfl rfl) ((((Ew2.trans E2).trans E3).trans E5).trans E6) ?_
   refine Kp 7 rfl (by kernel_rfl) (by kernel_rfl) rfl (fun _ _=>Kk (v:=.bool _) rfl rfl) ((((Ew2.trans E2).trans E3).trans E5).trans E6) ?_;refine Ku (rs:=[8]) (by kernel_rfl) rfl ?_
   refine Kh rfl ?_ ?_;refine Je rfl flat26 ?_;rintro b4 w20 hb4 E7 hB4;have hlb4:=hB4.lt;have hs16:=E7.size;refine Kd ?_;refine ⟨(((((Ew2.trans E2).trans E3).trans E5).trans E6).trans E7),?_⟩
   refine Ku (rs:=[9]) (by kernel_rfl) rfl ?_;refine Kh rfl ?_ ?_
   refine Jl rfl Tryz.sizeOf26 rfl rfl (by first | rfl | assumption) (by first | rfl | assumption) hB4 (by omega) (((((Ew2.trans E2).trans E3).trans E5).trans E6).trans E7) ?_;rintro w21 E8 hB4 K3 hz3
   have E9:=((((E2.trans E3).trans E5).trans E6).trans E7).wroteAt (((((Ew2.trans E2).trans E3).trans E5).trans E6).trans E7) E8 K3 hz3 (by omega);have szE9:=E9.size
   have E10:=(((E3.trans E5).trans E6).trans E7).wroteAt (((((Ew2.trans E2).trans E3).trans E5).trans E6).trans E7) E8 K3 hz3 (by omega);have szE10:=E10.size
   have E11:=((E5.trans E6).trans E7).wroteAt (((((Ew2.trans E2).trans E3).trans E5).trans E6).trans E7) E8 K3 hz3 (by omega);have szE11:=E11.size
   have E12:=(E6.trans E7).wroteAt (((((Ew2.trans E2).trans E3).trans E5).trans E6).trans E7) E8 K3 hz3 (by omega);have szE12:=E12.size
   have E13:=E7.wroteAt (((((Ew2.trans E2).trans E3).trans E5).trans E6).trans E7) E8 K3 hz3 (by omega);have szE13:=E13.size;have hO2:=(hO2.ext ((E5.trans E6).trans E7)).wrote K3 (by omega)
   have hQ2:=(hQ2.toB.ext ((E5.trans E6).trans E7)).wrote K3 (by omega);have hO3:=(hO3.ext E7).wrote K3 (by omega);have hQ3:=(hQ3.toB.ext E7).wrote K3 (by omega);refine Kd ?_;refine ⟨E8,?_⟩
   refine Kp 10 rfl (by kernel_rfl) (by kernel_rfl) rfl (fun _ _=>Kb (v:=.bool _) rfl) E8 ?_;refine Jm (by kernel_rfl) ?_;rotate_left;exact Kl;exact Kl;refine Kh rfl ?_ ?_
   refine Je rfl flat26 ?_;rintro b4 w19 hb4 E6 hB4;have hlb4:=hB4.lt;have hs15:=E6.size;refine Kd ?_;refine ⟨((((Ew2.trans E2).trans E3).trans E5).trans E6),?_⟩;refine Ku (rs:=[4]) (by kernel_rfl) rfl ?_
   refine Kh rfl ?_ ?_
   refine Kj rfl (Jn (a:=.agg _) (b:=.agg _) Tryz.call36 rfl rfl) (kI _ _ _ ((Mono.mono ((((Ew2.trans E2).trans E3).trans E5).trans E6) hM)) ((Mono.mono (E5.trans E6) (OwnedB.read hO2))) ((Mono.mono (E5.trans E6) (Owned.read hQ2)))) ?_
   rintro _ w20 ⟨u5,q3,m4,rfl,E7,hO3,hQ3,hm4,hn3⟩;have icu5:=OwnedB.isC hO3;have cpu5:=OwnedB.capOk hO3;have icq3:=OwnedB.isC (Owned.toB hQ3);have cpq3:=OwnedB.capOk (Owned.toB hQ3);have hs16:=E7.size
   refine Kd ?_;refine ⟨(((((Ew2.trans E2).trans E3).trans E5).trans E6).trans E7),?_⟩
   refine Kp 5 rfl (by kernel_rfl) (by kernel_rfl) rfl (fun _ _=>Ka (v:=.tuple _) rfl) (((((Ew2.trans E2).trans E3).trans E5).trans E6).trans E7) ?_
   refine Kp 6 rfl (by kernel_rfl) (by kernel_rfl) rfl (fun _ _=>Kk (v:=.agg _) rfl rfl) (((((Ew2.trans E2).trans E3).trans E5).trans E6).trans E7) ?_
   refine Kp 7 rfl (by kernel_rfl) (by kernel_rfl) rfl (fun _ _=>Kk (v:=.bool _) rfl rfl) (((((Ew2.trans E2).trans E3).trans E5).trans E6).trans E7) ?_;refine Ku (rs:=[9]) (by kernel_rfl) rfl ?_
   refine Kh rfl ?_ ?_;refine Jl rfl Tryz.sizeOf26 rfl rfl (by first | rfl | assumption) (by first | rfl | assumption) (hB4.ext E7) (by omega) (((((Ew2.trans E2).trans E3).trans E5).trans E6).trans E7) ?_
   rintro w21 E8 hB4 K3 hz3;have E9:=((((E2.trans E3).trans E5).trans E6).trans E7).wroteAt (((((Ew2.trans E2).trans E3).trans E5).trans E6).trans E7) E8 K3 hz3 (by omega);have szE9:=E9.size
   have E10:=(((E3.trans E5).trans E6).trans E7).wroteAt (((((Ew2.trans E2).trans E3).trans E5).trans E6).trans E7) E8 K3 hz3 (by omega);have szE10:=E10.size
   have E11:=((E5.trans E6).trans E7).wroteAt (((((Ew2.trans E2).trans E3).trans E5).trans E6).trans E7) E8 K3 hz3 (by omega);have szE11:=E11.size
   have E12:=(E6.trans E7).wroteAt (((((Ew2.trans E2).trans E3).trans E5).trans E6).trans E7) E8 K3 hz3 (by omega);have szE12:=E12.size;have hO2:=(hO2.ext ((E5.trans E6).trans E7)).wrote K3 (by omega)
   have hQ2:=(hQ2.toB.ext ((E5.trans E6).trans E7)).wrote K3 (by omega);have hO3:=hO3.wrote K3 (by omega);have hQ3:=hQ3.toB.wrote K3 (by omega);refine Kd ?_;refine ⟨E8,?_⟩
   refine Kp 10 rfl (by kernel_rfl) (by kernel_rfl) rfl (fun _ _=>Kb (v:=.bool _) rfl) E8 ?_;refine Jm (by kernel_rfl) ?_;rotate_left;exact Kl;exact Kl;exact Kl
   refine Kh rfl ?_ ?_;refine Je rfl flat26 ?_;rintro b4 w18 hb4 E5 hB4;have hlb4:=hB4.lt;have hs14:=E5.size;refine Kd ?_;refine ⟨(((Ew2.trans E2).trans E3).trans E5),?_⟩
   refine Ku (rs:=[3]) (by kernel_rfl) rfl ?_;refine Kh rfl ?_ ?_;refine Kj rfl (Jk (a:=.agg _) Tryz.call41 rfl) (toDeed_ok _ _ _ _) ?_;rintro _ w19 ⟨rfl,E6⟩;have hs15:=E6.size;refine Kd ?_
   refine ⟨((((Ew2.trans E2).trans E3).trans E5).trans E6),?_⟩;refine Ku (rs:=[4]) (by kernel_rfl) rfl ?_;refine Kh rfl ?_ ?_
   refine Kj rfl (Jn (a:=.agg _) (b:=.agg _) Tryz.call36 rfl rfl) (kI _ _ _ ((Mono.mono ((((Ew2.trans E2).trans E3).trans E5).trans E6) hM)) ((Mono.mono (E5.trans E6) (OwnedB.read hO2))) ((Mono.mono (E5.trans E6) (Owned.read hQ2)))) ?_
   rintro _ w20 ⟨u5,q3,m4,rfl,E7,hO3,hQ3,hm4,hn3⟩;have icu5:=OwnedB.isC hO3;have cpu5:=OwnedB.capOk hO3;have icq3:=OwnedB.isC (Owned.toB hQ3);have cpq3:=OwnedB.capOk (Owned.toB hQ3);have hs16:=E7.size
   refine Kd ?_;refine ⟨(((((Ew2.trans E2).trans E3).trans E5).trans E6).trans E7),?_⟩
   refine Kp 5 rfl (by kernel_rfl) (by kernel_rfl) rfl (fun _ _=>Ka (v:=.tuple _) rfl) (((((Ew2.trans E2).trans E3).trans E5).trans E6).trans E7) ?_
   refine Kp 6 rfl (by kernel_rfl) (by kernel_rfl) rfl (fun _ _=>Kk (v:=.agg _) rfl rfl) (((((Ew2.trans E2).trans E3).trans E5).trans E6).trans E7) ?_
   refine Kp 7 rfl (by kernel_rfl) (by kernel_rfl) rfl (fun _ _=>Kk (v:=.bool _) rfl rfl) (((((Ew2.trans E2).trans E3).trans E5).trans E6).trans E7) ?_;refine Ku (rs:=[9]) (by kernel_rfl) rfl ?_
   refine Kh rfl ?_ ?_;refine Jl rfl Tryz.sizeOf26 rfl rfl (by first | rfl | assumption) (by first | rfl | assumption) (hB4.ext (E6.trans E7)) (by omega) (((((Ew2.trans E2).trans E3).trans E5).trans E6).trans E7) ?_
   rintro w21 E8 hB4 K3 hz3;have E9:=((((E2.trans E3).trans E5).trans E6).trans E7).wroteAt (((((Ew2.trans E2).trans E3).trans E5).trans E6).trans E7) E8 K3 hz3 (by omega);have szE9:=E9.size
   have E10:=(((E3.trans E5).trans E6).trans E7).wroteAt (((((Ew2.trans E2).trans E3).trans E5).trans E6).trans E7) E8 K3 hz3 (by omega);have szE10:=E10.size
   have E11:=((E5.trans E6).trans E7).wroteAt (((((Ew2.trans E2).trans E3).trans E5).trans E6).trans E7) E8 K3 hz3 (by omega);have szE11:=E11.size;have hO2:=(hO2.ext ((E5.trans E6).trans E7)).wrote K3 (by omega)
   have hQ2:=(hQ2.toB.ext ((E5.trans E6).trans E7)).wrote K3 (by omega);have hO3:=hO3.wrote K3 (by omega);have hQ3:=hQ3.toB.wrote K3 (by omega);refine Kd ?_;refine ⟨E8,?_⟩
   refine Kp 10 rfl (by kernel_rfl) (by kernel_rfl) rfl (fun _ _=>Kb (v:=.bool _) rfl) E8 ?_;refine Jm (by kernel_rfl) ?_;rotate_left;exact Kl;exact Kl;exact Kl;exact Kl
   refine Kh rfl ?_ ?_;refine Je rfl flat26 ?_;rintro b4 w17 hb4 E3 hB4;have hlb4:=hB4.lt;have hs13:=E3.size;refine Kd ?_;refine ⟨((Ew2.trans E2).trans E3),?_⟩
   refine Ku (rs:=[1]) (by kernel_rfl) rfl ?_;refine Kh rfl ?_ ?_;refine Kj rfl (Jk (a:=.agg _) Tryz.call27 rfl) (kT _ ((Mono.mono ((Ew2.trans E2).trans E3) h1)) ((Mono.mono ((Ew2.trans E2).trans E3) h2))) ?_
   rintro _ w18 ⟨u4,q2,m3,rfl,E5,hO2,hQ2,hm3,hn2⟩;have icu4:=OwnedB.isC hO2;have cpu4:=OwnedB.capOk hO2;have icq2:=OwnedB.isC (Owned.toB hQ2);have cpq2:=OwnedB.capOk (Owned.toB hQ2);have hs14:=E5.size
   refine Kd ?_;refine ⟨(((Ew2.trans E2).trans E3).trans E5),?_⟩;refine Ku (rs:=[3]) (by kernel_rfl) rfl ?_;refine Kh rfl ?_ ?_;refine Kj rfl (Jk (a:=.agg _) Tryz.call41 rfl) (toDeed_ok _ _ _ _) ?_
   rintro _ w19 ⟨rfl,E6⟩;have hs15:=E6.size;refine Kd ?_;refine ⟨((((Ew2.trans E2).trans E3).trans E5).trans E6),?_⟩;refine Ku (rs:=[4]) (by kernel_rfl) rfl ?_;refine Kh rfl ?_ ?_
   refine Kj rfl (Jn (a:=.agg _) (b:=.agg _) Tryz.call36 rfl rfl) (kI _ _ _ ((Mono.mono ((((Ew2.trans E2).trans E3).trans E5).trans E6) hM)) ((Mono.mono E6 (OwnedB.read hO2))) ((Mono.mono E6 (Owned.read hQ2)))) ?_
   rintro _ w20 ⟨u5,q3,m4,rfl,E7,hO3,hQ3,hm4,hn3⟩;have icu5:=OwnedB.isC hO3;have cpu5:=OwnedB.capOk hO3;have icq3:=OwnedB.isC (Owned.toB hQ3);have cpq3:=OwnedB.capOk (Owned.toB hQ3);have hs16:=E7.size
   refine Kd ?_;refine ⟨(((((Ew2.trans E2).trans E3).trans E5).trans E6).trans E7),?_⟩
   refine Kp 5 rfl (by kernel_rfl) (by kernel_rfl) rfl (fun _ _=>Ka (v:=.tuple _) rfl) (((((Ew2.trans E2).trans E3).trans E5).trans E6).trans E7) ?_
   refine Kp 6 rfl (by kernel_rfl) (by kernel_rfl) rfl (fun _ _=>Kk (v:=.agg _) rfl rfl) (((((Ew2.trans E2).trans E3).trans E5).trans E6).trans E7) ?_
   refine Kp 7 rfl (by kernel_rfl) (by kernel_rfl) rfl (fun _ _=>Kk (v:=.bool _) rfl rfl) (((((Ew2.trans E2).trans E3).trans E5).trans E6).trans E7) ?_;refine Ku (rs:=[9]) (by kernel_rfl) rfl ?_
   refine Kh rfl ?_ ?_
   refine Jl rfl Tryz.sizeOf26 rfl rfl (by first | rfl | assumption) (by first | rfl | assumption) (hB4.ext ((E5.trans E6).trans E7)) (by omega) (((((Ew2.trans E2).trans E3).trans E5).trans E6).trans E7) ?_
   rintro w21 E8 hB4 K3 hz3;have E9:=((((E2.trans E3).trans E5).trans E6).trans E7).wroteAt (((((Ew2.trans E2).trans E3).trans E5).trans E6).trans E7) E8 K3 hz3 (by omega);have szE9:=E9.size
   have E10:=(((E3.trans E5).trans E6).trans E7).wroteAt (((((Ew2.trans E2).trans E3).trans E5).trans E6).trans E7) E8 K3 hz3 (by omega);have szE10:=E10.size;have hO2:=(hO2.ext (E6.trans E7)).wrote K3 (by omega)
   have hQ2:=(hQ2.toB.ext (E6.trans E7)).wrote K3 (by omega);have hO3:=hO3.wrote K3 (by omega);have hQ3:=hQ3.toB.wrote K3 (by omega);refine Kd ?_;refine ⟨E8,?_⟩
   refine Kp 10 rfl (by kernel_rfl) (by kernel_rfl) rfl (fun _ _=>Kb (v:=.bool _) rfl) E8 ?_;refine Jm (by kernel_rfl) ?_;rotate_left;exact Kl;exact Kl;exact Kl;exact Kl
   exact Kl;refine Kh rfl ?_ ?_;refine Je rfl flat26 ?_;rintro b4 w17 hb4 E3 hB4;have hlb4:=hB4.lt;have hs13:=E3.size;refine Kd ?_;refine ⟨((Ew2.trans E2).trans E3),?_⟩
   refine Ku (rs:=[1,2]) (by kernel_rfl) rfl ?_;refine Kh rfl ?_ ?_
   refine Kj rfl (Jk (a:=.agg _) Tryz.call27 rfl) (kT _ ((Mono.mono ((Ew2.trans E2).trans E3) h1)) ((Mono.mono ((Ew2.trans E2).trans E3) h2))) ?_;rintro _ w18 ⟨u4,q2,m3,rfl,E5,hO2,hQ2,hm3,hn2⟩
   have icu4:=OwnedB.isC hO2;have cpu4:=OwnedB.capOk hO2;have icq2:=OwnedB.isC (Owned.toB hQ2);have cpq2:=OwnedB.capOk (Owned.toB hQ2);have hs14:=E5.size;refine Kd ?_
   refine ⟨(((Ew2.trans E2).trans E3).trans E5),?_⟩;refine Ku (rs:=[2]) (by kernel_rfl) rfl ?_;refine Kh rfl ?_ ?_
   refine Wo (v:=.agg _) rfl (Jq Tryz.isAgg55 Tryz.sizeOf55 rfl (hB2.ext ((E2.trans E3).trans E5))) <| Kd ?_;refine ⟨(((Ew2.trans E2).trans E3).trans E5),?_⟩;refine Ku (rs:=[3]) (by kernel_rfl) rfl ?_
   refine Kh rfl ?_ ?_;refine Kj rfl (Jk (a:=.agg _) Tryz.call41 rfl) (toDeed_ok _ _ _ _) ?_;rintro _ w19 ⟨rfl,E6⟩;have hs15:=E6.size;refine Kd ?_
   refine ⟨((((Ew2.trans E2).trans E3).trans E5).trans E6),?_⟩;refine Ku (rs:=[4]) (by kernel_rfl) rfl ?_;refine Kh rfl ?_ ?_
   refine Kj rfl (Jn (a:=.agg _) (b:=.agg _) Tryz.call36 rfl rfl) (kI _ _ _ ((Mono.mono ((((Ew2.trans E2).trans E3).trans E5).trans E6) hM)) ((Mono.mono E6 (OwnedB.read hO2))) ((Mono.mono E6 (Owned.read hQ2)))) ?_
   rintro _ w20 ⟨u5,q3,m4,rfl,E7,hO3,hQ3,hm4,hn3⟩;have icu5:=OwnedB.isC hO3;have cpu5:=OwnedB.capOk hO3;have icq3:=OwnedB.isC (Owned.toB hQ3);have cpq3:=OwnedB.capOk (Owned.toB hQ3);have hs16:=E7.size
   refine Kd ?_;refine ⟨(((((Ew2.trans E2).trans E3).trans E5).trans E6).trans E7),?_⟩
   refine Kp 5 rfl (by kernel_rfl) (by kernel_rfl) rfl (fun _ _=>Ka (v:=.tuple _) rfl) (((((Ew2.trans E2).trans E3).trans E5).trans E6).trans E7) ?_
   refine Kp 6 rfl (by kernel_rfl) (by kernel_rfl) rfl (fun _ _=>Kk (v:=.agg _) rfl rfl) (((((Ew2.trans E2).trans E3).trans E5).trans E6).trans E7) ?_
   refine Kp 7 rfl (by kernel_rfl) (by kernel_rfl) rfl (fun _ _=>Kk (v:=.bool _) rfl rfl) (((((Ew2.trans E2).trans E3).trans E5).trans E6).trans E7) ?_;refine Ku (rs:=[9]) (by kernel_rfl) rfl ?_
   refine Kh rfl ?_ ?_
   refine Jl rfl Tryz.sizeOf26 rfl rfl (by first | rfl | assumption) (by first | rfl | assumption) (hB4.ext ((E5.trans E6).trans E7)) (by omega) (((((Ew2.trans E2).trans E3).trans E5).trans E6).trans E7) ?_
   rintro w21 E8 hB4 K3 hz3;have E9:=((((E2.trans E3).trans E5).trans E6).trans E7).wroteAt (((((Ew2.trans E2).trans E3).trans E5).trans E6).trans E7) E8 K3 hz3 (by omega);have szE9:=E9.size
   have E10:=(((E3.trans E5).trans E6).trans E7).wroteAt (((((Ew2.trans E2).trans E3).trans E5).trans E6).trans E7) E8 K3 hz3 (by omega);have szE10:=E10.size;have hO2:=(hO2.ext (E6.trans E7)).wrote K3 (by omega)
   have hQ2:=(hQ2.toB.ext (E6.trans E7)).wrote K3 (by omega);have hO3:=hO3.wrote K3 (by omega);have hQ3:=hQ3.toB.wrote K3 (by omega);refine Kd ?_;refine ⟨E8,?_⟩
   refine Kp 10 rfl (by kernel_rfl) (by kernel_rfl) rfl (fun _ _=>Kb (v:=.bool _) rfl) E8 ?_;refine Jm (by kernel_rfl) ?_;rotate_left;exact Kl;exact Kl;exact Kl;exact Kl
   refine Kh rfl ?_ ?_;refine Wo (v:=.agg _) rfl (Jq Tryz.isAgg55 Tryz.sizeOf55 rfl (hB2.ext (E2.trans E3))) <| Kd ?_;refine ⟨((Ew2.trans E2).trans E3),?_⟩
   refine Ku (rs:=[1]) (by kernel_rfl) rfl ?_;refine Kh rfl ?_ ?_;refine Kj rfl (Jk (a:=.agg _) Tryz.call27 rfl) (kT _ ((Mono.mono ((Ew2.trans E2).trans E3) h1)) ((Mono.mono ((Ew2.trans E2).trans E3) h2))) ?_
   rintro _ w18 ⟨u4,q2,m3,rfl,E5,hO2,hQ2,hm3,hn2⟩;have icu4:=OwnedB.isC hO2;have cpu4:=OwnedB.capOk hO2;have icq2:=OwnedB.isC (Owned.toB hQ2);have cpq2:=OwnedB.capOk (Owned.toB hQ2);have hs14:=E5.size
   refine Kd ?_;refine ⟨(((Ew2.trans E2).trans E3).trans E5),?_⟩;refine Ku (rs:=[3]) (by kernel_rfl) rfl ?_;refine Kh rfl ?_ ?_;refine Kj rfl (Jk (a:=.agg _) Tryz.call41 rfl) (toDeed_ok _ _ _ _) ?_
   rintro _ w19 ⟨rfl,E6⟩;have hs15:=E6.size;refine Kd ?_;refine ⟨((((Ew2.trans E2).trans E3).trans E5).trans E6),?_⟩;refine Ku (rs:=[4]) (by kernel_rfl) rfl ?_;refine Kh rfl ?_ ?_
   refine Kj rfl (Jn (a:=.agg _) (b:=.agg _) Tryz.call36 rfl rfl) (kI _ _ _ ((Mono.mono ((((Ew2.trans E2).trans E3).trans E5).trans E6) hM)) ((Mono.mono E6 (OwnedB.read hO2))) ((Mono.mono E6 (Owned.read hQ2)))) ?_
   rintro _ w20 ⟨u5,q3,m4,rfl,E7,hO3,hQ3,hm4,hn3⟩;have icu5:=OwnedB.isC hO3;have cpu5:=OwnedB.capOk hO3;have icq3:=OwnedB.isC (Owned.toB hQ3);have cpq3:=OwnedB.capOk (Owned.toB hQ3);have hs16:=E7.size
   refine Kd ?_;refine ⟨(((((Ew2.trans E2).trans E3).trans E5).trans E6).trans E7),?_⟩
   refine Kp 5 rfl (by kernel_rfl) (by kernel_rfl) rfl (fun _ _=>Ka (v:=.tuple _) rfl) (((((Ew2.trans E2).trans E3).trans E5).trans E6).trans E7) ?_
   refine Kp 6 rfl (by kernel_rfl) (by kernel_rfl) rfl (fun _ _=>Kk (v:=.agg _) rfl rfl) (((((Ew2.trans E2).trans E3).trans E5).trans E6).trans E7) ?_
   refine Kp 7 rfl (by kernel_rfl) (by kernel_rfl) rfl (fun _ _=>Kk (v:=.bool _) rfl rfl) (((((Ew2.trans E2).trans E3).trans E5).trans E6).trans E7) ?_;refine Ku (rs:=[9]) (by kernel_rfl) rfl ?_
   refine Kh rfl ?_ ?_
   refine Jl rfl Tryz.sizeOf26 rfl rfl (by first | rfl | assumption) (by first | rfl | assumption) (hB4.ext ((E5.trans E6).trans E7)) (by omega) (((((Ew2.trans E2).trans E3).trans E5).trans E6).trans E7) ?_
   rintro w21 E8 hB4 K3 hz3;have E9:=((((E2.trans E3).trans E5).trans E6).trans E7).wroteAt (((((Ew2.trans E2).trans E3).trans E5).trans E6).trans E7) E8 K3 hz3 (by omega);have szE9:=E9.size
   have E10:=(((E3.trans E5).trans E6).trans E7).wroteAt (((((Ew2.trans E2).trans E3).trans E5).trans E6).trans E7) E8 K3 hz3 (by omega);have szE10:=E10.size;have hO2:=(hO2.ext (E6.trans E7)).wrote K3 (by omega)
   have hQ2:=(hQ2.toB.ext (E6.trans E7)).wrote K3 (by omega);have hO3:=hO3.wrote K3 (by omega);have hQ3:=hQ3.toB.wrote K3 (by omega);refine Kd ?_;refine ⟨E8,?_⟩
   refine Kp 10 rfl (by kernel_rfl) (by kernel_rfl) rfl (fun _ _=>Kb (v:=.bool _) rfl) E8 ?_;refine Jm (by kernel_rfl) ?_;rotate_left;exact Kl;exact Kl;exact Kl;exact Kl
   exact Kl;exact Kl;refine Kh rfl ?_ ?_;refine Wo (v:=.agg _) rfl (Jq Tryz.isAgg55 Tryz.sizeOf55 rfl (hB2.ext E2)) <| Kd ?_;refine ⟨(Ew2.trans E2),?_⟩
   refine Ku (rs:=[0,8]) (by kernel_rfl) rfl ?_;refine Kh rfl ?_ ?_;refine Wo (v:=.agg _) rfl (Jd Tryz.isAgg40 Tryz.sizeOf40 rfl (hB1.ext E2)) <| Kd ?_;refine ⟨(Ew2.trans E2),?_⟩
   refine Ku (rs:=[1,8]) (by kernel_rfl) rfl ?_;refine Kh rfl ?_ ?_;refine Kj rfl (Jk (a:=.agg _) Tryz.call27 rfl) (kT _ ((Mono.mono (Ew2.trans E2) h1)) ((Mono.mono (Ew2.trans E2) h2))) ?_
   rintro _ w17 ⟨u4,q2,m3,rfl,E3,hO2,hQ2,hm3,hn2⟩;have icu4:=OwnedB.isC hO2;have cpu4:=OwnedB.capOk hO2;have icq2:=OwnedB.isC (Owned.toB hQ2);have cpq2:=OwnedB.capOk (Owned.toB hQ2);have hs13:=E3.size
   refine Kd ?_;refine ⟨((Ew2.trans E2).trans E3),?_⟩;refine Ku (rs:=[3,8]) (by kernel_rfl) rfl ?_;refine Kh rfl ?_ ?_;refine Kj rfl (Jk (a:=.agg _) Tryz.call41 rfl) (toDeed_ok _ _ _ _) ?_
   rintro _ w18 ⟨rfl,E5⟩;have hs14:=E5.size;refine Kd ?_;refine ⟨(((Ew2.trans E2).trans E3).trans E5),?_⟩;refine Ku (rs:=[4,8]) (by kernel_rfl) rfl ?_;refine Kh rfl ?_ ?_
   refine Kj rfl (Jn (a:=.agg _) (b:=.agg _) Tryz.call36 rfl rfl) (kI _ _ _ ((Mono.mono (((Ew2.trans E2).trans E3).trans E5) hM)) ((Mono.mono E5 (OwnedB.read hO2))) ((Mono.mono E5 (Owned.read hQ2)))) ?_
   rintro _ w19 ⟨u5,q3,m4,rfl,E6,hO3,hQ3,hm4,hn3⟩;have icu5:=OwnedB.isC hO3;have cpu5:=OwnedB.capOk hO3;have icq3:=OwnedB.isC (Owned.toB hQ3);have cpq3:=OwnedB.capOk (Owned.toB hQ3);have hs15:=E6.size
   refine Kd ?_;refine ⟨((((Ew2.trans E2).trans E3).trans E5).trans E6),?_⟩;refine Kp 5 rfl (by kernel_rfl) (by kernel_rfl) rfl (fun _ _=>Ka (v:=.tuple _) rfl) ((((Ew2.trans E2).trans E3).trans E5).trans E6) ?_
   refine Kp 6 rfl (by kernel_rfl) (by kernel_rfl) rfl (fun _ _=>Kk (v:=.agg _) rfl rfl) ((((Ew2.trans E2).trans E3).trans E5).trans E6) ?_
   refine Kp 7 rfl (by kernel_rfl) (by kernel_rfl) rfl (fun _ _=>Kk (v:=.bool _) rfl rfl) ((((Ew2.trans E2).trans E3).trans E5).trans E6) ?_;refine Ku (rs:=[8]) (by kernel_rfl) rfl ?_
   refine Kh rfl ?_ ?_;refine Je rfl flat26 ?_;rintro b4 w20 hb4 E7 hB4;have hlb4:=hB4.lt;have hs16:=E7.size;refine Kd ?_;refine ⟨(((((Ew2.trans E2).trans E3).trans E5).trans E6).trans E7),?_⟩
   refine Ku (rs:=[9]) (by kernel_rfl) rfl ?_;refine Kh rfl ?_ ?_
   refine Jl rfl Tryz.sizeOf26 rfl rfl (by first | rfl | assumption) (by first | rfl | assumption) hB4 (by omega) (((((Ew2.trans E2).trans E3).trans E5).trans E6).trans E7) ?_;rintro w21 E8 hB4 K3 hz3
   have E9:=((((E2.trans E3).trans E5).trans E6).trans E7).wroteAt (((((Ew2.trans E2).trans E3).trans E5).trans E6).trans E7) E8 K3 hz3 (by omega);have szE9:=E9.size
   have E10:=(((E3.trans E5).trans E6).trans E7).wroteAt (((((Ew2.trans E2).trans E3).trans E5).trans E6).trans E7) E8 K3 hz3 (by omega);have szE10:=E10.size
   have E11:=((E5.trans E6).trans E7).wroteAt (((((Ew2.trans E2).trans E3).trans E5).trans E6).trans E7) E8 K3 hz3 (by omega);have szE11:=E11.size
   have E12:=(E6.trans E7).wroteAt (((((Ew2.trans E2).trans E3).trans E5).trans E6).trans E7) E8 K3 hz3 (by omega);have szE12:=E12.size
   have E13:=E7.wroteAt (((((Ew2.trans E2).trans E3).trans E5).trans E6).trans E7) E8 K3 hz3 (by omega);have szE13:=E13.size;have hO2:=(hO2.ext ((E5.trans E6).trans E7)).wrote K3 (by omega)
   have hQ2:=(hQ2.toB.ext ((E5.trans E6).trans E7)).wrote K3 (by omega);have hO3:=(hO3.ext E7).wrote K3 (by omega);have hQ3:=(hQ3.toB.ext E7).wrote K3 (by omega);refine Kd ?_;refine ⟨E8,?_⟩
   refine Kp 10 rfl (by kernel_rfl) (by kernel_rfl) rfl (fun _ _=>Kb (v:=.bool _) rfl) E8 ?_;refine Jm (by kernel_rfl) ?_;rotate_left;exact Kl;exact Kl;refine Kh rfl ?_ ?_
   refine Je rfl flat26 ?_;rintro b4 w19 hb4 E6 hB4;have hlb4:=hB4.lt;have hs15:=E6.size;refine Kd ?_;refine ⟨((((Ew2.trans E2).trans E3).trans E5).trans E6),?_⟩;refine Ku (rs:=[4]) (by kernel_rfl) rfl ?_
   refine Kh rfl ?_ ?_
   refine Kj rfl (Jn (a:=.agg _) (b:=.agg _) Tryz.call36 rfl rfl) (kI _ _ _ ((Mono.mono ((((Ew2.trans E2).trans E3).trans E5).trans E6) hM)) ((Mono.mono (E5.trans E6) (OwnedB.read hO2))) ((Mono.mono (E5.trans E6) (Owned.read hQ2)))) ?_
   rintro _ w20 ⟨u5,q3,m4,rfl,E7,hO3,hQ3,hm4,hn3⟩;have icu5:=OwnedB.isC hO3;have cpu5:=OwnedB.capOk hO3;have icq3:=OwnedB.isC (Owned.toB hQ3);have cpq3:=OwnedB.capOk (Owned.toB hQ3);have hs16:=E7.size
   refine Kd ?_;refine ⟨(((((Ew2.trans E2).trans E3).trans E5).trans E6).trans E7),?_⟩
   refine Kp 5 rfl (by kernel_rfl) (by kernel_rfl) rfl (fun _ _=>Ka (v:=.tuple _) rfl) (((((Ew2.trans E2).trans E3).trans E5).trans E6).trans E7) ?_
   refine Kp 6 rfl (by kernel_rfl) (by kernel_rfl) rfl (fun _ _=>Kk (v:=.agg _) rfl rfl) (((((Ew2.trans E2).trans E3).trans E5).trans E6).trans E7) ?_
   refine Kp 7 rfl (by kernel_rfl) (by kernel_rfl) rfl (fun _ _=>Kk (v:=.bool _) rfl rfl) (((((Ew2.trans E2).trans E3).trans E5).trans E6).trans E7) ?_;refine Ku (rs:=[9]) (by kernel_rfl) rfl ?_
   refine Kh rfl ?_ ?_;refine Jl rfl Tryz.sizeOf26 rfl rfl (by first | rfl | assumption) (by first | rfl | assumption) (hB4.ext E7) (by omega) (((((Ew2.trans E2).trans E3).trans E5).trans E6).trans E7) ?_
   rintro w21 E8 hB4 K3 hz3;have E9:=((((E2.trans E3).trans E5).trans E6).trans E7).wroteAt (((((Ew2.trans E2).trans E3).trans E5).trans E6).trans E7) E8 K3 hz3 (by omega);have szE9:=E9.size
   have E10:=(((E3.trans E5).trans E6).trans E7).wroteAt (((((Ew2.trans E2).trans E3).trans E5).trans E6).trans E7) E8 K3 hz3 (by omega);have szE10:=E10.size
   have E11:=((E5.trans E6).trans E7).wroteAt (((((Ew2.trans E2).trans E3).trans E5).trans E6).trans E7) E8 K3 hz3 (by omega);have szE11:=E11.size
   have E12:=(E6.trans E7).wroteAt (((((Ew2.trans E2).trans E3).trans E5).trans E6).trans E7) E8 K3 hz3 (by omega);have szE12:=E12.size;have hO2:=(hO2.ext ((E5.trans E6).trans E7)).wrote K3 (by omega)
   have hQ2:=(hQ2.toB.ext ((E5.trans E6).trans E7)).wrote K3 (by omega);have hO3:=hO3.wrote K3 (by omega);have hQ3:=hQ3.toB.wrote K3 (by omega);refine Kd ?_;refine ⟨E8,?_⟩
   refine Kp 10 rfl (by kernel_rfl) (by kernel_rfl) rfl (fun _ _=>Kb (v:=.bool _) rfl) E8 ?_;refine Jm (by kernel_rfl) ?_;rotate_left;exact Kl;exact Kl;exact Kl
   refine Kh rfl ?_ ?_;refine Je rfl flat26 ?_;rintro b4 w18 hb4 E5 hB4;have hlb4:=hB4.lt;have hs14:=E5.size;refine Kd ?_;refine ⟨(((Ew2.trans E2).trans E3).trans E5),?_⟩
   refine Ku (rs:=[3]) (by kernel_rfl) rfl ?_;refine Kh rfl ?_ ?_;refine Kj rfl (Jk (a:=.agg _) Tryz.call41 rfl) (toDeed_ok _ _ _ _) ?_;rintro _ w19 ⟨rfl,E6⟩;have hs15:=E6.size;refine Kd ?_
   refine ⟨((((Ew2.trans E2).trans E3).trans E5).trans E6),?_⟩;refine Ku (rs:=[4]) (by kernel_rfl) rfl ?_;refine Kh rfl ?_ ?_
   refine Kj rfl (Jn (a:=.agg _) (b:=.agg _) Tryz.call36 rfl rfl) (kI _ _ _ ((Mono.mono ((((Ew2.trans E2).trans E3).trans E5).trans E6) hM)) ((Mono.mono (E5.trans E6) (OwnedB.read hO2))) ((Mono.mono (E5.trans E6) (Owned.read hQ2)))) ?_
   rintro _ w20 ⟨u5,q3,m4,rfl,E7,hO3,hQ3,hm4,hn3⟩;have icu5:=OwnedB.isC hO3;have cpu5:=OwnedB.capOk hO3;have icq3:=OwnedB.isC (Owned.toB hQ3);have cpq3:=OwnedB.capOk (Owned.toB hQ3);have hs16:=E7.size
   refine Kd ?_;refine ⟨(((((Ew2.trans E2).trans E3).trans E5).trans E6).trans E7),?_⟩
   refine Kp 5 rfl (by kernel_rfl) (by kernel_rfl) rfl (fun _ _=>Ka (v:=.tuple _) rfl) (((((Ew2.trans E2).trans E3).trans E5).trans E6).trans E7) ?_
   refine Kp 6 rfl (by kernel_rfl) (by kernel_rfl) rfl (fun _ _=>Kk (v:=.agg _) rfl rfl) (((((Ew2.trans E2).trans E3).trans E5).trans E6).trans E7) ?_
   refine Kp 7 rfl (by kernel_rfl) (by kernel_rfl) rfl (fun _ _=>Kk (v:=.bool _) rfl rfl) (((((Ew2.trans E2).trans E3).trans E5).trans E6).trans E7) ?_;refine Ku (rs:=[9]) (by kernel_rfl) rfl ?_
   refine Kh rfl ?_ ?_;refine Jl rfl Tryz.sizeOf26 rfl rfl (by first | rfl | assumption) (by first | rfl | assumption) (hB4.ext (E6.trans E7)) (by omega) (((((Ew2.trans E2).trans E3).trans E5).trans E6).trans E7) ?_
   rintro w21 E8 hB4 K3 hz3;have E9:=((((E2.trans E3).trans E5).trans E6).trans E7).wroteAt (((((Ew2.trans E2).trans E3).trans E5).trans E6).trans E7) E8 K3 hz3 (by omega);have szE9:=E9.size
   have E10:=(((E3.trans E5).trans E6).trans E7).wroteAt (((((Ew2.trans E2).trans E3).trans E5).trans E6).trans E7) E8 K3 hz3 (by omega);have szE10:=E10.size
   have E11:=((E5.trans E6).trans E7).wroteAt (((((Ew2.trans E2).trans E3).trans E5).trans E6).trans E7) E8 K3 hz3 (by omega);have szE11:=E11.size;have hO2:=(hO2.ext ((E5.trans E6).trans E7)).wrote K3 (by omega)
   have hQ2:=(hQ2.toB.ext ((E5.trans E6).trans E7)).wrote K3 (by omega);have hO3:=hO3.wrote K3 (by omega);have hQ3:=hQ3.toB.wrote K3 (by omega);refine Kd ?_;refine ⟨E8,?_⟩
   refine Kp 10 rfl (by kernel_rfl) (by kernel_rfl) rfl (fun _ _=>Kb (v:=.bool _) rfl) E8 ?_;refine Jm (by kernel_rfl) ?_;rotate_left;exact Kl;exact Kl;exact Kl;exact Kl
   refine Kh rfl ?_ ?_;refine Je rfl flat26 ?_;rintro b4 w17 hb4 E3 hB4;have hlb4:=hB4.lt;have hs13:=E3.size;refine Kd ?_;refine ⟨((Ew2.trans E2).trans E3),?_⟩
   refine Ku (rs:=[1]) (by kernel_rfl) rfl ?_;refine Kh rfl ?_ ?_;refine Kj rfl (Jk (a:=.agg _) Tryz.call27 rfl) (kT _ ((Mono.mono ((Ew2.trans E2).trans E3) h1)) ((Mono.mono ((Ew2.trans E2).trans E3) h2))) ?_
   rintro _ w18 ⟨u4,q2,m3,rfl,E5,hO2,hQ2,hm3,hn2⟩;have icu4:=OwnedB.isC hO2;have cpu4:=OwnedB.capOk hO2;have icq2:=OwnedB.isC (Owned.toB hQ2);have cpq2:=OwnedB.capOk (Owned.toB hQ2);have hs14:=E5.size
   refine Kd ?_;refine ⟨(((Ew2.trans E2).trans E3).trans E5),?_⟩;refine Ku (rs:=[3]) (by kernel_rfl) rfl ?_;refine Kh rfl ?_ ?_;refine Kj rfl (Jk (a:=.agg _) Tryz.call41 rfl) (toDeed_ok _ _ _ _) ?_
   rintro _ w19 ⟨rfl,E6⟩;have hs15:=E6.size;refine Kd ?_;refine ⟨((((Ew2.trans E2).trans E3).trans E5).trans E6),?_⟩;refine Ku (rs:=[4]) (by kernel_rfl) rfl ?_;refine Kh rfl ?_ ?_
   refine Kj rfl (Jn (a:=.agg _) (b:=.agg _) Tryz.call36 rfl rfl) (kI _ _ _ ((Mono.mono ((((Ew2.trans E2).trans E3).trans E5).trans E6) hM)) ((Mono.mono E6 (OwnedB.read hO2))) ((Mono.mono E6 (Owned.read hQ2)))) ?_
   rintro _ w20 ⟨u5,q3,m4,rfl,E7,hO3,hQ3,hm4,hn3⟩;have icu5:=OwnedB.isC hO3;have cpu5:=OwnedB.capOk hO3;have icq3:=OwnedB.isC (Owned.toB hQ3);have cpq3:=OwnedB.capOk (Owned.toB hQ3);have hs16:=E7.size
   refine Kd ?_;refine ⟨(((((Ew2.trans E2).trans E3).trans E5).trans E6).trans E7),?_⟩
   refine Kp 5 rfl (by kernel_rfl) (by kernel_rfl) rfl (fun _ _=>Ka (v:=.tuple _) rfl) (((((Ew2.trans E2).trans E3).trans E5).trans E6).trans E7) ?_
   refine Kp 6 rfl (by kernel_rfl) (by kernel_rfl) rfl (fun _ _=>Kk (v:=.agg _) rfl rfl) (((((Ew2.trans E2).trans E3).trans E5).trans E6).trans E7) ?_
   refine Kp 7 rfl (by kernel_rfl) (by kernel_rfl) rfl (fun _ _=>Kk (v:=.bool _) rfl rfl) (((((Ew2.trans E2).trans E3).trans E5).trans E6).trans E7) ?_;refine Ku (rs:=[9]) (by kernel_rfl) rfl ?_
   refine Kh rfl ?_ ?_
   refine Jl rfl Tryz.sizeOf26 rfl rfl (by first | rfl | assumption) (by first | rfl | assumption) (hB4.ext ((E5.trans E6).trans E7)) (by omega) (((((Ew2.trans E2).trans E3).trans E5).trans E6).trans E7) ?_
   rintro w21 E8 hB4 K3 hz3;have E9:=((((E2.trans E3).trans E5).trans E6).trans E7).wroteAt (((((Ew2.trans E2).trans E3).trans E5).trans E6).trans E7) E8 K3 hz3 (by omega);have szE9:=E9.size
   have E10:=(((E3.trans E5).trans E6).trans E7).wroteAt (((((Ew2.trans E2).trans E3).trans E5).trans E6).trans E7) E8 K3 hz3 (by omega);have szE10:=E10.size;have hO2:=(hO2.ext (E6.trans E7)).wrote K3 (by omega)
   have hQ2:=(hQ2.toB.ext (E6.trans E7)).wrote K3 (by omega);have hO3:=hO3.wrote K3 (by omega);have hQ3:=hQ3.toB.wrote K3 (by omega);refine Kd ?_;refine ⟨E8,?_⟩
   refine Kp 10 rfl (by kernel_rfl) (by kernel_rfl) rfl (fun _ _=>Kb (v:=.bool _) rfl) E8 ?_;refine Jm (by kernel_rfl) ?_;rotate_left;exact Kl;exact Kl;exact Kl;exact Kl
   exact Kl;refine Kh rfl ?_ ?_;refine Je rfl flat26 ?_;rintro b4 w17 hb4 E3 hB4;have hlb4:=hB4.lt;have hs13:=E3.size;refine Kd ?_;refine ⟨((Ew2.trans E2).trans E3),?_⟩
   refine Ku (rs:=[0]) (by kernel_rfl) rfl ?_;refine Kh rfl ?_ ?_;refine Wo (v:=.agg _) rfl (Jd Tryz.isAgg40 Tryz.sizeOf40 rfl (hB1.ext (E2.trans E3))) <| Kd ?_
   refine ⟨((Ew2.trans E2).trans E3),?_⟩;refine Ku (rs:=[1]) (by kernel_rfl) rfl ?_;refine Kh rfl ?_ ?_
   refine Kj rfl (Jk (a:=.agg _) Tryz.call27 rfl) (kT _ ((Mono.mono ((Ew2.trans E2).trans E3) h1)) ((Mono.mono ((Ew2.trans E2).trans E3) h2))) ?_;rintro _ w18 ⟨u4,q2,m3,rfl,E5,hO2,hQ2,hm3,hn2⟩
   have icu4:=OwnedB.isC hO2;have cpu4:=OwnedB.capOk hO2;have icq2:=OwnedB.isC (Owned.toB hQ2);have cpq2:=OwnedB.capOk (Owned.toB hQ2);have hs14:=E5.size;refine Kd ?_
   refine ⟨(((Ew2.trans E2).trans E3).trans E5),?_⟩;refine Ku (rs:=[3]) (by kernel_rfl) rfl ?_;refine Kh rfl ?_ ?_;refine Kj rfl (Jk (a:=.agg _) Tryz.call41 rfl) (toDeed_ok _ _ _ _) ?_;rintro _ w19 ⟨rfl,E6⟩
   have hs15:=E6.size;refine Kd ?_;refine ⟨((((Ew2.trans E2).trans E3).trans E5).trans E6),?_⟩;refine Ku (rs:=[4]) (by kernel_rfl) rfl ?_;refine Kh rfl ?_ ?_
   refine Kj rfl (Jn (a:=.agg _) (b:=.agg _) Tryz.call36 rfl rfl) (kI _ _ _ ((Mono.mono ((((Ew2.trans E2).trans E3).trans E5).trans E6) hM)) ((Mono.mono E6 (OwnedB.read hO2))) ((Mono.mono E6 (Owned.read hQ2)))) ?_
   rintro _ w20 ⟨u5,q3,m4,rfl,E7,hO3,hQ3,hm4,hn3⟩;have icu5:=OwnedB.isC hO3;have cpu5:=OwnedB.capOk hO3;have icq3:=OwnedB.isC (Owned.toB hQ3);have cpq3:=OwnedB.capOk (Owned.toB hQ3);have hs16:=E7.size
   refine Kd ?_;refine ⟨(((((Ew2.trans E2).trans E3).trans E5).trans E6).trans E7),?_⟩
   refine Kp 5 rfl (by kernel_rfl) (by kernel_rfl) rfl (fun _ _=>Ka (v:=.tuple _) rfl) (((((Ew2.trans E2).trans E3).trans E5).trans E6).trans E7) ?_
   refine Kp 6 rfl (by kernel_rfl) (by kernel_rfl) rfl (fun _ _=>Kk (v:=.agg _) rfl rfl) (((((Ew2.trans E2).trans E3).trans E5).trans E6).trans E7) ?_
   refine Kp 7 rfl (by kernel_rfl) (by kernel_rfl) rfl (fun _ _=>Kk (v:=.bool _) rfl rfl) (((((Ew2.trans E2).trans E3).trans E5).trans E6).trans E7) ?_;refine Ku (rs:=[9]) (by kernel_rfl) rfl ?_
   refine Kh rfl ?_ ?_
   refine Jl rfl Tryz.sizeOf26 rfl rfl (by first | rfl | assumption) (by first | rfl | assumption) (hB4.ext ((E5.trans E6).trans E7)) (by omega) (((((Ew2.trans E2).trans E3).trans E5).trans E6).trans E7) ?_
   rintro w21 E8 hB4 K3 hz3;have E9:=((((E2.trans E3).trans E5).trans E6).trans E7).wroteAt (((((Ew2.trans E2).trans E3).trans E5).trans E6).trans E7) E8 K3 hz3 (by omega);have szE9:=E9.size
   have E10:=(((E3.trans E5).trans E6).trans E7).wroteAt (((((Ew2.trans E2).trans E3).trans E5).trans E6).trans E7) E8 K3 hz3 (by omega);have szE10:=E10.size;have hO2:=(hO2.ext (E6.trans E7)).wrote K3 (by omega)
   have hQ2:=(hQ2.toB.ext (E6.trans E7)).wrote K3 (by omega);have hO3:=hO3.wrote K3 (by omega);have hQ3:=hQ3.toB.wrote K3 (by omega);refine Kd ?_;refine ⟨E8,?_⟩
   refine Kp 10 rfl (by kernel_rfl) (by kernel_rfl) rfl (fun _ _=>Kb (v:=.bool _) rfl) E8 ?_;refine Jm (by kernel_rfl) ?_;rotate_left;exact Kl;exact Kl;exact Kl;exact Kl
   exact Kl;exact Kl;refine Kh rfl ?_ ?_;refine Je rfl flat26 ?_;rintro b4 w17 hb4 E3 hB4;have hlb4:=hB4.lt;have hs13:=E3.size;refine Kd ?_;refine ⟨((Ew2.trans E2).trans E3),?_⟩
   refine Ku (rs:=[0,2]) (by kernel_rfl) rfl ?_;refine Kh rfl ?_ ?_;refine Wo (v:=.agg _) rfl (Jd Tryz.isAgg40 Tryz.sizeOf40 rfl (hB1.ext (E2.trans E3))) <| Kd ?_
   refine ⟨((Ew2.trans E2).trans E3),?_⟩;refine Ku (rs:=[1,2]) (by kernel_rfl) rfl ?_;refine Kh rfl ?_ ?_
   refine Kj rfl (Jk (a:=.agg _) Tryz.call27 rfl) (kT _ ((Mono.mono ((Ew2.trans E2).trans E3) h1)) ((Mono.mono ((Ew2.trans E2).trans E3) h2))) ?_;rintro _ w18 ⟨u4,q2,m3,rfl,E5,hO2,hQ2,hm3,hn2⟩
   have icu4:=OwnedB.isC hO2;have cpu4:=OwnedB.capOk hO2;have icq2:=OwnedB.isC (Owned.toB hQ2);have cpq2:=OwnedB.capOk (Owned.toB hQ2);have hs14:=E5.size;refine Kd ?_
   refine ⟨(((Ew2.trans E2).trans E3).trans E5),?_⟩;refine Ku (rs:=[2]) (by kernel_rfl) rfl ?_;refine Kh rfl ?_ ?_
   refine Wo (v:=.agg _) rfl (Jq Tryz.isAgg55 Tryz.sizeOf55 rfl (hB2.ext ((E2.trans E3).trans E5))) <| Kd ?_;refine ⟨(((Ew2.trans E2).trans E3).trans E5),?_⟩;refine Ku (rs:=[3]) (by kernel_rfl) rfl ?_
   refine Kh rfl ?_ ?_;refine Kj rfl (Jk (a:=.agg _) Tryz.call41 rfl) (toDeed_ok _ _ _ _) ?_;rintro _ w19 ⟨rfl,E6⟩;have hs15:=E6.size;refine Kd ?_
   refine ⟨((((Ew2.trans E2).trans E3).trans E5).trans E6),?_⟩;refine Ku (rs:=[4]) (by kernel_rfl) rfl ?_;refine Kh rfl ?_ ?_
   refine Kj rfl (Jn (a:=.agg _) (b:=.agg _) Tryz.call36 rfl rfl) (kI _ _ _ ((Mono.mono ((((Ew2.trans E2).trans E3).trans E5).trans E6) hM)) ((Mono.mono E6 (OwnedB.read hO2))) ((Mono.mono E6 (Owned.read hQ2)))) ?_
   rintro _ w20 ⟨u5,q3,m4,rfl,E7,hO3,hQ3,hm4,hn3⟩;have icu5:=OwnedB.isC hO3;have cpu5:=OwnedB.capOk hO3;have icq3:=OwnedB.isC (Owned.toB hQ3);have cpq3:=OwnedB.capOk (Owned.toB hQ3);have hs16:=E7.size
   refine Kd ?_;refine ⟨(((((Ew2.trans E2).trans E3).trans E5).trans E6).trans E7),?_⟩
   refine Kp 5 rfl (by kernel_rfl) (by kernel_rfl) rfl (fun _ _=>Ka (v:=.tuple _) rfl) (((((Ew2.trans E2).trans E3).trans E5).trans E6).trans E7) ?_
   refine Kp 6 rfl (by kernel_rfl) (by kernel_rfl) rfl (fun _ _=>Kk (v:=.agg _) rfl rfl) (((((Ew2.trans E2).trans E3).trans E5).trans E6).trans E7) ?_
   refine Kp 7 rfl (by kernel_rfl) (by kernel_rfl) rfl (fun _ _=>Kk (v:=.bool _) rfl rfl) (((((Ew2.trans E2).trans E3).trans E5).trans E6).trans E7) ?_;refine Ku (rs:=[9]) (by kernel_rfl) rfl ?_
   refine Kh rfl ?_ ?_
   refine Jl rfl Tryz.sizeOf26 rfl rfl (by first | rfl | assumption) (by first | rfl | assumption) (hB4.ext ((E5.trans E6).trans E7)) (by omega) (((((Ew2.trans E2).trans E3).trans E5).trans E6).trans E7) ?_
   rintro w21 E8 hB4 K3 hz3;have E9:=((((E2.trans E3).trans E5).trans E6).trans E7).wroteAt (((((Ew2.trans E2).trans E3).trans E5).trans E6).trans E7) E8 K3 hz3 (by omega);have szE9:=E9.size
   have E10:=(((E3.trans E5).trans E6).trans E7).wroteAt (((((Ew2.trans E2).trans E3).trans E5).trans E6).trans E7) E8 K3 hz3 (by omega);have szE10:=E10.size;have hO2:=(hO2.ext (E6.trans E7)).wrote K3 (by omega)
   have hQ2:=(hQ2.toB.ext (E6.trans E7)).wrote K3 (by omega);have hO3:=hO3.wrote K3 (by omega);have hQ3:=hQ3.toB.wrote K3 (by omega);refine Kd ?_;refine ⟨E8,?_⟩
   refine Kp 10 rfl (by kernel_rfl) (by kernel_rfl) rfl (fun _ _=>Kb (v:=.bool _) rfl) E8 ?_;refine Jm (by kernel_rfl) ?_;rotate_left;exact Kl;exact Kl;exact Kl;exact Kl
   refine Kh rfl ?_ ?_;refine Wo (v:=.agg _) rfl (Jq Tryz.isAgg55 Tryz.sizeOf55 rfl (hB2.ext (E2.trans E3))) <| Kd ?_;refine ⟨((Ew2.trans E2).trans E3),?_⟩
   refine Ku (rs:=[1]) (by kernel_rfl) rfl ?_;refine Kh rfl ?_ ?_;refine Kj rfl (Jk (a:=.agg _) Tryz.call27 rfl) (kT _ ((Mono.mono ((Ew2.trans E2).trans E3) h1)) ((Mono.mono ((Ew2.trans E2).trans E3) h2))) ?_
   rintro _ w18 ⟨u4,q2,m3,rfl,E5,hO2,hQ2,hm3,hn2⟩;have icu4:=OwnedB.isC hO2;have cpu4:=OwnedB.capOk hO2;have icq2:=OwnedB.isC (Owned.toB hQ2);have cpq2:=OwnedB.capOk (Owned.toB hQ2);have hs14:=E5.size
   refine Kd ?_;refine ⟨(((Ew2.trans E2).trans E3).trans E5),?_⟩;refine Ku (rs:=[3]) (by kernel_rfl) rfl ?_;refine Kh rfl ?_ ?_;refine Kj rfl (Jk (a:=.agg _) Tryz.call41 rfl) (toDeed_ok _ _ _ _) ?_
   rintro _ w19 ⟨rfl,E6⟩;have hs15:=E6.size;refine Kd ?_;refine ⟨((((Ew2.trans E2).trans E3).trans E5).trans E6),?_⟩;refine Ku (rs:=[4]) (by kernel_rfl) rfl ?_;refine Kh rfl ?_ ?_
   refine Kj rfl (Jn (a:=.agg _) (b:=.agg _) Tryz.call36 rfl rfl) (kI _ _ _ ((Mono.mono ((((Ew2.trans E2).trans E3).trans E5).trans E6) hM)) ((Mono.mono E6 (OwnedB.read hO2))) ((Mono.mono E6 (Owned.read hQ2)))) ?_
   rintro _ w20 ⟨u5,q3,m4,rfl,E7,hO3,hQ3,hm4,hn3⟩;have icu5:=OwnedB.isC hO3;have cpu5:=OwnedB.capOk hO3;have icq3:=OwnedB.isC (Owned.toB hQ3);have cpq3:=OwnedB.capOk (Owned.toB hQ3);have hs16:=E7.size
   refine Kd ?_;refine ⟨(((((Ew2.trans E2).trans E3).trans E5).trans E6).trans E7),?_⟩
   refine Kp 5 rfl (by kernel_rfl) (by kernel_rfl) rfl (fun _ _=>Ka (v:=.tuple _) rfl) (((((Ew2.trans E2).trans E3).trans E5).trans E6).trans E7) ?_
   refine Kp 6 rfl (by kernel_rfl) (by kernel_rfl) rfl (fun _ _=>Kk (v:=.agg _) rfl rfl) (((((Ew2.trans E2).trans E3).trans E5).trans E6).trans E7) ?_
   refine Kp 7 rfl (by kernel_rfl) (by kernel_rfl) rfl (fun _ _=>Kk (v:=.bool _) rfl rfl) (((((Ew2.trans E2).trans E3).trans E5).trans E6).trans E7) ?_;refine Ku (rs:=[9]) (by kernel_rfl) rfl ?_
   refine Kh rfl ?_ ?_
   refine Jl rfl Tryz.sizeOf26 rfl rfl (by first | rfl | assumption) (by first | rfl | assumption) (hB4.ext ((E5.trans E6).trans E7)) (by omega) (((((Ew2.trans E2).trans E3).trans E5).trans E6).trans E7) ?_
   rintro w21 E8 hB4 K3 hz3;have E9:=((((E2.trans E3).trans E5).trans E6).trans E7).wroteAt (((((Ew2.trans E2).trans E3).trans E5).trans E6).trans E7) E8 K3 hz3 (by omega);have szE9:=E9.size
   have E10:=(((E3.trans E5).trans E6).trans E7).wroteAt (((((Ew2.trans E2).trans E3).trans E5).trans E6).trans E7) E8 K3 hz3 (by omega);have szE10:=E10.size;have hO2:=(hO2.ext (E6.trans E7)).wrote K3 (by omega)
   have hQ2:=(hQ2.toB.ext (E6.trans E7)).wrote K3 (by omega);have hO3:=hO3.wrote K3 (by omega);have hQ3:=hQ3.toB.wrote K3 (by omega);refine Kd ?_;refine ⟨E8,?_⟩
   refine Kp 10 rfl (by kernel_rfl) (by kernel_rfl) rfl (fun _ _=>Kb (v:=.bool _) rfl) E8 ?_;refine Jm (by kernel_rfl) ?_;rotate_left;exact Kl;exact Kl;exact Kl;exact Kl
   exact Kl;refine Kh rfl ?_ ?_;refine Wo (v:=.agg _) rfl (Jq Tryz.isAgg55 Tryz.sizeOf55 rfl (hB2.ext (E2.trans E3))) <| Kd ?_;refine ⟨((Ew2.trans E2).trans E3),?_⟩
   refine Ku (rs:=[0]) (by kernel_rfl) rfl ?_;refine Kh rfl ?_ ?_;refine Wo (v:=.agg _) rfl (Jd Tryz.isAgg40 Tryz.sizeOf40 rfl (hB1.ext (E2.trans E3))) <| Kd ?_
   refine ⟨((Ew2.trans E2).trans E3),?_⟩;refine Ku (rs:=[1]) (by kernel_rfl) rfl ?_;refine Kh rfl ?_ ?_
   refine Kj rfl (Jk (a:=.agg _) Tryz.call27 rfl) (kT _ ((Mono.mono ((Ew2.trans E2).trans E3) h1)) ((Mono.mono ((Ew2.trans E2).trans E3) h2))) ?_;rintro _ w18 ⟨u4,q2,m3,rfl,E5,hO2,hQ2,hm3,hn2⟩
   have icu4:=OwnedB.isC hO2;have cpu4:=OwnedB.capOk hO2;have icq2:=OwnedB.isC (Owned.toB hQ2);have cpq2:=OwnedB.capOk (Owned.toB hQ2);have hs14:=E5.size;refine Kd ?_
   refine ⟨(((Ew2.trans E2).trans E3).trans E5),?_⟩;refine Ku (rs:=[3]) (by kernel_rfl) rfl ?_;refine Kh rfl ?_ ?_;refine Kj rfl (Jk (a:=.agg _) Tryz.call41 rfl) (toDeed_ok _ _ _ _) ?_;rintro _ w19 ⟨rfl,E6⟩
   have hs15:=E6.size;refine Kd ?_;refine ⟨((((Ew2.trans E2).trans E3).trans E5).trans E6),?_⟩;refine Ku (rs:=[4]) (by kernel_rfl) rfl ?_;refine Kh rfl ?_ ?_
   refine Kj rfl (Jn (a:=.agg _) (b:=.agg _) Tryz.call36 rfl rfl) (kI _ _ _ ((Mono.mono ((((Ew2.trans E2).trans E3).trans E5).trans E6) hM)) ((Mono.mono E6 (OwnedB.read hO2))) ((Mono.mono E6 (Owned.read hQ2)))) ?_
   rintro _ w20 ⟨u5,q3,m4,rfl,E7,hO3,hQ3,hm4,hn3⟩;have icu5:=OwnedB.isC hO3;have cpu5:=OwnedB.capOk hO3;have icq3:=OwnedB.isC (Owned.toB hQ3);have cpq3:=OwnedB.capOk (Owned.toB hQ3);have hs16:=E7.size
   refine Kd ?_;refine ⟨(((((Ew2.trans E2).trans E3).trans E5).trans E6).trans E7),?_⟩
   refine Kp 5 rfl (by kernel_rfl) (by kernel_rfl) rfl (fun _ _=>Ka (v:=.tuple _) rfl) (((((Ew2.trans E2).trans E3).trans E5).trans E6).trans E7) ?_
   refine Kp 6 rfl (by kernel_rfl) (by kernel_rfl) rfl (fun _ _=>Kk (v:=.agg _) rfl rfl) (((((Ew2.trans E2).trans E3).trans E5).trans E6).trans E7) ?_
   refine Kp 7 rfl (by kernel_rfl) (by kernel_rfl) rfl (fun _ _=>Kk (v:=.bool _) rfl rfl) (((((Ew2.trans E2).trans E3).trans E5).trans E6).trans E7) ?_;refine Ku (rs:=[9]) (by kernel_rfl) rfl ?_
   refine Kh rfl ?_ ?_
   refine Jl rfl Tryz.sizeOf26 rfl rfl (by first | rfl | assumption) (by first | rfl | assumption) (hB4.ext ((E5.trans E6).trans E7)) (by omega) (((((Ew2.trans E2).trans E3).trans E5).trans E6).trans E7) ?_
   rintro w21 E8 hB4 K3 hz3;have E9:=((((E2.trans E3).trans E5).trans E6).trans E7).wroteAt (((((Ew2.trans E2).trans E3).trans E5).trans E6).trans E7) E8 K3 hz3 (by omega);have szE9:=E9.size
   have E10:=(((E3.trans E5).trans E6).trans E7).wroteAt (((((Ew2.trans E2).trans E3).trans E5).trans E6).trans E7) E8 K3 hz3 (by omega);have szE10:=E10.size;have hO2:=(hO2.ext (E6.trans E7)).wrote K3 (by omega)
   have hQ2:=(hQ2.toB.ext (E6.trans E7)).wrote K3 (by omega);have hO3:=hO3.wrote K3 (by omega);have hQ3:=hQ3.toB.wrote K3 (by omega);refine Kd ?_;refine ⟨E8,?_⟩
   refine Kp 10 rfl (by kernel_rfl) (by kernel_rfl) rfl (fun _ _=>Kb (v:=.bool _) rfl) E8 ?_;refine Jm (by kernel_rfl) ?_;rotate_left;exact Kl;exact Kl;exact Kl;exact Kl
   exact Kl;exact Kl;exact Kl
  all_goals exact ⟨(b4,u5,q3),⟨rfl,rfl,trivial⟩,by repeat (first | with_reducible exact Same.refl | refine Same.upd rfl ?_ | refine Same.upds rfl ?_ | refine Same.mix rfl ?_),by assumption,hB4,hO3.read,hQ3.read,icu5,icq3⟩
 rintro ⟨b7,z1,z2⟩ ρ11 w16 ⟨E40,hB7,hZ1,hZ2,icz1,icz2⟩
 focus
  have szE40:=E40.size;have szEw2:=Ew2.size;refine Ke <| Ke <| Kc rfl <| Wo (v:=.agg _) rfl (Jd Tryz.isAgg26 Tryz.sizeOf26 rfl hB7) ?_
  refine Wo (v:=.agg _) rfl (Jd Tryz.isAgg26 Tryz.sizeOf26 rfl (hB9.ext E40)) ?_
  refine Kj rfl (Jn (a:=.agg _) (b:=.agg _) Tryz.call29 rfl rfl) (kE _ _ _ _ _ (hZ1) (hZ2) ((Mono.mono E40 (OwnedB.read hX1))) ((Mono.mono E40 (OwnedB.read hX2)))) ?_;rintro _ w17 ⟨rfl,E2⟩;have hs12:=E2.size
  refine Wo rfl (Jf rfl) <| Jy rfl (Ka (v:=.bool _) rfl) (fun h20=>?_) (fun h20=>?_);contradiction;refine Wo rfl (Ka (v:=.bool _) rfl) <| Wo rfl (Ka (v:=.bool _) rfl) ?_
  refine Wo rfl (opv_neq_bool Tryz.underlying4 rfl rfl) <| Wo rfl (Kn (v:=.bool _) rfl rfl) <| Kd <| Jj rfl (fun h21=>?_) (fun h21=>?_);contradiction;refine Kt ?_
  refine Ke <| Kc rfl <| Wo rfl (Kb (v:=.int _ _) rfl) <| Kd <| Ke <| Kc rfl ?_
  refine Wo (v:=.agg _) rfl (Jd Tryz.isAgg26 Tryz.sizeOf26 rfl (hB8.ext (E40.trans E2))) <| Wo rfl (Ka (v:=.int _ _) rfl) ?_
  refine Kj rfl (Jn (a:=.agg _) (b:=.int _ _) Tryz.call33 rfl rfl) (kH _ _ _ ((Mono.mono (E40.trans E2) (OwnedB.read hOx))) ((Mono.mono (E40.trans E2) (OwnedB.read hQx)))) ?_;rintro _ w18 ⟨rfl,E3⟩;have hs13:=E3.size
  refine Wo rfl (Kb (v:=.int _ _) rfl) <| Kd <| Ke <| Ke <| Kc rfl <| Wo rfl (Ka (v:=.int _ _) rfl) <| Wo rfl (Ks rfl rfl) <| Kd ?_
  refine Kg rfl (fun h22=>?_) (fun h22=>?_);contradiction;refine Kt ?_;refine Ke <| Ke <| Kc rfl <| Wo rfl (Ka (v:=.int _ _) rfl) ?_
  refine Wo rfl (Ka (v:=.int _ _) rfl) <| Wo rfl (Gb rfl rfl) <| Kd <| Jj rfl (fun h23=>?_) (fun h23=>?_);contradiction;refine Kt ?_;refine Ke <| Kc rfl ?_
  refine Wo rfl (Kb (v:=.bool _) rfl) <| Kd <| Ja ?_;exact ⟨rfl,(((Ew2.trans E40).trans E2).trans E3)⟩
end Go.Proofs.YtbgpppaljpngmaaGreatDoor
