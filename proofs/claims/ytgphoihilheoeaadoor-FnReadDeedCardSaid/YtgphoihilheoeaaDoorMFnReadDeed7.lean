/- Lemmas for FnReadDeed. -/
import Derived.Test.YtgphoihilheoeaaDoorMFnReadDeed6
namespace Go.Proofs.YtgphoihilheoeaaDoor
open Go.Hs
set_option maxRecDepth 10000
set_option maxHeartbeats 4000000
set_option linter.unusedVariables false
set_option linter.unusedSimpArgs false
/-- a desk under the draws' hand -/
def DI (d:Dsk):Prop:=d=⟨[],[]⟩∨DkOk d
theorem DI.now {d:Dsk} (h:DI d):NowP d.now:=by
 rcases h with rfl | h
 ·exact .inl rfl
 ·exact .inr h.1.1.gr
open Classical in
theorem DI.do {d:Dsk} (h:DI d) (a:Deed):DI ⟨if DkOk d then (doV d a).1.now else [],if DkOk d then (doV d a).1.past else []⟩:=by
 by_cases hd:DkOk d
 ·rw [if_pos hd,if_pos hd];exact .inr (doV_ok hd)
 ·rw [if_neg hd,if_neg hd];exact .inl rfl
theorem odd0_ok (w:World) (u:Value):Does Tryd.prog 57 [u,.int .i64 0] w (Ret w (.bool false)):=by
 refine fn_of_W1 Tryd.func57 rfl Tryd.results57 Tryd.ntmps57 rfl ?_
 focus
  refine W_seq ?_;refine W_region rfl ?_;refine Wo rfl (opv_assign (v:=.bool _) rfl) ?_;refine Wo_nil ?_;refine W_seq ?_;refine W_region rfl ?_;refine Wo rfl (opv_move (v:=.int _ _) rfl) ?_
  refine Wo rfl (opv_gtr rfl rfl) ?_;refine Wo_split_dec rfl (opv_move (v:=.bool _) rfl) (fun h1=>?_) (fun h1=>?_);contradiction;refine Wo_skip rfl ?_;refine Wo_skip rfl ?_;refine Wo_skip rfl ?_;refine Wo_skip rfl ?_
  refine Wo_skip rfl ?_;refine Wo_skip rfl ?_;refine Wo rfl (opv_pick_f (v:=.bool _) rfl rfl) ?_;refine Wo rfl (opv_assign (v:=.bool _) rfl) ?_;refine Wo_nil ?_;refine W_ret ?_;exact ⟨rfl,(Ext.refl _)⟩
open Classical in
theorem Desk0_ok {w0:World} (w:World) {br m:Nat} (hr:Rdr w0 w br m) (hm:m≤1000000) :
  Does Tryd.prog 52 [.pointer (some ⟨br,0,none⟩),.int .i64 0] w (RetDK w0 w br (m+130) DI):=by
 refine fn_of_Wc Tryd.func52 rfl Tryd.results52 Tryd.ntmps52 rfl Tryd.isAgg53 Tryd.sizeOf53 ?_
 have hG:w.grownBy w (some br):=grownBy_refl _ _
 have hlr:=hr.lt
 have hgr:=hr.ge
 have E0:=hr.old
 have k1:=fun (w:World) (v:Value) (p:List (List Int)) (h:ESl Ints w v p) (z:Int)=>spec_DeskNew_ok w v p h z
 have litown:True:=trivial
 have stop3:True:=trivial
 focus
  have szE0:=E0.size;refine W_seq ?_;refine W_region rfl ?_;refine Wo_alloc2 rfl flat53 ?_;rintro b1 w1 hb1 E1 hB1;have hlb1:=hB1.lt;have hr:=hr.ext E1;have hG:=grownBy_ext hG E1;have hs1:=E1.size;refine Wo_nil ?_
  refine W_seq ?_;refine W_region rfl ?_;refine Wo rfl (opv_move (v:=.pointer _) rfl) ?_;refine Wo_call rfl (opc2 (a:=.pointer _) (b:=.int _ _) Tryd.call77 rfl rfl) (Twin_ok _ _ (by assumption) (by omega) (by omega)) ?_
  rintro u1 w2 ⟨E2,hr1,x1,hO1,hy1⟩;(try dsimp only at hy1);have hlhr1:=hr1.lt;have Ehr1:=hr1.old;have hB1:=hB1.grown E2 (by simp only [ne_eq,Option.some.injEq];omega);have hG:=grownBy_trans hG E2
  have hs2:=E2.size;refine Wo rfl (opv_assign (v:=u1) rfl) ?_;refine Wo_nil ?_;refine W_seq ?_;refine W_region rfl ?_;refine Wo rfl (opv_move (v:=u1) rfl) ?_;refine Wo rfl (opv_move (v:=.pointer _) rfl) ?_
  refine Wo rfl (opv_move (v:=u1) rfl) ?_;refine Wo rfl (opv_len Tryd.underlying49 rfl (Owned.read hO1)) ?_
  refine Wo_call rfl (opc2 (a:=.pointer _) (b:=.int _ _) Tryd.call54 rfl rfl) (pick_ok _ _ (by assumption) (by omega)) ?_;rintro _ w3 ⟨y1,rfl,E3,hr2,hy2⟩;(try dsimp only at hy2);have hlhr2:=hr2.lt;have Ehr2:=hr2.old
  have hO1:=hO1.toB.grown E3 (by omega);have hB1:=hB1.grown E3 (by simp only [ne_eq,Option.some.injEq];omega);have hG:=grownBy_trans hG E3;have hs3:=E3.size
  refine Wo_call rfl (opc2 (a:=u1) (b:=.int _ _) Tryd.call33 rfl rfl) (k1 _ _ _ ((OwnedB.read hO1)) _) ?_;rintro _ w4 ⟨u2,q1,m1,rfl,E4,hO2,hQ1,hm1,hn1⟩;have icu2:=OwnedB.isC hO2;have cpu2:=OwnedB.capOk hO2
  have icq1:=OwnedB.isC (Owned.toB hQ1);have cpq1:=OwnedB.capOk (Owned.toB hQ1);have hr2:=hr2.ext E4;have hG:=grownBy_ext hG E4;have hs4:=E4.size;refine Wo rfl (opv_move (v:=.tuple _) rfl) ?_
  refine Wo rfl (opv_extract (v:=.agg _) rfl rfl) ?_;refine Wo rfl (opv_extract (v:=.bool _) rfl rfl) ?_;refine Wo_alloc2 rfl flat53 ?_;rintro b2 w5 hb2 E5 hB2;have hlb2:=hB2.lt;have hr2:=hr2.ext E5
  have hG:=grownBy_ext hG E5;have hs5:=E5.size;refine Wo_st2 rfl Tryd.sizeOf53 rfl rfl (by first | rfl | assumption) (by first | rfl | assumption) hB2 (by omega) ((Ehr2.trans E4).trans E5) ?_;rintro w6 E6 hB2 K1 hz1
  have E7:=(E4.trans E5).wroteAt ((Ehr2.trans E4).trans E5) E6 K1 hz1 (by omega);have szE7:=E7.size;have E8:=E5.wroteAt ((Ehr2.trans E4).trans E5) E6 K1 hz1 (by omega);have szE8:=E8.size
  have hO1:=(hO1.ext (E4.trans E5)).wrote K1 (by omega);have hB1:=(hB1.ext (E4.trans E5)).of_heap (K1 _ (by omega));have hO2:=(hO2.ext E5).wrote K1 (by omega);have hQ1:=(hQ1.toB.ext E5).wrote K1 (by omega)
  have hr2:=hr2.wrote E6 (K1 _ (by omega)) hz1;have hG:=grownBy_wrote hG ((Ehr2.trans E4).trans E5) E6 K1 hz1 (by first | exact .inr rfl | omega);refine Wo rfl (opv_assign (v:=.bool _) rfl) ?_;refine Wo_nil ?_
  refine W_seq ?_;refine W_seq ?_
 clear stop3
 have i1:=icu2
 have i2:=icq1
 have hA:=(hO2.rd.wide (Nat.le_refl _) (show m1≤w4.heap.size by omega))
 have hC:=(hQ1.rd.wide (show w3.heap.size≤m1 by omega) (Nat.le_refl _))
 have hd:DI ⟨if Nod x1 (y1:Int) then lst x1 (y1:Int).toNat else [],[]⟩:=by
  by_cases hz:Nod x1 (y1:Int)
  ·rw [if_pos hz]
   have hl:(y1:Int).toNat < x1.length:=by have:=hz.2;omega
   exact .inr ⟨LeastP.lst hz.1.gr hl (Nat.le_trans (lst_le hz.1.gr hl) hz.1.2.1),by simp,fun p hp=>by cases hp⟩
  ·rw [if_neg hz];exact .inl rfl
 generalize (if Nod x1 (y1:Int) then lst x1 (y1:Int).toNat else [])=now at *
 generalize hpast:([]:List (List (List Int)))=past at hC hd
 clear hO1 hO2 hQ1
 focus
  have szE8:=E8.size;have szE7:=E7.size;have szE6:=E6.size;have szE5:=E5.size;have szE4:=E4.size;have szEhr2:=Ehr2.size;have szEhr1:=Ehr1.size;have szE1:=E1.size;have szE0:=E0.size;refine W_region rfl ?_
  refine Wo rfl (opv_move (v:=.pointer _) rfl) ?_;refine Wo_call rfl (opc2 (a:=.pointer _) (b:=.int _ _) Tryd.call54 rfl rfl) (pick_ok _ _ (by assumption) (by omega)) ?_;rintro _ w7 ⟨y2,rfl,E9,hr3,hy3⟩
  (try dsimp only at hy3);have hlhr3:=hr3.lt;have Ehr3:=hr3.old;have hO1:=(hO1.ext E7).grown E9 (by omega);have hQ1:=(hQ1.toB.ext E8).grown E9 (by omega)
  have hB2:=hB2.grown E9 (by simp only [ne_eq,Option.some.injEq];omega);have hB1:=hB1.grown E9 (by simp only [ne_eq,Option.some.injEq];omega);have hG:=grownBy_trans hG E9;have hO2:=(hO2.ext E8).grown E9 (by omega)
  have hA:=hA.grown E9 (by omega);have hC:=hC.grown E9 (by omega);have hs6:=E9.size;refine Wo rfl (opv_assign (v:=.int _ _) rfl) ?_;refine Wo_nil ?_;refine W_block ?_
 have hy2':=hy3 (by omega)
 refine W_loop [8,9,10,24,25,26,27,28,29,30,31,32,33,34,35,36,37] (fun ((k,v1,v2,d,lo,hi):Nat × Value × Value × Dsk × Nat × Nat)=>[(8,.int .i64 (k:Nat))]) (fun (k,v1,v2,d,lo,hi) w'=>w.grownBy w' (some br)∧Rdr w0 w' br (m+65+10*(4 - k))∧k≤4∧w6.heap.size≤w'.heap.size∧Blk w' b1 [.slice none 0 0,.slice none 0 0]∧Blk w' b2 [v1,v2]∧b1 < lo∧lo < w'.heap.size∧hi≤w'.heap.size∧(hi≤b2∨b2 < lo)∧OwnedB lo hi (XRd (ESl Ints)) w' v1 d.now∧OwnedB lo hi (XRd (ESl (ESl Ints))) w' v2 d.past∧isCell v1=true∧isCell v2=true∧DI d) (fun x=>x.1) (y2,u2,q1,⟨now,past⟩,w3.heap.size,w4.heap.size) (by repeat (first | exact trivial | refine And.intro rfl ?_)) ?_ ?_
 ·exact ⟨hG,by first | exact hr3.le (by omega) | exact hr2.le (by omega) | exact hr1.le (by omega),by omega,by omega,hB1,hB2,by omega,by omega,by omega,by omega,hA,hC,i1,i2,hd⟩
 clear hr1 hG hA hC hB1 hB2
 rintro ⟨k,v1,v2,d,lo,hi⟩ ρj w7 ⟨hG,hr,hk,hsz,hB1,hB2,hbl,hlw,hhw,hb2,hA,hC,ic1,ic2,hd⟩
 have E7:=hr.old
 have kD : ∀ (w:World) (m':Nat) (hr:Rdr w0 w br m') (hm:m'≤10000000) (hA:OwnedB lo hi (XRd (ESl Ints)) w v1 d.now),lo < w.heap.size→Does Tryd.prog 51 [.pointer (some ⟨br,0,none⟩),.agg #[v1,v2]] w (RetDD w0 w br (m'+10) DrP):=fun w m' hr hm hA hl=>Deed_ok w v1 v2 d.now hr hm hA.above (by omega) hl ic2 hd.now
 have kS : ∀ (w:World) (k n:Int) (t:List UInt8),DrP ⟨k,t,n⟩→ESl Ints w v1 d.now→ESl (ESl Ints) w v2 d.past→Does Tryd.prog 78 [.agg #[v1,v2],.agg #[.int .i64 k,str t,.int .i64 n]] w (RetDkRB w (if DkOk d then (doV d ⟨k,t,n⟩).1.now else []) (if DkOk d then (doV d ⟨k,t,n⟩).1.past else []) (decide (DkOk d) && (doV d ⟨k,t,n⟩).2)):=fun w k n t ht h1 h2=>(spec_DeskDo_ok w v1 v2 d h1 h2 k n t (by have:=ht.2.2.1;simp only at this;omega)).mono fun _ _ h=>h.r
 by_cases hk0:0 < k
 ·have stop6:True:=trivial
  focus
   have szE7:=E7.size;have szEhr3:=Ehr3.size;have szE8:=E8.size;have szE7:=E7.size;have szE6:=E6.size;have szE5:=E5.size;have szE4:=E4.size;have szEhr2:=Ehr2.size;have szEhr1:=Ehr1.size;have szE1:=E1.size
   have szE0:=E0.size;refine W_seq ?_;refine W_seq ?_;refine W_region rfl ?_;refine Wo rfl (opv_move (v:=.int _ _) rfl) ?_;refine Wo rfl (opv_gtr rfl rfl) ?_;refine Wo_nil ?_
   refine W_cond_dec rfl (fun h1=>?_) (fun h1=>?_);refine W_skip ?_;refine W_seq ?_;refine W_block ?_;refine W_seq ?_;rotate_left;(exfalso;omega)
  clear stop6
  refine W_mid [28,29,30,31,32,33,34,35,9,10] (fun ((b9,x1,x2,d',lo',hi',ok):Nat × Value × Value × Dsk × Nat × Nat × Bool)=>[(9,.pointer (some ⟨b9,0,none⟩)),(10,.bool ok)]) (fun (b9,x1,x2,d',lo',hi',ok) w'=>w.grownBy w' (some br)∧Rdr w0 w' br (m+65+10*(4 - k)+10)∧w6.heap.size≤w'.heap.size∧Blk w' b1 [.slice none 0 0,.slice none 0 0]∧Blk w' b2 [v1,v2]∧Blk w' b9 [x1,x2]∧lo < w'.heap.size∧hi≤w'.heap.size∧OwnedB lo hi (XRd (ESl Ints)) w' v1 d.now∧OwnedB lo hi (XRd (ESl (ESl Ints))) w' v2 d.past∧b1 < lo'∧lo' < w'.heap.size∧hi'≤w'.heap.size∧b2 < lo'∧OwnedB lo' hi' (XRd (ESl Ints)) w' x1 d'.now∧OwnedB lo' hi' (XRd (ESl (ESl Ints))) w' x2 d'.past∧isCell x1=true∧isCell x2=true∧DI d') ?_ ?_
  ·focus
    have szE7:=E7.size;have szEhr3:=Ehr3.size;have szE8:=E8.size;have szE7:=E7.size;have szE6:=E6.size;have szE5:=E5.size;have szE4:=E4.size;have szEhr2:=Ehr2.size;have szEhr1:=Ehr1.size;have szE1:=E1.size
    have szE0:=E0.size;refine W_held (fun _=>True) mixed rfl (by kernel_rfl) ?_;intro w8 E10 K2 hz2;have hG:=grownBy_ext hG E10;have hr:=hr.ext E10;have hs7:=E10.size
    refine Wh_take 1 rfl (by kernel_rfl) (by kernel_rfl) rfl (fun _ _=>opv_move (v:=.pointer _) rfl) trivial ?_;refine Wh_all (rs:=[0,2,8]) (by kernel_rfl) rfl ?_;refine WhAll_cons rfl ?_ ?_
    refine Wo (v:=.agg _) rfl (opv_load2 Tryd.isAgg53 Tryd.sizeOf53 rfl (hB2.ext E10)) ?_;refine Wo_nil ?_;refine ⟨trivial,?_⟩;refine Wh_all (rs:=[2,8]) (by kernel_rfl) rfl ?_;refine WhAll_cons rfl ?_ ?_
    refine Wo (v:=.agg _) rfl (opv_load2 Tryd.isAgg53 Tryd.sizeOf53 rfl (hB2.ext E10)) ?_;refine Wo_nil ?_;refine ⟨trivial,?_⟩;refine Wh_all (rs:=[3,8]) (by kernel_rfl) rfl ?_;refine WhAll_cons rfl ?_ ?_
    refine Wo_call rfl (opc2 (a:=.pointer _) (b:=.agg _) Tryd.call51 rfl rfl) (kD _ _ (by assumption) (by omega) ((hA.ext E10)) (by omega)) ?_;rintro _ w9 ⟨k2,t1,n1,rfl,E11,hr1,hy4⟩;(try dsimp only at hy4)
    have hlhr1:=hr1.lt;have Ehr1:=hr1.old;have hB1:=(hB1.ext E10).grown E11 (by simp only [ne_eq,Option.some.injEq];omega);have hB2:=(hB2.ext E10).grown E11 (by simp only [ne_eq,Option.some.injEq];omega)
    have hA:=(hA.ext E10).grown E11 (by omega);have hC:=(hC.ext E10).grown E11 (by omega);have hG:=grownBy_trans hG E11;have hs8:=E11.size;refine Wo_nil ?_;refine ⟨trivial,?_⟩
    refine Wh_all (rs:=[4,8]) (by kernel_rfl) rfl ?_;refine WhAll_cons rfl ?_ ?_;refine Wo_call rfl (opc2 (a:=.agg _) (b:=.agg _) Tryd.call78 rfl rfl) (kS _ _ _ _ (by assumption) ((OwnedB.read hA)) ((OwnedB.read hC))) ?_
    rintro _ w10 ⟨u3,q2,rfl,E12,hA1,hC1,icu3,icq2,gwu3⟩;have hr1:=hr1.ext E12;have hG:=grownBy_ext hG E12;have hs9:=E12.size;refine Wo_nil ?_;refine ⟨trivial,?_⟩
    refine Wh_take 5 rfl (by kernel_rfl) (by kernel_rfl) rfl (fun _ _=>opv_move (v:=.tuple _) rfl) trivial ?_;refine Wh_take 6 rfl (by kernel_rfl) (by kernel_rfl) rfl (fun _ _=>opv_extract (v:=.agg _) rfl rfl) trivial ?_
    refine Wh_take 7 rfl (by kernel_rfl) (by kernel_rfl) rfl (fun _ _=>opv_extract (v:=.bool _) rfl rfl) trivial ?_;refine Wh_all (rs:=[8]) (by kernel_rfl) rfl ?_;refine WhAll_cons rfl ?_ ?_;refine Wo_alloc2 rfl flat53 ?_
    rintro b3 w11 hb3 E13 hB3;have hlb3:=hB3.lt;have hr1:=hr1.ext E13;have hG:=grownBy_ext hG E13;have hs10:=E13.size;refine Wo_nil ?_;refine ⟨trivial,?_⟩;refine Wh_all (rs:=[9]) (by kernel_rfl) rfl ?_
    refine WhAll_cons rfl ?_ ?_;refine Wo_st2 rfl Tryd.sizeOf53 rfl rfl (by first | rfl | assumption) (by first | rfl | assumption) hB3 (by omega) ((Ehr1.trans E12).trans E13) ?_;rintro w12 E14 hB3 K3 hz3
    have E15:=(E12.trans E13).wroteAt ((Ehr1.trans E12).trans E13) E14 K3 hz3 (by omega);have szE15:=E15.size;have E16:=E13.wroteAt ((Ehr1.trans E12).trans E13) E14 K3 hz3 (by omega);have szE16:=E16.size
    have hB1:=(hB1.ext (E12.trans E13)).of_heap (K3 _ (by omega));have hB2:=(hB2.ext (E12.trans E13)).of_heap (K3 _ (by omega));have hA:=(hA.ext (E12.trans E13)).wrote K3 (by omega)
    have hC:=(hC.ext (E12.trans E13)).wrote K3 (by omega);have hA1:=(hA1.ext E13).wrote K3 (by omega);have hC1:=(hC1.ext E13).wrote K3 (by omega);have hr1:=hr1.wrote E14 (K3 _ (by omega)) hz3
    have hG:=grownBy_wrote hG ((Ehr1.trans E12).trans E13) E14 K3 hz3 (by first | exact .inr rfl | omega);refine Wo_nil ?_;refine ⟨trivial,?_⟩
    refine Wh_take 10 rfl (by kernel_rfl) (by kernel_rfl) rfl (fun _ _=>opv_assign (v:=.bool _) rfl) trivial ?_;refine Wh_done (by kernel_rfl) ?_;rotate_left;exact WhAll_nil;exact WhAll_nil;refine WhAll_cons rfl ?_ ?_
    refine Wo_alloc2 rfl flat53 ?_;rintro b3 w10 hb3 E12 hB3;have hlb3:=hB3.lt;have hr1:=hr1.ext E12;have hG:=grownBy_ext hG E12;have hs9:=E12.size;refine Wo_nil ?_;refine ⟨trivial,?_⟩
    refine Wh_all (rs:=[4]) (by kernel_rfl) rfl ?_;refine WhAll_cons rfl ?_ ?_
    refine Wo_call rfl (opc2 (a:=.agg _) (b:=.agg _) Tryd.call78 rfl rfl) (kS _ _ _ _ (by assumption) ((Mono.mono E12 (OwnedB.read hA))) ((Mono.mono E12 (OwnedB.read hC)))) ?_
    rintro _ w11 ⟨u3,q2,rfl,E13,hA1,hC1,icu3,icq2,gwu3⟩;have hr1:=hr1.ext E13;have hG:=grownBy_ext hG E13;have hs10:=E13.size;refine Wo_nil ?_;refine ⟨trivial,?_⟩
    refine Wh_take 5 rfl (by kernel_rfl) (by kernel_rfl) rfl (fun _ _=>opv_move (v:=.tuple _) rfl) trivial ?_;refine Wh_take 6 rfl (by kernel_rfl) (by kernel_rfl) rfl (fun _ _=>opv_extract (v:=.agg _) rfl rfl) trivial ?_
    refine Wh_take 7 rfl (by kernel_rfl) (by kernel_rfl) rfl (fun _ _=>opv_extract (v:=.bool _) rfl rfl) trivial ?_;refine Wh_all (rs:=[9]) (by kernel_rfl) rfl ?_;refine WhAll_cons rfl ?_ ?_
    refine Wo_st2 rfl Tryd.sizeOf53 rfl rfl (by first | rfl | assumption) (by first | rfl | assumption) (hB3.ext E13) (by omega) ((Ehr1.trans E12).trans E13) ?_;rintro w12 E14 hB3 K3 hz3
    have E15:=(E12.trans E13).wroteAt ((Ehr1.trans E12).trans E13) E14 K3 hz3 (by omega);have szE15:=E15.size;have hB1:=(hB1.ext (E12.trans E13)).of_heap (K3 _ (by omega))
    have hB2:=(hB2.ext (E12.trans E13)).of_heap (K3 _ (by omega));have hA:=(hA.ext (E12.trans E13)).wrote K3 (by omega);have hC:=(hC.ext (E12.trans E13)).wrote K3 (by omega);have hA1:=hA1.wrote K3 (by omega)
    have hC1:=hC1.wrote K3 (by omega);have hr1:=hr1.wrote E14 (K3 _ (by omega)) hz3;have hG:=grownBy_wrote hG ((Ehr1.trans E12).trans E13) E14 K3 hz3 (by first | exact .inr rfl | omega);refine Wo_nil ?_;refine ⟨trivial,?_⟩
    refine Wh_take 10 rfl (by kernel_rfl) (by kernel_rfl) rfl (fun _ _=>opv_assign (v:=.bool _) rfl) trivial ?_;refine Wh_done (by kernel_rfl) ?_;rotate_left;exact WhAll_nil;exact WhAll_nil;exact WhAll_nil
    refine WhAll_cons rfl ?_ ?_;refine Wo_alloc2 rfl flat53 ?_;rintro b3 w9 hb3 E11 hB3;have hlb3:=hB3.lt;have hG:=grownBy_ext hG E11;have hr:=hr.ext E11;have hs8:=E11.size;refine Wo_nil ?_;refine ⟨trivial,?_⟩
    refine Wh_all (rs:=[3]) (by kernel_rfl) rfl ?_;refine WhAll_cons rfl ?_ ?_
    refine Wo_call rfl (opc2 (a:=.pointer _) (b:=.agg _) Tryd.call51 rfl rfl) (kD _ _ (by assumption) (by omega) ((hA.ext (E10.trans E11))) (by omega)) ?_;rintro _ w10 ⟨k2,t1,n1,rfl,E12,hr1,hy4⟩;(try dsimp only at hy4)
    have hlhr1:=hr1.lt;have Ehr1:=hr1.old;have hB1:=(hB1.ext (E10.trans E11)).grown E12 (by simp only [ne_eq,Option.some.injEq];omega)
    have hB2:=(hB2.ext (E10.trans E11)).grown E12 (by simp only [ne_eq,Option.some.injEq];omega);have hA:=(hA.ext (E10.trans E11)).grown E12 (by omega);have hC:=(hC.ext (E10.trans E11)).grown E12 (by omega)
    have hB3:=hB3.grown E12 (by simp only [ne_eq,Option.some.injEq];omega);have hG:=grownBy_trans hG E12;have hs9:=E12.size;refine Wo_nil ?_;refine ⟨trivial,?_⟩;refine Wh_all (rs:=[4]) (by kernel_rfl) rfl ?_
    refine WhAll_cons rfl ?_ ?_;refine Wo_call rfl (opc2 (a:=.agg _) (b:=.agg _) Tryd.call78 rfl rfl) (kS _ _ _ _ (by assumption) ((OwnedB.read hA)) ((OwnedB.read hC))) ?_
    rintro _ w11 ⟨u3,q2,rfl,E13,hA1,hC1,icu3,icq2,gwu3⟩;have hr1:=hr1.ext E13;have hG:=grownBy_ext hG E13;have hs10:=E13.size;refine Wo_nil ?_;refine ⟨trivial,?_⟩
    refine Wh_take 5 rfl (by kernel_rfl) (by kernel_rfl) rfl (fun _ _=>opv_move (v:=.tuple _) rfl) trivial ?_;refine Wh_take 6 rfl (by kernel_rfl) (by kernel_rfl) rfl (fun _ _=>opv_extract (v:=.agg _) rfl rfl) trivial ?_
    refine Wh_take 7 rfl (by kernel_rfl) (by kernel_rfl) rfl (fun _ _=>opv_extract (v:=.bool _) rfl rfl) trivial ?_;refine Wh_all (rs:=[9]) (by kernel_rfl) rfl ?_;refine WhAll_cons rfl ?_ ?_
    refine Wo_st2 rfl Tryd.sizeOf53 rfl rfl (by first | rfl | assumption) (by first | rfl | assumption) (hB3.ext E13) (by omega) (Ehr1.trans E13) ?_;rintro w12 E14 hB3 K3 hz3;have hB1:=(hB1.ext E13).of_heap (K3 _ (by omega))
    have hB2:=(hB2.ext E13).of_heap (K3 _ (by omega));have hA:=(hA.ext E13).wrote K3 (by omega);have hC:=(hC.ext E13).wrote K3 (by omega);have hA1:=hA1.wrote K3 (by omega);have hC1:=hC1.wrote K3 (by omega)
    have hr1:=hr1.wrote E14 (K3 _ (by omega)) hz3;have hG:=grownBy_wrote hG (Ehr1.trans E13) E14 K3 hz3 (by first | exact .inr rfl | omega);refine Wo_nil ?_;refine ⟨trivial,?_⟩
    refine Wh_take 10 rfl (by kernel_rfl) (by kernel_rfl) rfl (fun _ _=>opv_assign (v:=.bool _) rfl) trivial ?_;refine Wh_done (by kernel_rfl) ?_;rotate_left;exact WhAll_nil;exact WhAll_nil;exact WhAll_nil;exact WhAll_nil
    refine WhAll_cons rfl ?_ ?_;refine Wo_alloc2 rfl flat53 ?_;rintro b3 w9 hb3 E11 hB3;have hlb3:=hB3.lt;have hG:=grownBy_ext hG E11;have hr:=hr.ext E11;have hs8:=E11.size;refine Wo_nil ?_;refine ⟨trivial,?_⟩
    refine Wh_all (rs:=[2]) (by kernel_rfl) rfl ?_;refine WhAll_cons rfl ?_ ?_;refine Wo (v:=.agg _) rfl (opv_load2 Tryd.isAgg53 Tryd.sizeOf53 rfl (hB2.ext (E10.trans E11))) ?_;refine Wo_nil ?_;refine ⟨trivial,?_⟩
    refine Wh_all (rs:=[3]) (by kernel_rfl) rfl ?_;refine WhAll_cons rfl ?_ ?_
    refine Wo_call rfl (opc2 (a:=.pointer _) (b:=.agg _) Tryd.call51 rfl rfl) (kD _ _ (by assumption) (by omega) ((hA.ext (E10.trans E11))) (by omega)) ?_;rintro _ w10 ⟨k2,t1,n1,rfl,E12,hr1,hy4⟩;(try dsimp only at hy4)
    have hlhr1:=hr1.lt;have Ehr1:=hr1.old;have hB1:=(hB1.ext (E10.trans E11)).grown E12 (by simp only [ne_eq,Option.some.injEq];omega)
    have hB2:=(hB2.ext (E10.trans E11)).grown E12 (by simp only [ne_eq,Option.some.injEq];omega);have hA:=(hA.ext (E10.trans E11)).grown E12 (by omega);have hC:=(hC.ext (E10.trans E11)).grown E12 (by omega)
    have hB3:=hB3.grown E12 (by simp only [ne_eq,Option.some.injEq];omega);have hG:=grownBy_trans hG E12;have hs9:=E12.size;refine Wo_nil ?_;refine ⟨trivial,?_⟩;refine Wh_all (rs:=[4]) (by kernel_rfl) rfl ?_
    refine WhAll_cons rfl ?_ ?_;refine Wo_call rfl (opc2 (a:=.agg _) (b:=.agg _) Tryd.call78 rfl rfl) (kS _ _ _ _ (by assumption) ((OwnedB.read hA)) ((OwnedB.read hC))) ?_
    rintro _ w11 ⟨u3,q2,rfl,E13,hA1,hC1,icu3,icq2,gwu3⟩;have hr1:=hr1.ext E13;have hG:=grownBy_ext hG E13;have hs10:=E13.size;refine Wo_nil ?_;refine ⟨trivial,?_⟩
    refine Wh_take 5 rfl (by kernel_rfl) (by kernel_rfl) rfl (fun _ _=>opv_move (v:=.tuple _) rfl) trivial ?_;refine Wh_take 6 rfl (by kernel_rfl) (by kernel_rfl) rfl (fun _ _=>opv_extract (v:=.agg _) rfl rfl) trivial ?_
    refine Wh_take 7 rfl (by kernel_rfl) (by kernel_rfl) rfl (fun _ _=>opv_extract (v:=.bool _) rfl rfl) trivial ?_;refine Wh_all (rs:=[9]) (by kernel_rfl) rfl ?_;refine WhAll_cons rfl ?_ ?_
    refine Wo_st2 rfl Tryd.sizeOf53 rfl rfl (by first | rfl | assumption) (by first | rfl | assumption) (hB3.ext E13) (by omega) (Ehr1.trans E13) ?_;rintro w12 E14 hB3 K3 hz3;have hB1:=(hB1.ext E13).of_heap (K3 _ (by omega))
    have hB2:=(hB2.ext E13).of_heap (K3 _ (by omega));have hA:=(hA.ext E13).wrote K3 (by omega);have hC:=(hC.ext E13).wrote K3 (by omega);have hA1:=hA1.wrote K3 (by omega);have hC1:=hC1.wrote K3 (by omega)
    have hr1:=hr1.wrote E14 (K3 _ (by omega)) hz3;have hG:=grownBy_wrote hG (Ehr1.trans E13) E14 K3 hz3 (by first | exact .inr rfl | omega);refine Wo_nil ?_;refine ⟨trivial,?_⟩
    refine Wh_take 10 rfl (by kernel_rfl) (by kernel_rfl) rfl (fun _ _=>opv_assign (v:=.bool _) rfl) trivial ?_;refine Wh_done (by kernel_rfl) ?_;rotate_left;exact WhAll_nil;exact WhAll_nil;exact WhAll_nil;exact WhAll_nil
    exact WhAll_nil;refine WhAll_cons rfl ?_ ?_;refine Wo (v:=.agg _) rfl (opv_load2 Tryd.isAgg53 Tryd.sizeOf53 rfl (hB2.ext E10)) ?_;refine Wo_nil ?_;refine ⟨trivial,?_⟩;refine Wh_all (rs:=[0,3,8]) (by kernel_rfl) rfl ?_
    refine WhAll_cons rfl ?_ ?_;refine Wo (v:=.agg _) rfl (opv_load2 Tryd.isAgg53 Tryd.sizeOf53 rfl (hB2.ext E10)) ?_;refine Wo_nil ?_;refine ⟨trivial,?_⟩;refine Wh_all (rs:=[3,8]) (by kernel_rfl) rfl ?_
    refine WhAll_cons rfl ?_ ?_;refine Wo_call rfl (opc2 (a:=.pointer _) (b:=.agg _) Tryd.call51 rfl rfl) (kD _ _ (by assumption) (by omega) ((hA.ext E10)) (by omega)) ?_;rintro _ w9 ⟨k2,t1,n1,rfl,E11,hr1,hy4⟩
    (try dsimp only at hy4);have hlhr1:=hr1.lt;have Ehr1:=hr1.old;have hB1:=(hB1.ext E10).grown E11 (by simp only [ne_eq,Option.some.injEq];omega)
    have hB2:=(hB2.ext E10).grown E11 (by simp only [ne_eq,Option.some.injEq];omega);have hA:=(hA.ext E10).grown E11 (by omega);have hC:=(hC.ext E10).grown E11 (by omega);have hG:=grownBy_trans hG E11;have hs8:=E11.size
    refine Wo_nil ?_;refine ⟨trivial,?_⟩;refine Wh_all (rs:=[4,8]) (by kernel_rfl) rfl ?_;refine WhAll_cons rfl ?_ ?_
    refine Wo_call rfl (opc2 (a:=.agg _) (b:=.agg _) Tryd.call78 rfl rfl) (kS _ _ _ _ (by assumption) ((OwnedB.read hA)) ((OwnedB.read hC))) ?_;rintro _ w10 ⟨u3,q2,rfl,E12,hA1,hC1,icu3,icq2,gwu3⟩;have hr1:=hr1.ext E12
    have hG:=grownBy_ext hG E12;have hs9:=E12.size;refine Wo_nil ?_;refine ⟨trivial,?_⟩;refine Wh_take 5 rfl (by kernel_rfl) (by kernel_rfl) rfl (fun _ _=>opv_move (v:=.tuple _) rfl) trivial ?_
    refine Wh_take 6 rfl (by kernel_rfl) (by kernel_rfl) rfl (fun _ _=>opv_extract (v:=.agg _) rfl rfl) trivial ?_;refine Wh_take 7 rfl (by kernel_rfl) (by kernel_rfl) rfl (fun _ _=>opv_extract (v:=.bool _) rfl rfl) trivial ?_
    refine Wh_all (rs:=[8]) (by kernel_rfl) rfl ?_;refine WhAll_cons rfl ?_ ?_;refine Wo_alloc2 rfl flat53 ?_;rintro b3 w11 hb3 E13 hB3;have hlb3:=hB3.lt;have hr1:=hr1.ext E13;have hG:=grownBy_ext hG E13
    have hs10:=E13.size;refine Wo_nil ?_;refine ⟨trivial,?_⟩;refine Wh_all (rs:=[9]) (by kernel_rfl) rfl ?_;refine WhAll_cons rfl ?_ ?_
    refine Wo_st2 rfl Tryd.sizeOf53 rfl rfl (by first | rfl | assumption) (by first | rfl | assumption) hB3 (by omega) ((Ehr1.trans E12).trans E13) ?_;rintro w12 E14 hB3 K3 hz3
    have E15:=(E12.trans E13).wroteAt ((Ehr1.trans E12).trans E13) E14 K3 hz3 (by omega);have szE15:=E15.size;have E16:=E13.wroteAt ((Ehr1.trans E12).trans E13) E14 K3 hz3 (by omega);have szE16:=E16.size
    have hB1:=(hB1.ext (E12.trans E13)).of_heap (K3 _ (by omega));have hB2:=(hB2.ext (E12.trans E13)).of_heap (K3 _ (by omega));have hA:=(hA.ext (E12.trans E13)).wrote K3 (by omega)
    have hC:=(hC.ext (E12.trans E13)).wrote K3 (by omega);have hA1:=(hA1.ext E13).wrote K3 (by omega);have hC1:=(hC1.ext E13).wrote K3 (by omega);have hr1:=hr1.wrote E14 (K3 _ (by omega)) hz3
    have hG:=grownBy_wrote hG ((Ehr1.trans E12).trans E13) E14 K3 hz3 (by first | exact .inr rfl | omega);refine Wo_nil ?_;refine ⟨trivial,?_⟩
    refine Wh_take 10 rfl (by kernel_rfl) (by kernel_rfl) rfl (fun _ _=>opv_assign (v:=.bool _) rfl) trivial ?_;refine Wh_done (by kernel_rfl) ?_;rotate_left;exact WhAll_nil;exact WhAll_nil;refine WhAll_cons rfl ?_ ?_
    refine Wo_alloc2 rfl flat53 ?_;rintro b3 w10 hb3 E12 hB3;have hlb3:=hB3.lt;have hr1:=hr1.ext E12;have hG:=grownBy_ext hG E12;have hs9:=E12.size;refine Wo_nil ?_;refine ⟨trivial,?_⟩
    refine Wh_all (rs:=[4]) (by kernel_rfl) rfl ?_;refine WhAll_cons rfl ?_ ?_
    refine Wo_call rfl (opc2 (a:=.agg _) (b:=.agg _) Tryd.call78 rfl rfl) (kS _ _ _ _ (by assumption) ((Mono.mono E12 (OwnedB.read hA))) ((Mono.mono E12 (OwnedB.read hC)))) ?_
    rintro _ w11 ⟨u3,q2,rfl,E13,hA1,hC1,icu3,icq2,gwu3⟩;have hr1:=hr1.ext E13;have hG:=grownBy_ext hG E13;have hs10:=E13.size;refine Wo_nil ?_;refine ⟨trivial,?_⟩
    refine Wh_take 5 rfl (by kernel_rfl) (by kernel_rfl) rfl (fun _ _=>opv_move (v:=.tuple _) rfl) trivial ?_;refine Wh_take 6 rfl (by kernel_rfl) (by kernel_rfl) rfl (fun _ _=>opv_extract (v:=.agg _) rfl rfl) trivial ?_
    refine Wh_take 7 rfl (by kernel_rfl) (by kernel_rfl) rfl (fun _ _=>opv_extract (v:=.bool _) rfl rfl) trivial ?_;refine Wh_all (rs:=[9]) (by kernel_rfl) rfl ?_;refine WhAll_cons rfl ?_ ?_
    refine Wo_st2 rfl Tryd.sizeOf53 rfl rfl (by first | rfl | assumption) (by first | rfl | assumption) (hB3.ext E13) (by omega) ((Ehr1.trans E12).trans E13) ?_;rintro w12 E14 hB3 K3 hz3
    have E15:=(E12.trans E13).wroteAt ((Ehr1.trans E12).trans E13) E14 K3 hz3 (by omega);have szE15:=E15.size;have hB1:=(hB1.ext (E12.trans E13)).of_heap (K3 _ (by omega))
    have hB2:=(hB2.ext (E12.trans E13)).of_heap (K3 _ (by omega));have hA:=(hA.ext (E12.trans E13)).wrote K3 (by omega);have hC:=(hC.ext (E12.trans E13)).wrote K3 (by omega);have hA1:=hA1.wrote K3 (by omega)
    have hC1:=hC1.wrote K3 (by omega);have hr1:=hr1.wrote E14 (K3 _ (by omega)) hz3;have hG:=grownBy_wrote hG ((Ehr1.trans E12).trans E13) E14 K3 hz3 (by first | exact .inr rfl | omega);refine Wo_nil ?_;refine ⟨trivial,?_⟩
    refine Wh_take 10 rfl (by kernel_rfl) (by kernel_rfl) rfl (fun _ _=>opv_assign (v:=.bool _) rfl) trivial ?_;refine Wh_done (by kernel_rfl) ?_;rotate_left;exact WhAll_nil;exact WhAll_nil;exact WhAll_nil
    refine WhAll_cons rfl ?_ ?_;refine Wo_alloc2 rfl flat53 ?_;rintro b3 w9 hb3 E11 hB3;have hlb3:=hB3.lt;have hG:=grownBy_ext hG E11;have hr:=hr.ext E11;have hs8:=E11.size;refine Wo_nil ?_;refine ⟨trivial,?_⟩
    refine Wh_all (rs:=[3]) (by kernel_rfl) rfl ?_;refine WhAll_cons rfl ?_ ?_
    refine Wo_call rfl (opc2 (a:=.pointer _) (b:=.agg _) Tryd.call51 rfl rfl) (kD _ _ (by assumption) (by omega) ((hA.ext (E10.trans E11))) (by omega)) ?_;rintro _ w10 ⟨k2,t1,n1,rfl,E12,hr1,hy4⟩;(try dsimp only at hy4)
    have hlhr1:=hr1.lt;have Ehr1:=hr1.old;have hB1:=(hB1.ext (E10.trans E11)).grown E12 (by simp only [ne_eq,Option.some.injEq];omega)
    have hB2:=(hB2.ext (E10.trans E11)).grown E12 (by simp only [ne_eq,Option.some.injEq];omega);have hA:=(hA.ext (E10.trans E11)).grown E12 (by omega);have hC:=(hC.ext (E10.trans E11)).grown E12 (by omega)
    have hB3:=hB3.grown E12 (by simp only [ne_eq,Option.some.injEq];omega);have hG:=grownBy_trans hG E12;have hs9:=E12.size;refine Wo_nil ?_;refine ⟨trivial,?_⟩;refine Wh_all (rs:=[4]) (by kernel_rfl) rfl ?_
    refine WhAll_cons rfl ?_ ?_;refine Wo_call rfl (opc2 (a:=.agg _) (b:=.agg _) Tryd.call78 rfl rfl) (kS _ _ _ _ (by assumption) ((OwnedB.read hA)) ((OwnedB.read hC))) ?_
    rintro _ w11 ⟨u3,q2,rfl,E13,hA1,hC1,icu3,icq2,gwu3⟩;have hr1:=hr1.ext E13;have hG:=grownBy_ext hG E13;have hs10:=E13.size;refine Wo_nil ?_;refine ⟨trivial,?_⟩
    refine Wh_take 5 rfl (by kernel_rfl) (by kernel_rfl) rfl (fun _ _=>opv_move (v:=.tuple _) rfl) trivial ?_;refine Wh_take 6 rfl (by kernel_rfl) (by kernel_rfl) rfl (fun _ _=>opv_extract (v:=.agg _) rfl rfl) trivial ?_
    refine Wh_take 7 rfl (by kernel_rfl) (by kernel_rfl) rfl (fun _ _=>opv_extract (v:=.bool _) rfl rfl) trivial ?_;refine Wh_all (rs:=[9]) (by kernel_rfl) rfl ?_;refine WhAll_cons rfl ?_ ?_
    refine Wo_st2 rfl Tryd.sizeOf53 rfl rfl (by first | rfl | assumption) (by first | rfl | assumption) (hB3.ext E13) (by omega) (Ehr1.trans E13) ?_;rintro w12 E14 hB3 K3 hz3;have hB1:=(hB1.ext E13).of_heap (K3 _ (by omega))
    have hB2:=(hB2.ext E13).of_heap (K3 _ (by omega));have hA:=(hA.ext E13).wrote K3 (by omega);have hC:=(hC.ext E13).wrote K3 (by omega);have hA1:=hA1.wrote K3 (by omega);have hC1:=hC1.wrote K3 (by omega)
    have hr1:=hr1.wrote E14 (K3 _ (by omega)) hz3;have hG:=grownBy_wrote hG (Ehr1.trans E13) E14 K3 hz3 (by first | exact .inr rfl | omega);refine Wo_nil ?_;refine ⟨trivial,?_⟩
    refine Wh_take 10 rfl (by kernel_rfl) (by kernel_rfl) rfl (fun _ _=>opv_assign (v:=.bool _) rfl) trivial ?_;refine Wh_done (by kernel_rfl) ?_;rotate_left;exact WhAll_nil;exact WhAll_nil;exact WhAll_nil;exact WhAll_nil
    refine WhAll_cons rfl ?_ ?_;refine Wo_call rfl (opc2 (a:=.pointer _) (b:=.agg _) Tryd.call51 rfl rfl) (kD _ _ (by assumption) (by omega) ((hA.ext E10)) (by omega)) ?_;rintro _ w9 ⟨k2,t1,n1,rfl,E11,hr1,hy4⟩
    (try dsimp only at hy4);have hlhr1:=hr1.lt;have Ehr1:=hr1.old;have hB1:=(hB1.ext E10).grown E11 (by simp only [ne_eq,Option.some.injEq];omega)
    have hB2:=(hB2.ext E10).grown E11 (by simp only [ne_eq,Option.some.injEq];omega);have hA:=(hA.ext E10).grown E11 (by omega);have hC:=(hC.ext E10).grown E11 (by omega);have hG:=grownBy_trans hG E11;have hs8:=E11.size
    refine Wo_nil ?_;refine ⟨trivial,?_⟩;refine Wh_all (rs:=[0,8]) (by kernel_rfl) rfl ?_;refine WhAll_cons rfl ?_ ?_;refine Wo (v:=.agg _) rfl (opv_load2 Tryd.isAgg53 Tryd.sizeOf53 rfl hB2) ?_;refine Wo_nil ?_
    refine ⟨trivial,?_⟩;refine Wh_all (rs:=[4,8]) (by kernel_rfl) rfl ?_;refine WhAll_cons rfl ?_ ?_
    refine Wo_call rfl (opc2 (a:=.agg _) (b:=.agg _) Tryd.call78 rfl rfl) (kS _ _ _ _ (by assumption) ((OwnedB.read hA)) ((OwnedB.read hC))) ?_;rintro _ w10 ⟨u3,q2,rfl,E12,hA1,hC1,icu3,icq2,gwu3⟩;have hr1:=hr1.ext E12
    have hG:=grownBy_ext hG E12;have hs9:=E12.size;refine Wo_nil ?_;refine ⟨trivial,?_⟩;refine Wh_take 5 rfl (by kernel_rfl) (by kernel_rfl) rfl (fun _ _=>opv_move (v:=.tuple _) rfl) trivial ?_
    refine Wh_take 6 rfl (by kernel_rfl) (by kernel_rfl) rfl (fun _ _=>opv_extract (v:=.agg _) rfl rfl) trivial ?_;refine Wh_take 7 rfl (by kernel_rfl) (by kernel_rfl) rfl (fun _ _=>opv_extract (v:=.bool _) rfl rfl) trivial ?_
    refine Wh_all (rs:=[8]) (by kernel_rfl) rfl ?_;refine WhAll_cons rfl ?_ ?_;refine Wo_alloc2 rfl flat53 ?_;rintro b3 w11 hb3 E13 hB3;have hlb3:=hB3.lt;have hr1:=hr1.ext E13;have hG:=grownBy_ext hG E13
    have hs10:=E13.size;refine Wo_nil ?_;refine ⟨trivial,?_⟩;refine Wh_all (rs:=[9]) (by kernel_rfl) rfl ?_;refine WhAll_cons rfl ?_ ?_
    refine Wo_st2 rfl Tryd.sizeOf53 rfl rfl (by first | rfl | assumption) (by first | rfl | assumption) hB3 (by omega) ((Ehr1.trans E12).trans E13) ?_;rintro w12 E14 hB3 K3 hz3
    have E15:=(E12.trans E13).wroteAt ((Ehr1.trans E12).trans E13) E14 K3 hz3 (by omega);have szE15:=E15.size;have E16:=E13.wroteAt ((Ehr1.trans E12).trans E13) E14 K3 hz3 (by omega);have szE16:=E16.size
    have hB1:=(hB1.ext (E12.trans E13)).of_heap (K3 _ (by omega));have hB2:=(hB2.ext (E12.trans E13)).of_heap (K3 _ (by omega));have hA:=(hA.ext (E12.trans E13)).wrote K3 (by omega)
    have hC:=(hC.ext (E12.trans E13)).wrote K3 (by omega);have hA1:=(hA1.ext E13).wrote K3 (by omega);have hC1:=(hC1.ext E13).wrote K3 (by omega);have hr1:=hr1.wrote E14 (K3 _ (by omega)) hz3
    have hG:=grownBy_wrote hG ((Ehr1.trans E12).trans E13) E14 K3 hz3 (by first | exact .inr rfl | omega);refine Wo_nil ?_;refine ⟨trivial,?_⟩
    refine Wh_take 10 rfl (by kernel_rfl) (by kernel_rfl) rfl (fun _ _=>opv_assign (v:=.bool _) rfl) trivial ?_;refine Wh_done (by kernel_rfl) ?_;rotate_left;exact WhAll_nil;exact WhAll_nil;refine WhAll_cons rfl ?_ ?_
    refine Wo_alloc2 rfl flat53 ?_;rintro b3 w10 hb3 E12 hB3;have hlb3:=hB3.lt;have hr1:=hr1.ext E12;have hG:=grownBy_ext hG E12;have hs9:=E12.size;refine Wo_nil ?_;refine ⟨trivial,?_⟩
    refine Wh_all (rs:=[4]) (by kernel_rfl) rfl ?_;refine WhAll_cons rfl ?_ ?_
    refine Wo_call rfl (opc2 (a:=.agg _) (b:=.agg _) Tryd.call78 rfl rfl) (kS _ _ _ _ (by assumption) ((Mono.mono E12 (OwnedB.read hA))) ((Mono.mono E12 (OwnedB.read hC)))) ?_
    rintro _ w11 ⟨u3,q2,rfl,E13,hA1,hC1,icu3,icq2,gwu3⟩;have hr1:=hr1.ext E13;have hG:=grownBy_ext hG E13;have hs10:=E13.size;refine Wo_nil ?_;refine ⟨trivial,?_⟩
    refine Wh_take 5 rfl (by kernel_rfl) (by kernel_rfl) rfl (fun _ _=>opv_move (v:=.tuple _) rfl) trivial ?_;refine Wh_take 6 rfl (by kernel_rfl) (by kernel_rfl) rfl (fun _ _=>opv_extract (v:=.agg _) rfl rfl) trivial ?_
    refine Wh_take 7 rfl (by kernel_rfl) (by kernel_rfl) rfl (fun _ _=>opv_extract (v:=.bool _) rfl rfl) trivial ?_;refine Wh_all (rs:=[9]) (by kernel_rfl) rfl ?_;refine WhAll_cons rfl ?_ ?_
    refine Wo_st2 rfl Tryd.sizeOf53 rfl rfl (by first | rfl | assumption) (by first | rfl | assumption) (hB3.ext E13) (by omega) ((Ehr1.trans E12).trans E13) ?_;rintro w12 E14 hB3 K3 hz3
    have E15:=(E12.trans E13).wroteAt ((Ehr1.trans E12).trans E13) E14 K3 hz3 (by omega);have szE15:=E15.size;have hB1:=(hB1.ext (E12.trans E13)).of_heap (K3 _ (by omega))
    have hB2:=(hB2.ext (E12.trans E13)).of_heap (K3 _ (by omega));have hA:=(hA.ext (E12.trans E13)).wrote K3 (by omega);have hC:=(hC.ext (E12.trans E13)).wrote K3 (by omega);have hA1:=hA1.wrote K3 (by omega)
    have hC1:=hC1.wrote K3 (by omega);have hr1:=hr1.wrote E14 (K3 _ (by omega)) hz3;have hG:=grownBy_wrote hG ((Ehr1.trans E12).trans E13) E14 K3 hz3 (by first | exact .inr rfl | omega);refine Wo_nil ?_;refine ⟨trivial,?_⟩
    refine Wh_take 10 rfl (by kernel_rfl) (by kernel_rfl) rfl (fun _ _=>opv_assign (v:=.bool _) rfl) trivial ?_;refine Wh_done (by kernel_rfl) ?_;rotate_left;exact WhAll_nil;exact WhAll_nil;exact WhAll_nil
    refine WhAll_cons rfl ?_ ?_;refine Wo_alloc2 rfl flat53 ?_;rintro b3 w10 hb3 E12 hB3;have hlb3:=hB3.lt;have hr1:=hr1.ext E12;have hG:=grownBy_ext hG E12;have hs9:=E12.size;refine Wo_nil ?_;refine ⟨trivial,?_⟩
    refine Wh_all (rs:=[0]) (by kernel_rfl) rfl ?_;refine WhAll_cons rfl ?_ ?_;refine Wo (v:=.agg _) rfl (opv_load2 Tryd.isAgg53 Tryd.sizeOf53 rfl (hB2.ext E12)) ?_;refine Wo_nil ?_;refine ⟨trivial,?_⟩
    refine Wh_all (rs:=[4]) (by kernel_rfl) rfl ?_;refine WhAll_cons rfl ?_ ?_
    refine Wo_call rfl (opc2 (a:=.agg _) (b:=.agg _) Tryd.call78 rfl rfl) (kS _ _ _ _ (by assumption) ((Mono.mono E12 (OwnedB.read hA))) ((Mono.mono E12 (OwnedB.read hC)))) ?_
    rintro _ w11 ⟨u3,q2,rfl,E13,hA1,hC1,icu3,icq2,gwu3⟩;have hr1:=hr1.ext E13;have hG:=grownBy_ext hG E13;have hs10:=E13.size;refine Wo_nil ?_;refine ⟨trivial,?_⟩
    refine Wh_take 5 rfl (by kernel_rfl) (by kernel_rfl) rfl (fun _ _=>opv_move (v:=.tuple _) rfl) trivial ?_;refine Wh_take 6 rfl (by kernel_rfl) (by kernel_rfl) rfl (fun _ _=>opv_extract (v:=.agg _) rfl rfl) trivial ?_
    refine Wh_take 7 rfl (by kernel_rfl) (by kernel_rfl) rfl (fun _ _=>opv_extract (v:=.bool _) rfl rfl) trivial ?_;refine Wh_all (rs:=[9]) (by kernel_rfl) rfl ?_;refine WhAll_cons rfl ?_ ?_
    refine Wo_st2 rfl Tryd.sizeOf53 rfl rfl (by first | rfl | assumption) (by first | rfl | assumption) (hB3.ext E13) (by omega) ((Ehr1.trans E12).trans E13) ?_;rintro w12 E14 hB3 K3 hz3
    have E15:=(E12.trans E13).wroteAt ((Ehr1.trans E12).trans E13) E14 K3 hz3 (by omega);have szE15:=E15.size;have hB1:=(hB1.ext (E12.trans E13)).of_heap (K3 _ (by omega))
    have hB2:=(hB2.ext (E12.trans E13)).of_heap (K3 _ (by omega));have hA:=(hA.ext (E12.trans E13)).wrote K3 (by omega);have hC:=(hC.ext (E12.trans E13)).wrote K3 (by omega);have hA1:=hA1.wrote K3 (by omega)
    have hC1:=hC1.wrote K3 (by omega);have hr1:=hr1.wrote E14 (K3 _ (by omega)) hz3;have hG:=grownBy_wrote hG ((Ehr1.trans E12).trans E13) E14 K3 hz3 (by first | exact .inr rfl | omega);refine Wo_nil ?_;refine ⟨trivial,?_⟩
    refine Wh_take 10 rfl (by kernel_rfl) (by kernel_rfl) rfl (fun _ _=>opv_assign (v:=.bool _) rfl) trivial ?_;refine Wh_done (by kernel_rfl) ?_;rotate_left;exact WhAll_nil;exact WhAll_nil;exact WhAll_nil;exact WhAll_nil
    refine WhAll_cons rfl ?_ ?_;refine Wo_alloc2 rfl flat53 ?_;rintro b3 w9 hb3 E11 hB3;have hlb3:=hB3.lt;have hG:=grownBy_ext hG E11;have hr:=hr.ext E11;have hs8:=E11.size;refine Wo_nil ?_;refine ⟨trivial,?_⟩
    refine Wh_all (rs:=[0,3]) (by kernel_rfl) rfl ?_;refine WhAll_cons rfl ?_ ?_;refine Wo (v:=.agg _) rfl (opv_load2 Tryd.isAgg53 Tryd.sizeOf53 rfl (hB2.ext (E10.trans E11))) ?_;refine Wo_nil ?_;refine ⟨trivial,?_⟩
    refine Wh_all (rs:=[3]) (by kernel_rfl) rfl ?_;refine WhAll_cons rfl ?_ ?_
    refine Wo_call rfl (opc2 (a:=.pointer _) (b:=.agg _) Tryd.call51 rfl rfl) (kD _ _ (by assumption) (by omega) ((hA.ext (E10.trans E11))) (by omega)) ?_;rintro _ w10 ⟨k2,t1,n1,rfl,E12,hr1,hy4⟩;(try dsimp only at hy4)
    have hlhr1:=hr1.lt;have Ehr1:=hr1.old;have hB1:=(hB1.ext (E10.trans E11)).grown E12 (by simp only [ne_eq,Option.some.injEq];omega)
    have hB2:=(hB2.ext (E10.trans E11)).grown E12 (by simp only [ne_eq,Option.some.injEq];omega);have hA:=(hA.ext (E10.trans E11)).grown E12 (by omega);have hC:=(hC.ext (E10.trans E11)).grown E12 (by omega)
    have hB3:=hB3.grown E12 (by simp only [ne_eq,Option.some.injEq];omega);have hG:=grownBy_trans hG E12;have hs9:=E12.size;refine Wo_nil ?_;refine ⟨trivial,?_⟩;refine Wh_all (rs:=[4]) (by kernel_rfl) rfl ?_
    refine WhAll_cons rfl ?_ ?_;refine Wo_call rfl (opc2 (a:=.agg _) (b:=.agg _) Tryd.call78 rfl rfl) (kS _ _ _ _ (by assumption) ((OwnedB.read hA)) ((OwnedB.read hC))) ?_
    rintro _ w11 ⟨u3,q2,rfl,E13,hA1,hC1,icu3,icq2,gwu3⟩;have hr1:=hr1.ext E13;have hG:=grownBy_ext hG E13;have hs10:=E13.size;refine Wo_nil ?_;refine ⟨trivial,?_⟩
    refine Wh_take 5 rfl (by kernel_rfl) (by kernel_rfl) rfl (fun _ _=>opv_move (v:=.tuple _) rfl) trivial ?_;refine Wh_take 6 rfl (by kernel_rfl) (by kernel_rfl) rfl (fun _ _=>opv_extract (v:=.agg _) rfl rfl) trivial ?_
    refine Wh_take 7 rfl (by kernel_rfl) (by kernel_rfl) rfl (fun _ _=>opv_extract (v:=.bool _) rfl rfl) trivial ?_;refine Wh_all (rs:=[9]) (by kernel_rfl) rfl ?_;refine WhAll_cons rfl ?_ ?_
    refine Wo_st2 rfl Tryd.sizeOf53 rfl rfl (by first | rfl | assumption) (by first | rfl | assumption) (hB3.ext E13) (by omega) (Ehr1.trans E13) ?_;rintro w12 E14 hB3 K3 hz3;have hB1:=(hB1.ext E13).of_heap (K3 _ (by omega))
    have hB2:=(hB2.ext E13).of_heap (K3 _ (by omega));have hA:=(hA.ext E13).wrote K3 (by omega);have hC:=(hC.ext E13).wrote K3 (by omega);have hA1:=hA1.wrote K3 (by omega);have hC1:=hC1.wrote K3 (by omega)
    have hr1:=hr1.wrote E14 (K3 _ (by omega)) hz3;have hG:=grownBy_wrote hG (Ehr1.trans E13) E14 K3 hz3 (by first | exact .inr rfl | omega);refine Wo_nil ?_;refine ⟨trivial,?_⟩
    refine Wh_take 10 rfl (by kernel_rfl) (by kernel_rfl) rfl (fun _ _=>opv_assign (v:=.bool _) rfl) trivial ?_;refine Wh_done (by kernel_rfl) ?_;rotate_left;exact WhAll_nil;exact WhAll_nil;exact WhAll_nil
    refine WhAll_cons rfl ?_ ?_;refine Wo_call rfl (opc2 (a:=.pointer _) (b:=.agg _) Tryd.call51 rfl rfl) (kD _ _ (by assumption) (by omega) ((hA.ext (E10.trans E11))) (by omega)) ?_;rintro _ w10 ⟨k2,t1,n1,rfl,E12,hr1,hy4⟩
    (try dsimp only at hy4);have hlhr1:=hr1.lt;have Ehr1:=hr1.old;have hB1:=(hB1.ext (E10.trans E11)).grown E12 (by simp only [ne_eq,Option.some.injEq];omega)
    have hB2:=(hB2.ext (E10.trans E11)).grown E12 (by simp only [ne_eq,Option.some.injEq];omega);have hA:=(hA.ext (E10.trans E11)).grown E12 (by omega);have hC:=(hC.ext (E10.trans E11)).grown E12 (by omega)
    have hB3:=hB3.grown E12 (by simp only [ne_eq,Option.some.injEq];omega);have hG:=grownBy_trans hG E12;have hs9:=E12.size;refine Wo_nil ?_;refine ⟨trivial,?_⟩;refine Wh_all (rs:=[0]) (by kernel_rfl) rfl ?_
    refine WhAll_cons rfl ?_ ?_;refine Wo (v:=.agg _) rfl (opv_load2 Tryd.isAgg53 Tryd.sizeOf53 rfl hB2) ?_;refine Wo_nil ?_;refine ⟨trivial,?_⟩;refine Wh_all (rs:=[4]) (by kernel_rfl) rfl ?_;refine WhAll_cons rfl ?_ ?_
    refine Wo_call rfl (opc2 (a:=.agg _) (b:=.agg _) Tryd.call78 rfl rfl) (kS _ _ _ _ (by assumption) ((OwnedB.read hA)) ((OwnedB.read hC))) ?_;rintro _ w11 ⟨u3,q2,rfl,E13,hA1,hC1,icu3,icq2,gwu3⟩;have hr1:=hr1.ext E13
    have hG:=grownBy_ext hG E13;have hs10:=E13.size;refine Wo_nil ?_;refine ⟨trivial,?_⟩;refine Wh_take 5 rfl (by kernel_rfl) (by kernel_rfl) rfl (fun _ _=>opv_move (v:=.tuple _) rfl) trivial ?_
    refine Wh_take 6 rfl (by kernel_rfl) (by kernel_rfl) rfl (fun _ _=>opv_extract (v:=.agg _) rfl rfl) trivial ?_;refine Wh_take 7 rfl (by kernel_rfl) (by kernel_rfl) rfl (fun _ _=>opv_extract (v:=.bool _) rfl rfl) trivial ?_
    refine Wh_all (rs:=[9]) (by kernel_rfl) rfl ?_;refine WhAll_cons rfl ?_ ?_;refine Wo_st2 rfl Tryd.sizeOf53 rfl rfl (by first | rfl | assumption) (by first | rfl | assumption) (hB3.ext E13) (by omega) (Ehr1.trans E13) ?_
    rintro w12 E14 hB3 K3 hz3;have hB1:=(hB1.ext E13).of_heap (K3 _ (by omega));have hB2:=(hB2.ext E13).of_heap (K3 _ (by omega));have hA:=(hA.ext E13).wrote K3 (by omega);have hC:=(hC.ext E13).wrote K3 (by omega)
    have hA1:=hA1.wrote K3 (by omega);have hC1:=hC1.wrote K3 (by omega);have hr1:=hr1.wrote E14 (K3 _ (by omega)) hz3;have hG:=grownBy_wrote hG (Ehr1.trans E13) E14 K3 hz3 (by first | exact .inr rfl | omega);refine Wo_nil ?_
    refine ⟨trivial,?_⟩;refine Wh_take 10 rfl (by kernel_rfl) (by kernel_rfl) rfl (fun _ _=>opv_assign (v:=.bool _) rfl) trivial ?_;refine Wh_done (by kernel_rfl) ?_;rotate_left;exact WhAll_nil;exact WhAll_nil;exact WhAll_nil
    exact WhAll_nil;exact WhAll_nil;refine WhAll_cons rfl ?_ ?_;refine Wo_alloc2 rfl flat53 ?_;rintro b3 w9 hb3 E11 hB3;have hlb3:=hB3.lt;have hG:=grownBy_ext hG E11;have hr:=hr.ext E11;have hs8:=E11.size
    refine Wo_nil ?_;refine ⟨trivial,?_⟩;refine Wh_all (rs:=[0,2]) (by kernel_rfl) rfl ?_;refine WhAll_cons rfl ?_ ?_;refine Wo (v:=.agg _) rfl (opv_load2 Tryd.isAgg53 Tryd.sizeOf53 rfl (hB2.ext (E10.trans E11))) ?_
    refine Wo_nil ?_;refine ⟨trivial,?_⟩;refine Wh_all (rs:=[2]) (by kernel_rfl) rfl ?_;refine WhAll_cons rfl ?_ ?_;refine Wo (v:=.agg _) rfl (opv_load2 Tryd.isAgg53 Tryd.sizeOf53 rfl (hB2.ext (E10.trans E11))) ?_
    refine Wo_nil ?_;refine ⟨trivial,?_⟩;refine Wh_all (rs:=[3]) (by kernel_rfl) rfl ?_;refine WhAll_cons rfl ?_ ?_
    refine Wo_call rfl (opc2 (a:=.pointer _) (b:=.agg _) Tryd.call51 rfl rfl) (kD _ _ (by assumption) (by omega) ((hA.ext (E10.trans E11))) (by omega)) ?_;rintro _ w10 ⟨k2,t1,n1,rfl,E12,hr1,hy4⟩;(try dsimp only at hy4)
    have hlhr1:=hr1.lt;have Ehr1:=hr1.old;have hB1:=(hB1.ext (E10.trans E11)).grown E12 (by simp only [ne_eq,Option.some.injEq];omega)
    have hB2:=(hB2.ext (E10.trans E11)).grown E12 (by simp only [ne_eq,Option.some.injEq];omega);have hA:=(hA.ext (E10.trans E11)).grown E12 (by omega);have hC:=(hC.ext (E10.trans E11)).grown E12 (by omega)
    have hB3:=hB3.grown E12 (by simp only [ne_eq,Option.some.injEq];omega);have hG:=grownBy_trans hG E12;have hs9:=E12.size;refine Wo_nil ?_;refine ⟨trivial,?_⟩;refine Wh_all (rs:=[4]) (by kernel_rfl) rfl ?_
    refine WhAll_cons rfl ?_ ?_;refine Wo_call rfl (opc2 (a:=.agg _) (b:=.agg _) Tryd.call78 rfl rfl) (kS _ _ _ _ (by assumption) ((OwnedB.read hA)) ((OwnedB.read hC))) ?_
    rintro _ w11 ⟨u3,q2,rfl,E13,hA1,hC1,icu3,icq2,gwu3⟩;have hr1:=hr1.ext E13;have hG:=grownBy_ext hG E13;have hs10:=E13.size;refine Wo_nil ?_;refine ⟨trivial,?_⟩
    refine Wh_take 5 rfl (by kernel_rfl) (by kernel_rfl) rfl (fun _ _=>opv_move (v:=.tuple _) rfl) trivial ?_;refine Wh_take 6 rfl (by kernel_rfl) (by kernel_rfl) rfl (fun _ _=>opv_extract (v:=.agg _) rfl rfl) trivial ?_
    refine Wh_take 7 rfl (by kernel_rfl) (by kernel_rfl) rfl (fun _ _=>opv_extract (v:=.bool _) rfl rfl) trivial ?_;refine Wh_all (rs:=[9]) (by kernel_rfl) rfl ?_;refine WhAll_cons rfl ?_ ?_
    refine Wo_st2 rfl Tryd.sizeOf53 rfl rfl (by first | rfl | assumption) (by first | rfl | assumption) (hB3.ext E13) (by omega) (Ehr1.trans E13) ?_;rintro w12 E14 hB3 K3 hz3;have hB1:=(hB1.ext E13).of_heap (K3 _ (by omega))
    have hB2:=(hB2.ext E13).of_heap (K3 _ (by omega));have hA:=(hA.ext E13).wrote K3 (by omega);have hC:=(hC.ext E13).wrote K3 (by omega);have hA1:=hA1.wrote K3 (by omega);have hC1:=hC1.wrote K3 (by omega)
    have hr1:=hr1.wrote E14 (K3 _ (by omega)) hz3;have hG:=grownBy_wrote hG (Ehr1.trans E13) E14 K3 hz3 (by first | exact .inr rfl | omega);refine Wo_nil ?_;refine ⟨trivial,?_⟩
    refine Wh_take 10 rfl (by kernel_rfl) (by kernel_rfl) rfl (fun _ _=>opv_assign (v:=.bool _) rfl) trivial ?_;refine Wh_done (by kernel_rfl) ?_;rotate_left;exact WhAll_nil;exact WhAll_nil;exact WhAll_nil;exact WhAll_nil
    refine WhAll_cons rfl ?_ ?_;refine Wo (v:=.agg _) rfl (opv_load2 Tryd.isAgg53 Tryd.sizeOf53 rfl (hB2.ext (E10.trans E11))) ?_;refine Wo_nil ?_;refine ⟨trivial,?_⟩;refine Wh_all (rs:=[0,3]) (by kernel_rfl) rfl ?_
    refine WhAll_cons rfl ?_ ?_;refine Wo (v:=.agg _) rfl (opv_load2 Tryd.isAgg53 Tryd.sizeOf53 rfl (hB2.ext (E10.trans E11))) ?_;refine Wo_nil ?_;refine ⟨trivial,?_⟩;refine Wh_all (rs:=[3]) (by kernel_rfl) rfl ?_
    refine WhAll_cons rfl ?_ ?_;refine Wo_call rfl (opc2 (a:=.pointer _) (b:=.agg _) Tryd.call51 rfl rfl) (kD _ _ (by assumption) (by omega) ((hA.ext (E10.trans E11))) (by omega)) ?_;rintro _ w10 ⟨k2,t1,n1,rfl,E12,hr1,hy4⟩
    (try dsimp only at hy4);have hlhr1:=hr1.lt;have Ehr1:=hr1.old;have hB1:=(hB1.ext (E10.trans E11)).grown E12 (by simp only [ne_eq,Option.some.injEq];omega)
    have hB2:=(hB2.ext (E10.trans E11)).grown E12 (by simp only [ne_eq,Option.some.injEq];omega);have hA:=(hA.ext (E10.trans E11)).grown E12 (by omega);have hC:=(hC.ext (E10.trans E11)).grown E12 (by omega)
    have hB3:=hB3.grown E12 (by simp only [ne_eq,Option.some.injEq];omega);have hG:=grownBy_trans hG E12;have hs9:=E12.size;refine Wo_nil ?_;refine ⟨trivial,?_⟩;refine Wh_all (rs:=[4]) (by kernel_rfl) rfl ?_
    refine WhAll_cons rfl ?_ ?_;refine Wo_call rfl (opc2 (a:=.agg _) (b:=.agg _) Tryd.call78 rfl rfl) (kS _ _ _ _ (by assumption) ((OwnedB.read hA)) ((OwnedB.read hC))) ?_
    rintro _ w11 ⟨u3,q2,rfl,E13,hA1,hC1,icu3,icq2,gwu3⟩;have hr1:=hr1.ext E13;have hG:=grownBy_ext hG E13;have hs10:=E13.size;refine Wo_nil ?_;refine ⟨trivial,?_⟩
    refine Wh_take 5 rfl (by kernel_rfl) (by kernel_rfl) rfl (fun _ _=>opv_move (v:=.tuple _) rfl) trivial ?_;refine Wh_take 6 rfl (by kernel_rfl) (by kernel_rfl) rfl (fun _ _=>opv_extract (v:=.agg _) rfl rfl) trivial ?_
    refine Wh_take 7 rfl (by kernel_rfl) (by kernel_rfl) rfl (fun _ _=>opv_extract (v:=.bool _) rfl rfl) trivial ?_;refine Wh_all (rs:=[9]) (by kernel_rfl) rfl ?_;refine WhAll_cons rfl ?_ ?_
    refine Wo_st2 rfl Tryd.sizeOf53 rfl rfl (by first | rfl | assumption) (by first | rfl | assumption) (hB3.ext E13) (by omega) (Ehr1.trans E13) ?_;rintro w12 E14 hB3 K3 hz3;have hB1:=(hB1.ext E13).of_heap (K3 _ (by omega))
    have hB2:=(hB2.ext E13).of_heap (K3 _ (by omega));have hA:=(hA.ext E13).wrote K3 (by omega);have hC:=(hC.ext E13).wrote K3 (by omega);have hA1:=hA1.wrote K3 (by omega);have hC1:=hC1.wrote K3 (by omega)
    have hr1:=hr1.wrote E14 (K3 _ (by omega)) hz3;have hG:=grownBy_wrote hG (Ehr1.trans E13) E14 K3 hz3 (by first | exact .inr rfl | omega);refine Wo_nil ?_;refine ⟨trivial,?_⟩
    refine Wh_take 10 rfl (by kernel_rfl) (by kernel_rfl) rfl (fun _ _=>opv_assign (v:=.bool _) rfl) trivial ?_;refine Wh_done (by kernel_rfl) ?_;rotate_left;exact WhAll_nil;exact WhAll_nil;exact WhAll_nil
    refine WhAll_cons rfl ?_ ?_;refine Wo_call rfl (opc2 (a:=.pointer _) (b:=.agg _) Tryd.call51 rfl rfl) (kD _ _ (by assumption) (by omega) ((hA.ext (E10.trans E11))) (by omega)) ?_;rintro _ w10 ⟨k2,t1,n1,rfl,E12,hr1,hy4⟩
    (try dsimp only at hy4);have hlhr1:=hr1.lt;have Ehr1:=hr1.old;have hB1:=(hB1.ext (E10.trans E11)).grown E12 (by simp only [ne_eq,Option.some.injEq];omega)
    have hB2:=(hB2.ext (E10.trans E11)).grown E12 (by simp only [ne_eq,Option.some.injEq];omega);have hA:=(hA.ext (E10.trans E11)).grown E12 (by omega);have hC:=(hC.ext (E10.trans E11)).grown E12 (by omega)
    have hB3:=hB3.grown E12 (by simp only [ne_eq,Option.some.injEq];omega);have hG:=grownBy_trans hG E12;have hs9:=E12.size;refine Wo_nil ?_;refine ⟨trivial,?_⟩;refine Wh_all (rs:=[0]) (by kernel_rfl) rfl ?_
    refine WhAll_cons rfl ?_ ?_;refine Wo (v:=.agg _) rfl (opv_load2 Tryd.isAgg53 Tryd.sizeOf53 rfl hB2) ?_;refine Wo_nil ?_;refine ⟨trivial,?_⟩;refine Wh_all (rs:=[4]) (by kernel_rfl) rfl ?_;refine WhAll_cons rfl ?_ ?_
    refine Wo_call rfl (opc2 (a:=.agg _) (b:=.agg _) Tryd.call78 rfl rfl) (kS _ _ _ _ (by assumption) ((OwnedB.read hA)) ((OwnedB.read hC))) ?_;rintro _ w11 ⟨u3,q2,rfl,E13,hA1,hC1,icu3,icq2,gwu3⟩;have hr1:=hr1.ext E13
    have hG:=grownBy_ext hG E13;have hs10:=E13.size;refine Wo_nil ?_;refine ⟨trivial,?_⟩;refine Wh_take 5 rfl (by kernel_rfl) (by kernel_rfl) rfl (fun _ _=>opv_move (v:=.tuple _) rfl) trivial ?_
    refine Wh_take 6 rfl (by kernel_rfl) (by kernel_rfl) rfl (fun _ _=>opv_extract (v:=.agg _) rfl rfl) trivial ?_;refine Wh_take 7 rfl (by kernel_rfl) (by kernel_rfl) rfl (fun _ _=>opv_extract (v:=.bool _) rfl rfl) trivial ?_
    refine Wh_all (rs:=[9]) (by kernel_rfl) rfl ?_;refine WhAll_cons rfl ?_ ?_;refine Wo_st2 rfl Tryd.sizeOf53 rfl rfl (by first | rfl | assumption) (by first | rfl | assumption) (hB3.ext E13) (by omega) (Ehr1.trans E13) ?_
    rintro w12 E14 hB3 K3 hz3;have hB1:=(hB1.ext E13).of_heap (K3 _ (by omega));have hB2:=(hB2.ext E13).of_heap (K3 _ (by omega));have hA:=(hA.ext E13).wrote K3 (by omega);have hC:=(hC.ext E13).wrote K3 (by omega)
    have hA1:=hA1.wrote K3 (by omega);have hC1:=hC1.wrote K3 (by omega);have hr1:=hr1.wrote E14 (K3 _ (by omega)) hz3;have hG:=grownBy_wrote hG (Ehr1.trans E13) E14 K3 hz3 (by first | exact .inr rfl | omega);refine Wo_nil ?_
    refine ⟨trivial,?_⟩;refine Wh_take 10 rfl (by kernel_rfl) (by kernel_rfl) rfl (fun _ _=>opv_assign (v:=.bool _) rfl) trivial ?_;refine Wh_done (by kernel_rfl) ?_;rotate_left;exact WhAll_nil;exact WhAll_nil;exact WhAll_nil
    exact WhAll_nil;exact WhAll_nil;exact WhAll_nil
   all_goals exact ⟨(b3,u3,q2,⟨if DkOk d then (doV d ⟨k2,t1,n1⟩).1.now else [],if DkOk d then (doV d ⟨k2,t1,n1⟩).1.past else []⟩,_,_,_),⟨rfl,rfl,trivial⟩,by repeat (first | with_reducible exact Same.refl | refine Same.upd rfl ?_ | refine Same.upds rfl ?_ | refine Same.mix rfl ?_),hG,hr1,by omega,hB1,hB2,hB3,by omega,by omega,hA,hC,by omega,by omega,by omega,by omega,hA1,hC1,icu3,icq2,hd.do _⟩
  clear hr hG hA hC hB1 hB2 kD kS
  rintro ⟨b9,x1',x2',d',lo',hi',ok⟩ ρ8 w8 ⟨hG,hr,hs8,hB1,hB2,hB9,hlw8,hhw8,hA,hC,hbl',hlw',hhw',hb2',hA',hC',ic1',ic2',hd'⟩
  have E8':=hr.old
  cases ok
  ·focus
    have szE8':=E8'.size;have szE7:=E7.size;have szEhr3:=Ehr3.size;have szE8:=E8.size;have szE7:=E7.size;have szE6:=E6.size;have szE5:=E5.size;have szE4:=E4.size;have szEhr2:=Ehr2.size;have szEhr1:=Ehr1.size
    have szE1:=E1.size;have szE0:=E0.size;refine W_seq ?_;refine W_region rfl ?_;refine Wo rfl (opv_move (v:=.bool _) rfl) ?_;refine Wo_nil ?_;refine W_cond_false rfl ?_;refine W_skip ?_;refine W_region rfl ?_
    refine Wo rfl (opv_move (v:=.int _ _) rfl) ?_;refine Wo rfl (opv_sub rfl rfl (by omega)) ?_;refine Wo rfl (opv_assign (v:=.int _ _) rfl) ?_;refine Wo_nil ?_
   refine ⟨(k - 1,v1,v2,d,lo,hi),⟨congrArg (Value.int .i64) (show (k:Int) - 1=((k - 1:Nat):Int) by omega),trivial⟩,by repeat (first | with_reducible exact Same.refl | refine Same.upd rfl ?_ | refine Same.upds rfl ?_ | refine Same.mix rfl ?_),?_,by simp only;omega⟩
   exact ⟨hG,by first | exact hr1.le (by omega) | exact hr.le (by omega),by omega,by omega,hB1,hB2,hbl,by omega,by omega,hb2,hA,hC,ic1,ic2,hd⟩
  ·focus
    have szE8':=E8'.size;have szE7:=E7.size;have szEhr3:=Ehr3.size;have szE8:=E8.size;have szE7:=E7.size;have szE6:=E6.size;have szE5:=E5.size;have szE4:=E4.size;have szEhr2:=Ehr2.size;have szEhr1:=Ehr1.size
    have szE1:=E1.size;have szE0:=E0.size;refine W_seq ?_;refine W_region rfl ?_;refine Wo rfl (opv_move (v:=.bool _) rfl) ?_;refine Wo_nil ?_;refine W_cond_true rfl ?_;refine W_region rfl ?_
    refine Wo (v:=.agg _) rfl (opv_load2 Tryd.isAgg53 Tryd.sizeOf53 rfl hB9) ?_;refine Wo_st2 rfl Tryd.sizeOf53 rfl rfl (by first | rfl | assumption) (by first | rfl | assumption) hB2 (by omega) E8' ?_;rintro w9 E10 hB2 K2 hz2
    have hG:=grownBy_wrote hG E8' E10 K2 hz2 (by first | exact .inr rfl | omega);have hr:=hr.wrote E10 (K2 _ (by omega)) hz2;have hB1:=hB1.of_heap (K2 _ (by omega));have hA:=hA.wrote K2 (by omega)
    have hC:=hC.wrote K2 (by omega);have hA':=hA'.wrote K2 (by omega);have hC':=hC'.wrote K2 (by omega);refine Wo_nil ?_;refine W_region rfl ?_;refine Wo rfl (opv_move (v:=.int _ _) rfl) ?_
    refine Wo rfl (opv_sub rfl rfl (by omega)) ?_;refine Wo rfl (opv_assign (v:=.int _ _) rfl) ?_;refine Wo_nil ?_
   refine ⟨(k - 1,x1',x2',d',lo',hi'),⟨congrArg (Value.int .i64) (show (k:Int) - 1=((k - 1:Nat):Int) by omega),trivial⟩,by repeat (first | with_reducible exact Same.refl | refine Same.upd rfl ?_ | refine Same.upds rfl ?_ | refine Same.mix rfl ?_),?_,by simp only;omega⟩
   exact ⟨hG,by first | exact hr1.le (by omega) | exact hr.le (by omega),by omega,by omega,hB1,hB2,hbl',by omega,by omega,.inr hb2',hA',hC',ic1',ic2',hd'⟩
 ·focus
   have szE7:=E7.size;have szEhr3:=Ehr3.size;have szE8:=E8.size;have szE7:=E7.size;have szE6:=E6.size;have szE5:=E5.size;have szE4:=E4.size;have szEhr2:=Ehr2.size;have szEhr1:=Ehr1.size;have szE1:=E1.size
   have szE0:=E0.size;refine W_seq ?_;refine W_seq ?_;refine W_region rfl ?_;refine Wo rfl (opv_move (v:=.int _ _) rfl) ?_;refine Wo rfl (opv_gtr rfl rfl) ?_;refine Wo_nil ?_
   refine W_cond_dec rfl (fun h1=>?_) (fun h1=>?_);(exfalso;omega);refine W_exit ?_;refine exitX_same ?_;refine W_seq ?_;refine W_seq ?_;refine W_region rfl ?_;refine Wo rfl (opv_move (v:=.pointer _) rfl) ?_
   refine Wo rfl (opv_move (v:=.int _ _) rfl) ?_;refine Wo_call rfl (opc2 (a:=.pointer _) (b:=.int _ _) Tryd.call57 rfl rfl) (odd0_ok _ _) ?_;rintro _ w8 ⟨rfl,E10⟩;have hG:=grownBy_ext hG E10;have hr:=hr.ext E10
   have hs7:=E10.size;refine Wo_nil ?_;refine W_cond_false rfl ?_;refine W_skip ?_;refine W_seq ?_;refine W_region rfl ?_;refine Wo (v:=.agg _) rfl (opv_load2 Tryd.isAgg53 Tryd.sizeOf53 rfl (hB2.ext E10)) ?_
   refine Wo_st2 rfl Tryd.sizeOf53 rfl rfl (by first | rfl | assumption) (by first | rfl | assumption) (hB1.ext E10) (by omega) (E7.trans E10) ?_;rintro w9 E11 hB1 K2 hz2;have hB2:=(hB2.ext E10).of_heap (K2 _ (by omega))
   have hA:=(hA.ext E10).wrote K2 (by omega);have hC:=(hC.ext E10).wrote K2 (by omega);have hG:=grownBy_wrote hG (E7.trans E10) E11 K2 hz2 (by first | exact .inr rfl | omega);have hr:=hr.wrote E11 (K2 _ (by omega)) hz2
   refine Wo_nil ?_;refine W_ret ?_
  exact ⟨b1,v1,v2,rfl,hB1,v1,v2,_,_,rfl,hG,hr.le (by omega),hA.above.mono (by omega),hC.above.mono (by omega),ic1,ic2,by omega,hd⟩
theorem impl_deedText_ok (w:World) (k n:Int) (t:List UInt8) (hM:EMx gMx w (.bool true) ()) (ht:t.length≤1048576) :
  Does Tryd.prog 44 [.agg #[.int .i64 k,str t,.int .i64 n]] w (Ret w (str (dtV ⟨k,t,n⟩))):=by
 obtain ⟨B,hB⟩ : ∃ B,B=(rdP t).isSome:=⟨_,rfl⟩
 have k1 : ∀ w,EMx gMx w (.bool true) ()→Does Tryd.prog 73 [str t] w (RetOB w XR ((rdP t).getD []) B):=fun w hM=>hB ▸ readPicture_ok w t hM ht
 have k2 : ∀ w,0≤n→n≤9→Does Tryd.prog 72 [.int .i64 n] w (Ret w (str [dig n.toNat])):=fun w h h'=>by
  obtain ⟨d,rfl⟩:=Int.eq_ofNat_of_zero_le h
  exact Itoa_ok w d (by omega)
 refine fn_of_W1 Tryd.func44 rfl Tryd.results44 Tryd.ntmps44 rfl ?_
 focus
  refine W_seq ?_;refine W_region rfl ?_;refine Wo_box rfl rfl rfl ?_;rintro b1 w1 hb1 E1 hB1;have hlb1:=hB1.lt;have hs1:=E1.size;refine Wo rfl (opv_assign (v:=.string _) rfl) ?_;refine Wo_nil ?_;refine W_seq ?_
  refine W_block ?_;refine W_seq ?_;refine W_region rfl ?_;refine Wo rfl (opv_fieldAddr Tryd.underlying26 rfl rfl Tryd.sizeOf3 rfl) ?_;refine Wo (v:=.int _ _) rfl (opv_load Tryd.isAgg3 rfl (hB1.cell rfl)) ?_
  refine Wo rfl (opv_eql rfl rfl) ?_;refine Wo_split_dec rfl (opv_move (v:=.bool _) rfl) (fun h1=>?_) (fun h1=>?_);refine Wo rfl (opv_fieldAddr Tryd.underlying26 rfl rfl Tryd.sizeOf9 rfl) ?_
  refine Wo (v:=.string _) rfl (opv_load Tryd.isAgg9 rfl (hB1.cell rfl)) ?_;refine Wo rfl (opv_eql_str rfl rfl) ?_;refine Wo rfl (opv_pick_t (v:=.bool _) rfl rfl) ?_
  refine Wo_split_dec rfl (opv_move (v:=.bool _) rfl) (fun h2=>?_) (fun h2=>?_);refine Wo rfl (opv_fieldAddr Tryd.underlying26 rfl rfl Tryd.sizeOf3 rfl) ?_
  refine Wo (v:=.int _ _) rfl (opv_load Tryd.isAgg3 rfl (hB1.cell rfl)) ?_;refine Wo rfl (opv_eql rfl rfl) ?_;refine Wo rfl (opv_pick_t (v:=.bool _) rfl rfl) ?_;refine Wo rfl (opv_assign (v:=.bool _) rfl) ?_;refine Wo_nil ?_
  refine W_cond_dec rfl (fun h3=>?_) (fun h3=>?_);refine W_seq ?_;refine W_region rfl ?_;refine Wo rfl (opv_assign (v:=.string _) rfl) ?_;refine Wo_nil ?_;refine W_ret ?_;refine at_ret (v:=.string _) rfl ?_
  refine ⟨congrArg str ?_,E1⟩;rotate_left;refine W_seq ?_;refine W_region rfl ?_;refine Wo rfl (opv_fieldAddr Tryd.underlying26 rfl rfl Tryd.sizeOf3 rfl) ?_
  refine Wo (v:=.int _ _) rfl (opv_load Tryd.isAgg3 rfl (hB1.cell rfl)) ?_;refine Wo rfl (opv_eql rfl rfl) ?_;refine Wo_split_dec rfl (opv_move (v:=.bool _) rfl) (fun h4=>?_) (fun h4=>?_);(exfalso;omega)
  refine Wo_skip rfl ?_;refine Wo_skip rfl ?_;refine Wo_skip rfl ?_;refine Wo rfl (opv_pick_f (v:=.bool _) rfl rfl) ?_;refine Wo rfl (opv_move (v:=.bool _) rfl) ?_;refine Wo_skip rfl ?_;refine Wo_skip rfl ?_
  refine Wo_skip rfl ?_;refine Wo rfl (opv_pick_f (v:=.bool _) rfl rfl) ?_;refine Wo rfl (opv_assign (v:=.bool _) rfl) ?_;refine Wo_nil ?_;refine W_cond_false rfl ?_;refine W_seq ?_;refine W_region rfl ?_
  refine Wo rfl (opv_fieldAddr Tryd.underlying26 rfl rfl Tryd.sizeOf3 rfl) ?_;refine Wo (v:=.int _ _) rfl (opv_load Tryd.isAgg3 rfl (hB1.cell rfl)) ?_;refine Wo rfl (opv_eql rfl rfl) ?_
  refine Wo_split_dec rfl (opv_move (v:=.bool _) rfl) (fun h5=>?_) (fun h5=>?_);(exfalso;omega);refine Wo_skip rfl ?_;refine Wo_skip rfl ?_;refine Wo_skip rfl ?_;refine Wo rfl (opv_pick_f (v:=.bool _) rfl rfl) ?_
  refine Wo rfl (opv_move (v:=.bool _) rfl) ?_;refine Wo_skip rfl ?_;refine Wo_skip rfl ?_;refine Wo_skip rfl ?_;refine Wo rfl (opv_pick_f (v:=.bool _) rfl rfl) ?_;refine Wo rfl (opv_move (v:=.bool _) rfl) ?_
  refine Wo_skip rfl ?_;refine Wo_skip rfl ?_;refine Wo_skip rfl ?_;refine Wo rfl (opv_pick_f (v:=.bool _) rfl rfl) ?_;refine Wo rfl (opv_assign (v:=.bool _) rfl) ?_;refine Wo_nil ?_;refine W_cond_false rfl ?_
  refine W_skip ?_;refine W_seq ?_;refine W_seq ?_;refine W_region rfl ?_;refine Wo rfl (opv_fieldAddr Tryd.underlying26 rfl rfl Tryd.sizeOf9 rfl) ?_;refine Wo (v:=.string _) rfl (opv_load Tryd.isAgg9 rfl (hB1.cell rfl)) ?_
  refine Wo_call rfl (opc1 (a:=.string _) Tryd.call73 rfl) (k1 _ ((Mono.mono E1 hM))) ?_;rintro _ w2 ⟨u1,rfl,E2,hO1⟩;have hs2:=E2.size;refine Wo rfl (opv_move (v:=.tuple _) rfl) ?_
  refine Wo rfl (opv_extract (v:=u1) rfl rfl) ?_;refine Wo rfl (opv_extract (v:=.bool _) rfl rfl) ?_;refine Wo rfl (opv_assign (v:=u1) rfl) ?_;refine Wo rfl (opv_assign (v:=.bool _) rfl) ?_;refine Wo_nil ?_
  refine W_seq ?_;refine W_region rfl ?_;refine Wo rfl (opv_move (v:=.bool _) rfl) ?_;refine Wo rfl (opv_not rfl) ?_;refine Wo_split rfl (opv_move (v:=.bool _) rfl) (fun h6=>?_) (fun h6=>?_);refine Wo_skip rfl ?_
  refine Wo_skip rfl ?_;refine Wo_skip rfl ?_;refine Wo rfl (opv_pick_t (v:=.bool _) rfl rfl) ?_;refine Wo_nil ?_;refine W_cond_true rfl ?_;refine W_seq ?_;refine W_region rfl ?_
  refine Wo rfl (opv_assign (v:=.string _) rfl) ?_;refine Wo_nil ?_;refine W_ret ?_;refine at_ret (v:=.string _) rfl ?_;refine ⟨congrArg str ?_,(E1.trans E2)⟩;rotate_left
  refine Wo rfl (opv_fieldAddr Tryd.underlying26 rfl rfl Tryd.sizeOf3 rfl) ?_;refine Wo (v:=.int _ _) rfl (opv_load Tryd.isAgg3 rfl ((hB1.ext E2).cell rfl)) ?_;refine Wo rfl (opv_neq rfl rfl) ?_
  refine Wo rfl (opv_pick_f (v:=.bool _) rfl rfl) ?_;refine Wo_nil ?_;refine W_cond_ndec rfl (fun h7=>?_) (fun h7=>?_);refine W_seq ?_;refine W_region rfl ?_;refine Wo rfl (opv_assign (v:=.string _) rfl) ?_
  refine Wo_nil ?_;refine W_ret ?_;refine at_ret (v:=.string _) rfl ?_;refine ⟨congrArg str ?_,(E1.trans E2)⟩;rotate_left;contradiction;refine Wo_skip rfl ?_;refine Wo_skip rfl ?_;refine Wo_skip rfl ?_
  refine Wo rfl (opv_pick_f (v:=.bool _) rfl rfl) ?_;refine Wo rfl (opv_assign (v:=.bool _) rfl) ?_;refine Wo_nil ?_;refine W_cond_false rfl ?_;refine W_seq ?_;refine W_region rfl ?_
  refine Wo rfl (opv_fieldAddr Tryd.underlying26 rfl rfl Tryd.sizeOf3 rfl) ?_;refine Wo (v:=.int _ _) rfl (opv_load Tryd.isAgg3 rfl (hB1.cell rfl)) ?_;refine Wo rfl (opv_eql rfl rfl) ?_
  refine Wo_split_dec rfl (opv_move (v:=.bool _) rfl) (fun h3=>?_) (fun h3=>?_);(exfalso;omega);refine Wo_skip rfl ?_;refine Wo_skip rfl ?_;refine Wo_skip rfl ?_;refine Wo rfl (opv_pick_f (v:=.bool _) rfl rfl) ?_
  refine Wo rfl (opv_move (v:=.bool _) rfl) ?_;refine Wo_skip rfl ?_;refine Wo_skip rfl ?_;refine Wo_skip rfl ?_;refine Wo rfl (opv_pick_f (v:=.bool _) rfl rfl) ?_;refine Wo rfl (opv_assign (v:=.bool _) rfl) ?_
  refine Wo_nil ?_;refine W_cond_false rfl ?_;refine W_seq ?_;refine W_region rfl ?_;refine Wo rfl (opv_fieldAddr Tryd.underlying26 rfl rfl Tryd.sizeOf3 rfl) ?_
  refine Wo (v:=.int _ _) rfl (opv_load Tryd.isAgg3 rfl (hB1.cell rfl)) ?_;refine Wo rfl (opv_eql rfl rfl) ?_;refine Wo_split_dec rfl (opv_move (v:=.bool _) rfl) (fun h4=>?_) (fun h4=>?_);(exfalso;omega)
  refine Wo_skip rfl ?_;refine Wo_skip rfl ?_;refine Wo_skip rfl ?_;refine Wo rfl (opv_pick_f (v:=.bool _) rfl rfl) ?_;refine Wo rfl (opv_move (v:=.bool _) rfl) ?_;refine Wo_skip rfl ?_;refine Wo_skip rfl ?_
  refine Wo_skip rfl ?_;refine Wo rfl (opv_pick_f (v:=.bool _) rfl rfl) ?_;refine Wo rfl (opv_move (v:=.bool _) rfl) ?_;refine Wo_skip rfl ?_;refine Wo_skip rfl ?_;refine Wo_skip rfl ?_
  refine Wo rfl (opv_pick_f (v:=.bool _) rfl rfl) ?_;refine Wo rfl (opv_assign (v:=.bool _) rfl) ?_;refine Wo_nil ?_;refine W_cond_false rfl ?_;refine W_skip ?_;refine W_seq ?_;refine W_seq ?_;refine W_region rfl ?_
  refine Wo rfl (opv_fieldAddr Tryd.underlying26 rfl rfl Tryd.sizeOf9 rfl) ?_;refine Wo (v:=.string _) rfl (opv_load Tryd.isAgg9 rfl (hB1.cell rfl)) ?_
  refine Wo_call rfl (opc1 (a:=.string _) Tryd.call73 rfl) (k1 _ ((Mono.mono E1 hM))) ?_;rintro _ w2 ⟨u1,rfl,E2,hO1⟩;have hs2:=E2.size;refine Wo rfl (opv_move (v:=.tuple _) rfl) ?_
  refine Wo rfl (opv_extract (v:=u1) rfl rfl) ?_;refine Wo rfl (opv_extract (v:=.bool _) rfl rfl) ?_;refine Wo rfl (opv_assign (v:=u1) rfl) ?_;refine Wo rfl (opv_assign (v:=.bool _) rfl) ?_;refine Wo_nil ?_
  refine W_seq ?_;refine W_region rfl ?_;refine Wo rfl (opv_move (v:=.bool _) rfl) ?_;refine Wo rfl (opv_not rfl) ?_;refine Wo_split rfl (opv_move (v:=.bool _) rfl) (fun h5=>?_) (fun h5=>?_);refine Wo_skip rfl ?_
  refine Wo_skip rfl ?_;refine Wo_skip rfl ?_;refine Wo rfl (opv_pick_t (v:=.bool _) rfl rfl) ?_;refine Wo_nil ?_;refine W_cond_true rfl ?_;refine W_seq ?_;refine W_region rfl ?_
  refine Wo rfl (opv_assign (v:=.string _) rfl) ?_;refine Wo_nil ?_;refine W_ret ?_;refine at_ret (v:=.string _) rfl ?_;refine ⟨congrArg str ?_,(E1.trans E2)⟩;rotate_left
  refine Wo rfl (opv_fieldAddr Tryd.underlying26 rfl rfl Tryd.sizeOf3 rfl) ?_;refine Wo (v:=.int _ _) rfl (opv_load Tryd.isAgg3 rfl ((hB1.ext E2).cell rfl)) ?_;refine Wo rfl (opv_neq rfl rfl) ?_
  refine Wo rfl (opv_pick_f (v:=.bool _) rfl rfl) ?_;refine Wo_nil ?_;refine W_cond_ndec rfl (fun h6=>?_) (fun h6=>?_);refine W_seq ?_;refine W_region rfl ?_;refine Wo rfl (opv_assign (v:=.string _) rfl) ?_
  refine Wo_nil ?_;refine W_ret ?_;refine at_ret (v:=.string _) rfl ?_;refine ⟨congrArg str ?_,(E1.trans E2)⟩;rotate_left;refine W_skip ?_;refine W_seq ?_;refine W_seq ?_;refine W_region rfl ?_
  refine Wo rfl (opv_fieldAddr Tryd.underlying26 rfl rfl Tryd.sizeOf3 rfl) ?_;refine Wo (v:=.int _ _) rfl (opv_load Tryd.isAgg3 rfl ((hB1.ext E2).cell rfl)) ?_;refine Wo_nil ?_;refine W_block ?_;refine W_seq ?_
  refine W_region rfl ?_;refine Wo rfl (opv_eql rfl rfl) ?_;refine Wo rfl (opv_assign (v:=.bool _) rfl) ?_;refine Wo_nil ?_;refine W_cond_dec rfl (fun h7=>?_) (fun h7=>?_);(exfalso;omega);refine W_seq ?_
  refine W_region rfl ?_;refine Wo rfl (opv_eql rfl rfl) ?_;refine Wo rfl (opv_assign (v:=.bool _) rfl) ?_;refine Wo_nil ?_;refine W_cond_dec rfl (fun h8=>?_) (fun h8=>?_);(exfalso;omega);refine W_skip ?_;refine W_seq ?_
  refine W_region rfl ?_;refine Wo rfl (opv_assign (v:=.string _) rfl) ?_;refine Wo_nil ?_;refine W_ret ?_;refine at_ret (v:=.string _) rfl ?_;refine ⟨congrArg str ?_,(E1.trans E2)⟩;rotate_left;refine Wo_skip rfl ?_
  refine Wo_skip rfl ?_;refine Wo_skip rfl ?_;refine Wo rfl (opv_pick_f (v:=.bool _) rfl rfl) ?_;refine Wo rfl (opv_move (v:=.bool _) rfl) ?_;refine Wo_skip rfl ?_;refine Wo_skip rfl ?_;refine Wo_skip rfl ?_
  refine Wo rfl (opv_pick_f (v:=.bool _) rfl rfl) ?_;refine Wo rfl (opv_assign (v:=.bool _) rfl) ?_;refine Wo_nil ?_;refine W_cond_false rfl ?_;refine W_seq ?_;refine W_region rfl ?_
  refine Wo rfl (opv_fieldAddr Tryd.underlying26 rfl rfl Tryd.sizeOf3 rfl) ?_;refine Wo (v:=.int _ _) rfl (opv_load Tryd.isAgg3 rfl (hB1.cell rfl)) ?_;refine Wo rfl (opv_eql rfl rfl) ?_
  refine Wo_split_dec rfl (opv_move (v:=.bool _) rfl) (fun h2=>?_) (fun h2=>?_);refine Wo rfl (opv_fieldAddr Tryd.underlying26 rfl rfl Tryd.sizeOf9 rfl) ?_
  refine Wo (v:=.string _) rfl (opv_load Tryd.isAgg9 rfl (hB1.cell rfl)) ?_;refine Wo rfl (opv_eql_str rfl rfl) ?_;refine Wo rfl (opv_pick_t (v:=.bool _) rfl rfl) ?_
  refine Wo_split_dec rfl (opv_move (v:=.bool _) rfl) (fun h3=>?_) (fun h3=>?_);refine Wo rfl (opv_fieldAddr Tryd.underlying26 rfl rfl Tryd.sizeOf3 rfl) ?_
  refine Wo (v:=.int _ _) rfl (opv_load Tryd.isAgg3 rfl (hB1.cell rfl)) ?_;refine Wo rfl (opv_eql rfl rfl) ?_;refine Wo rfl (opv_pick_t (v:=.bool _) rfl rfl) ?_;refine Wo rfl (opv_assign (v:=.bool _) rfl) ?_;refine Wo_nil ?_
  refine W_cond_dec rfl (fun h4=>?_) (fun h4=>?_);refine W_seq ?_;refine W_region rfl ?_;refine Wo rfl (opv_assign (v:=.string _) rfl) ?_;refine Wo_nil ?_;refine W_ret ?_;refine at_ret (v:=.string _) rfl ?_
  refine ⟨congrArg str ?_,E1⟩;rotate_left;refine W_seq ?_;refine W_region rfl ?_;refine Wo rfl (opv_fieldAddr Tryd.underlying26 rfl rfl Tryd.sizeOf3 rfl) ?_
  refine Wo (v:=.int _ _) rfl (opv_load Tryd.isAgg3 rfl (hB1.cell rfl)) ?_;refine Wo rfl (opv_eql rfl rfl) ?_;refine Wo_split_dec rfl (opv_move (v:=.bool _) rfl) (fun h5=>?_) (fun h5=>?_);(exfalso;omega)
  refine Wo_skip rfl ?_;refine Wo_skip rfl ?_;refine Wo_skip rfl ?_;refine Wo rfl (opv_pick_f (v:=.bool _) rfl rfl) ?_;refine Wo rfl (opv_move (v:=.bool _) rfl) ?_;refine Wo_skip rfl ?_;refine Wo_skip rfl ?_
  refine Wo_skip rfl ?_;refine Wo rfl (opv_pick_f (v:=.bool _) rfl rfl) ?_;refine Wo rfl (opv_move (v:=.bool _) rfl) ?_;refine Wo_skip rfl ?_;refine Wo_skip rfl ?_;refine Wo_skip rfl ?_
  refine Wo rfl (opv_pick_f (v:=.bool _) rfl rfl) ?_;refine Wo rfl (opv_assign (v:=.bool _) rfl) ?_;refine Wo_nil ?_;refine W_cond_false rfl ?_;refine W_skip ?_;refine W_seq ?_;refine W_seq ?_;refine W_region rfl ?_
  refine Wo rfl (opv_fieldAddr Tryd.underlying26 rfl rfl Tryd.sizeOf9 rfl) ?_;refine Wo (v:=.string _) rfl (opv_load Tryd.isAgg9 rfl (hB1.cell rfl)) ?_
  refine Wo_call rfl (opc1 (a:=.string _) Tryd.call73 rfl) (k1 _ ((Mono.mono E1 hM))) ?_;rintro _ w2 ⟨u1,rfl,E2,hO1⟩;have hs2:=E2.size;refine Wo rfl (opv_move (v:=.tuple _) rfl) ?_
  refine Wo rfl (opv_extract (v:=u1) rfl rfl) ?_;refine Wo rfl (opv_extract (v:=.bool _) rfl rfl) ?_;refine Wo rfl (opv_assign (v:=u1) rfl) ?_;refine Wo rfl (opv_assign (v:=.bool _) rfl) ?_;refine Wo_nil ?_
  refine W_seq ?_;refine W_region rfl ?_;refine Wo rfl (opv_move (v:=.bool _) rfl) ?_;refine Wo rfl (opv_not rfl) ?_;refine Wo_split rfl (opv_move (v:=.bool _) rfl) (fun h6=>?_) (fun h6=>?_);refine Wo_skip rfl ?_
  refine Wo_skip rfl ?_;refine Wo_skip rfl ?_;refine Wo rfl (opv_pick_t (v:=.bool _) rfl rfl) ?_;refine Wo_nil ?_;refine W_cond_true rfl ?_;refine W_seq ?_;refine W_region rfl ?_
  refine Wo rfl (opv_assign (v:=.string _) rfl) ?_;refine Wo_nil ?_;refine W_ret ?_;refine at_ret (v:=.string _) rfl ?_;refine ⟨congrArg str ?_,(E1.trans E2)⟩;rotate_left
  refine Wo rfl (opv_fieldAddr Tryd.underlying26 rfl rfl Tryd.sizeOf3 rfl) ?_;refine Wo (v:=.int _ _) rfl (opv_load Tryd.isAgg3 rfl ((hB1.ext E2).cell rfl)) ?_;refine Wo rfl (opv_neq rfl rfl) ?_
  refine Wo rfl (opv_pick_f (v:=.bool _) rfl rfl) ?_;refine Wo_nil ?_;refine W_cond_ndec rfl (fun h7=>?_) (fun h7=>?_);refine W_seq ?_;refine W_region rfl ?_;refine Wo rfl (opv_assign (v:=.string _) rfl) ?_
  refine Wo_nil ?_;refine W_ret ?_;refine at_ret (v:=.string _) rfl ?_;refine ⟨congrArg str ?_,(E1.trans E2)⟩;rotate_left;contradiction;refine Wo_skip rfl ?_;refine Wo_skip rfl ?_;refine Wo_skip rfl ?_
  refine Wo rfl (opv_pick_f (v:=.bool _) rfl rfl) ?_;refine Wo rfl (opv_assign (v:=.bool _) rfl) ?_;refine Wo_nil ?_;refine W_cond_false rfl ?_;refine W_seq ?_;refine W_region rfl ?_
  refine Wo rfl (opv_fieldAddr Tryd.underlying26 rfl rfl Tryd.sizeOf3 rfl) ?_;refine Wo (v:=.int _ _) rfl (opv_load Tryd.isAgg3 rfl (hB1.cell rfl)) ?_;refine Wo rfl (opv_eql rfl rfl) ?_
  refine Wo_split_dec rfl (opv_move (v:=.bool _) rfl) (fun h4=>?_) (fun h4=>?_);(exfalso;omega);refine Wo_skip rfl ?_;refine Wo_skip rfl ?_;refine Wo_skip rfl ?_;refine Wo rfl (opv_pick_f (v:=.bool _) rfl rfl) ?_
  refine Wo rfl (opv_move (v:=.bool _) rfl) ?_;refine Wo_skip rfl ?_;refine Wo_skip rfl ?_;refine Wo_skip rfl ?_;refine Wo rfl (opv_pick_f (v:=.bool _) rfl rfl) ?_;refine Wo rfl (opv_move (v:=.bool _) rfl) ?_
  refine Wo_skip rfl ?_;refine Wo_skip rfl ?_;refine Wo_skip rfl ?_;refine Wo rfl (opv_pick_f (v:=.bool _) rfl rfl) ?_;refine Wo rfl (opv_assign (v:=.bool _) rfl) ?_;refine Wo_nil ?_;refine W_cond_false rfl ?_
  refine W_skip ?_;refine W_seq ?_;refine W_seq ?_;refine W_region rfl ?_;refine Wo rfl (opv_fieldAddr Tryd.underlying26 rfl rfl Tryd.sizeOf9 rfl) ?_;refine Wo (v:=.string _) rfl (opv_load Tryd.isAgg9 rfl (hB1.cell rfl)) ?_
  refine Wo_call rfl (opc1 (a:=.string _) Tryd.call73 rfl) (k1 _ ((Mono.mono E1 hM))) ?_;rintro _ w2 ⟨u1,rfl,E2,hO1⟩;have hs2:=E2.size;refine Wo rfl (opv_move (v:=.tuple _) rfl) ?_
  refine Wo rfl (opv_extract (v:=u1) rfl rfl) ?_;refine Wo rfl (opv_extract (v:=.bool _) rfl rfl) ?_;refine Wo rfl (opv_assign (v:=u1) rfl) ?_;refine Wo rfl (opv_assign (v:=.bool _) rfl) ?_;refine Wo_nil ?_
  refine W_seq ?_;refine W_region rfl ?_;refine Wo rfl (opv_move (v:=.bool _) rfl) ?_;refine Wo rfl (opv_not rfl) ?_;refine Wo_split rfl (opv_move (v:=.bool _) rfl) (fun h5=>?_) (fun h5=>?_);refine Wo_skip rfl ?_
  refine Wo_skip rfl ?_;refine Wo_skip rfl ?_;refine Wo rfl (opv_pick_t (v:=.bool _) rfl rfl) ?_;refine Wo_nil ?_;refine W_cond_true rfl ?_;refine W_seq ?_;refine W_region rfl ?_
  refine Wo rfl (opv_assign (v:=.string _) rfl) ?_;refine Wo_nil ?_;refine W_ret ?_;refine at_ret (v:=.string _) rfl ?_;refine ⟨congrArg str ?_,(E1.trans E2)⟩;rotate_left
  refine Wo rfl (opv_fieldAddr Tryd.underlying26 rfl rfl Tryd.sizeOf3 rfl) ?_;refine Wo (v:=.int _ _) rfl (opv_load Tryd.isAgg3 rfl ((hB1.ext E2).cell rfl)) ?_;refine Wo rfl (opv_neq rfl rfl) ?_
  refine Wo rfl (opv_pick_f (v:=.bool _) rfl rfl) ?_;refine Wo_nil ?_;refine W_cond_ndec rfl (fun h6=>?_) (fun h6=>?_);refine W_seq ?_;refine W_region rfl ?_;refine Wo rfl (opv_assign (v:=.string _) rfl) ?_
  refine Wo_nil ?_;refine W_ret ?_;refine at_ret (v:=.string _) rfl ?_;refine ⟨congrArg str ?_,(E1.trans E2)⟩;rotate_left;refine W_skip ?_;refine W_seq ?_;refine W_seq ?_;refine W_region rfl ?_
  refine Wo rfl (opv_fieldAddr Tryd.underlying26 rfl rfl Tryd.sizeOf3 rfl) ?_;refine Wo (v:=.int _ _) rfl (opv_load Tryd.isAgg3 rfl ((hB1.ext E2).cell rfl)) ?_;refine Wo_nil ?_;refine W_block ?_;refine W_seq ?_
  refine W_region rfl ?_;refine Wo rfl (opv_eql rfl rfl) ?_;refine Wo rfl (opv_assign (v:=.bool _) rfl) ?_;refine Wo_nil ?_;refine W_cond_dec rfl (fun h7=>?_) (fun h7=>?_);(exfalso;omega);refine W_seq ?_
  refine W_region rfl ?_;refine Wo rfl (opv_eql rfl rfl) ?_;refine Wo rfl (opv_assign (v:=.bool _) rfl) ?_;refine Wo_nil ?_;refine W_cond_dec rfl (fun h8=>?_) (fun h8=>?_);(exfalso;omega);refine W_skip ?_;refine W_seq ?_
  refine W_region rfl ?_;refine Wo rfl (opv_assign (v:=.string _) rfl) ?_;refine Wo_nil ?_;refine W_ret ?_;refine at_ret (v:=.string _) rfl ?_;refine ⟨congrArg str ?_,(E1.trans E2)⟩;rotate_left;refine Wo_skip rfl ?_
  refine Wo_skip rfl ?_;refine Wo_skip rfl ?_;refine Wo rfl (opv_pick_f (v:=.bool _) rfl rfl) ?_;refine Wo rfl (opv_move (v:=.bool _) rfl) ?_;refine Wo_skip rfl ?_;refine Wo_skip rfl ?_;refine Wo_skip rfl ?_
  refine Wo rfl (opv_pick_f (v:=.bool _) rfl rfl) ?_;refine Wo rfl (opv_assign (v:=.bool _) rfl) ?_;refine Wo_nil ?_;refine W_cond_false rfl ?_;refine W_seq ?_;refine W_region rfl ?_
  refine Wo rfl (opv_fieldAddr Tryd.underlying26 rfl rfl Tryd.sizeOf3 rfl) ?_;refine Wo (v:=.int _ _) rfl (opv_load Tryd.isAgg3 rfl (hB1.cell rfl)) ?_;refine Wo rfl (opv_eql rfl rfl) ?_
  refine Wo_split_dec rfl (opv_move (v:=.bool _) rfl) (fun h3=>?_) (fun h3=>?_);refine Wo rfl (opv_fieldAddr Tryd.underlying26 rfl rfl Tryd.sizeOf9 rfl) ?_
  refine Wo (v:=.string _) rfl (opv_load Tryd.isAgg9 rfl (hB1.cell rfl)) ?_;refine Wo rfl (opv_eql_str rfl rfl) ?_;refine Wo rfl (opv_pick_t (v:=.bool _) rfl rfl) ?_
  refine Wo_split_dec rfl (opv_move (v:=.bool _) rfl) (fun h4=>?_) (fun h4=>?_);refine Wo rfl (opv_fieldAddr Tryd.underlying26 rfl rfl Tryd.sizeOf3 rfl) ?_
  refine Wo (v:=.int _ _) rfl (opv_load Tryd.isAgg3 rfl (hB1.cell rfl)) ?_;refine Wo rfl (opv_geq rfl rfl) ?_;refine Wo rfl (opv_pick_t (v:=.bool _) rfl rfl) ?_
  refine Wo_split_dec rfl (opv_move (v:=.bool _) rfl) (fun h5=>?_) (fun h5=>?_);refine Wo rfl (opv_fieldAddr Tryd.underlying26 rfl rfl Tryd.sizeOf3 rfl) ?_
  refine Wo (v:=.int _ _) rfl (opv_load Tryd.isAgg3 rfl (hB1.cell rfl)) ?_;refine Wo rfl (opv_leq rfl rfl) ?_;refine Wo rfl (opv_pick_t (v:=.bool _) rfl rfl) ?_;refine Wo rfl (opv_assign (v:=.bool _) rfl) ?_;refine Wo_nil ?_
  refine W_cond_dec rfl (fun h6=>?_) (fun h6=>?_);refine W_seq ?_;refine W_region rfl ?_;refine Wo rfl (opv_fieldAddr Tryd.underlying26 rfl rfl Tryd.sizeOf3 rfl) ?_
  refine Wo (v:=.int _ _) rfl (opv_load Tryd.isAgg3 rfl (hB1.cell rfl)) ?_;refine Wo_call rfl (opc1 (a:=.int _ _) Tryd.call72 rfl) (k2 _ (by assumption) (by assumption)) ?_;rintro _ w2 ⟨rfl,E2⟩;have hs2:=E2.size
  refine Wo rfl (opv_add_str rfl rfl (by simp <;> omega)) ?_;refine Wo rfl (opv_assign (v:=.string _) rfl) ?_;refine Wo_nil ?_;refine W_ret ?_;refine at_ret (v:=.string _) rfl ?_;refine ⟨congrArg str ?_,(E1.trans E2)⟩
  rotate_left;refine W_skip ?_;refine W_seq ?_;refine W_seq ?_;refine W_region rfl ?_;refine Wo rfl (opv_fieldAddr Tryd.underlying26 rfl rfl Tryd.sizeOf9 rfl) ?_
  refine Wo (v:=.string _) rfl (opv_load Tryd.isAgg9 rfl (hB1.cell rfl)) ?_;refine Wo_call rfl (opc1 (a:=.string _) Tryd.call73 rfl) (k1 _ ((Mono.mono E1 hM))) ?_;rintro _ w2 ⟨u1,rfl,E2,hO1⟩;have hs2:=E2.size
  refine Wo rfl (opv_move (v:=.tuple _) rfl) ?_;refine Wo rfl (opv_extract (v:=u1) rfl rfl) ?_;refine Wo rfl (opv_extract (v:=.bool _) rfl rfl) ?_;refine Wo rfl (opv_assign (v:=u1) rfl) ?_
  refine Wo rfl (opv_assign (v:=.bool _) rfl) ?_;refine Wo_nil ?_;refine W_seq ?_;refine W_region rfl ?_;refine Wo rfl (opv_move (v:=.bool _) rfl) ?_;refine Wo rfl (opv_not rfl) ?_
  refine Wo_split rfl (opv_move (v:=.bool _) rfl) (fun h7=>?_) (fun h7=>?_);refine Wo_skip rfl ?_;refine Wo_skip rfl ?_;refine Wo_skip rfl ?_;refine Wo rfl (opv_pick_t (v:=.bool _) rfl rfl) ?_;refine Wo_nil ?_
  refine W_cond_true rfl ?_;refine W_seq ?_;refine W_region rfl ?_;refine Wo rfl (opv_assign (v:=.string _) rfl) ?_;refine Wo_nil ?_;refine W_ret ?_;refine at_ret (v:=.string _) rfl ?_
  refine ⟨congrArg str ?_,(E1.trans E2)⟩;rotate_left;refine Wo rfl (opv_fieldAddr Tryd.underlying26 rfl rfl Tryd.sizeOf3 rfl) ?_;refine Wo (v:=.int _ _) rfl (opv_load Tryd.isAgg3 rfl ((hB1.ext E2).cell rfl)) ?_
  refine Wo rfl (opv_neq rfl rfl) ?_;refine Wo rfl (opv_pick_f (v:=.bool _) rfl rfl) ?_;refine Wo_nil ?_;refine W_cond_ndec rfl (fun h8=>?_) (fun h8=>?_);refine W_seq ?_;refine W_region rfl ?_
  refine Wo rfl (opv_assign (v:=.string _) rfl) ?_;refine Wo_nil ?_;refine W_ret ?_;refine at_ret (v:=.string _) rfl ?_;refine ⟨congrArg str ?_,(E1.trans E2)⟩;rotate_left;(exfalso;omega);refine Wo_skip rfl ?_
  refine Wo_skip rfl ?_;refine Wo_skip rfl ?_;refine Wo rfl (opv_pick_f (v:=.bool _) rfl rfl) ?_;refine Wo rfl (opv_assign (v:=.bool _) rfl) ?_;refine Wo_nil ?_;refine W_cond_false rfl ?_;refine W_skip ?_;refine W_seq ?_
  refine W_seq ?_;refine W_region rfl ?_;refine Wo rfl (opv_fieldAddr Tryd.underlying26 rfl rfl Tryd.sizeOf9 rfl) ?_;refine Wo (v:=.string _) rfl (opv_load Tryd.isAgg9 rfl (hB1.cell rfl)) ?_
  refine Wo_call rfl (opc1 (a:=.string _) Tryd.call73 rfl) (k1 _ ((Mono.mono E1 hM))) ?_;rintro _ w2 ⟨u1,rfl,E2,hO1⟩;have hs2:=E2.size;refine Wo rfl (opv_move (v:=.tuple _) rfl) ?_
  refine Wo rfl (opv_extract (v:=u1) rfl rfl) ?_;refine Wo rfl (opv_extract (v:=.bool _) rfl rfl) ?_;refine Wo rfl (opv_assign (v:=u1) rfl) ?_;refine Wo rfl (opv_assign (v:=.bool _) rfl) ?_;refine Wo_nil ?_
  refine W_seq ?_;refine W_region rfl ?_;refine Wo rfl (opv_move (v:=.bool _) rfl) ?_;refine Wo rfl (opv_not rfl) ?_;refine Wo_split rfl (opv_move (v:=.bool _) rfl) (fun h6=>?_) (fun h6=>?_);refine Wo_skip rfl ?_
  refine Wo_skip rfl ?_;refine Wo_skip rfl ?_;refine Wo rfl (opv_pick_t (v:=.bool _) rfl rfl) ?_;refine Wo_nil ?_;refine W_cond_true rfl ?_;refine W_seq ?_;refine W_region rfl ?_
  refine Wo rfl (opv_assign (v:=.string _) rfl) ?_;refine Wo_nil ?_;refine W_ret ?_;refine at_ret (v:=.string _) rfl ?_;refine ⟨congrArg str ?_,(E1.trans E2)⟩;rotate_left
  refine Wo rfl (opv_fieldAddr Tryd.underlying26 rfl rfl Tryd.sizeOf3 rfl) ?_;refine Wo (v:=.int _ _) rfl (opv_load Tryd.isAgg3 rfl ((hB1.ext E2).cell rfl)) ?_;refine Wo rfl (opv_neq rfl rfl) ?_
  refine Wo rfl (opv_pick_f (v:=.bool _) rfl rfl) ?_;refine Wo_nil ?_;refine W_cond_ndec rfl (fun h7=>?_) (fun h7=>?_);refine W_seq ?_;refine W_region rfl ?_;refine Wo rfl (opv_assign (v:=.string _) rfl) ?_
  refine Wo_nil ?_;refine W_ret ?_;refine at_ret (v:=.string _) rfl ?_;refine ⟨congrArg str ?_,(E1.trans E2)⟩;rotate_left;(exfalso;omega);refine Wo_skip rfl ?_;refine Wo_skip rfl ?_;refine Wo_skip rfl ?_
  refine Wo rfl (opv_pick_f (v:=.bool _) rfl rfl) ?_;refine Wo rfl (opv_move (v:=.bool _) rfl) ?_;refine Wo_skip rfl ?_;refine Wo_skip rfl ?_;refine Wo_skip rfl ?_;refine Wo rfl (opv_pick_f (v:=.bool _) rfl rfl) ?_
  refine Wo rfl (opv_assign (v:=.bool _) rfl) ?_;refine Wo_nil ?_;refine W_cond_false rfl ?_;refine W_skip ?_;refine W_seq ?_;refine W_seq ?_;refine W_region rfl ?_
  refine Wo rfl (opv_fieldAddr Tryd.underlying26 rfl rfl Tryd.sizeOf9 rfl) ?_;refine Wo (v:=.string _) rfl (opv_load Tryd.isAgg9 rfl (hB1.cell rfl)) ?_
  refine Wo_call rfl (opc1 (a:=.string _) Tryd.call73 rfl) (k1 _ ((Mono.mono E1 hM))) ?_;rintro _ w2 ⟨u1,rfl,E2,hO1⟩;have hs2:=E2.size;refine Wo rfl (opv_move (v:=.tuple _) rfl) ?_
  refine Wo rfl (opv_extract (v:=u1) rfl rfl) ?_;refine Wo rfl (opv_extract (v:=.bool _) rfl rfl) ?_;refine Wo rfl (opv_assign (v:=u1) rfl) ?_;refine Wo rfl (opv_assign (v:=.bool _) rfl) ?_;refine Wo_nil ?_
  refine W_seq ?_;refine W_region rfl ?_;refine Wo rfl (opv_move (v:=.bool _) rfl) ?_;refine Wo rfl (opv_not rfl) ?_;refine Wo_split rfl (opv_move (v:=.bool _) rfl) (fun h5=>?_) (fun h5=>?_);refine Wo_skip rfl ?_
  refine Wo_skip rfl ?_;refine Wo_skip rfl ?_;refine Wo rfl (opv_pick_t (v:=.bool _) rfl rfl) ?_;refine Wo_nil ?_;refine W_cond_true rfl ?_;refine W_seq ?_;refine W_region rfl ?_
  refine Wo rfl (opv_assign (v:=.string _) rfl) ?_;refine Wo_nil ?_;refine W_ret ?_;refine at_ret (v:=.string _) rfl ?_;refine ⟨congrArg str ?_,(E1.trans E2)⟩;rotate_left
  refine Wo rfl (opv_fieldAddr Tryd.underlying26 rfl rfl Tryd.sizeOf3 rfl) ?_;refine Wo (v:=.int _ _) rfl (opv_load Tryd.isAgg3 rfl ((hB1.ext E2).cell rfl)) ?_;refine Wo rfl (opv_neq rfl rfl) ?_
  refine Wo rfl (opv_pick_f (v:=.bool _) rfl rfl) ?_;refine Wo_nil ?_;refine W_cond_ndec rfl (fun h6=>?_) (fun h6=>?_);refine W_seq ?_;refine W_region rfl ?_;refine Wo rfl (opv_assign (v:=.string _) rfl) ?_
  refine Wo_nil ?_;refine W_ret ?_;refine at_ret (v:=.string _) rfl ?_;refine ⟨congrArg str ?_,(E1.trans E2)⟩;rotate_left;refine W_skip ?_;refine W_seq ?_;refine W_seq ?_;refine W_region rfl ?_
  refine Wo rfl (opv_fieldAddr Tryd.underlying26 rfl rfl Tryd.sizeOf3 rfl) ?_;refine Wo (v:=.int _ _) rfl (opv_load Tryd.isAgg3 rfl ((hB1.ext E2).cell rfl)) ?_;refine Wo_nil ?_;refine W_block ?_;refine W_seq ?_
  refine W_region rfl ?_;refine Wo rfl (opv_eql rfl rfl) ?_;refine Wo rfl (opv_assign (v:=.bool _) rfl) ?_;refine Wo_nil ?_;refine W_cond_dec rfl (fun h7=>?_) (fun h7=>?_);(exfalso;omega);refine W_seq ?_
  refine W_region rfl ?_;refine Wo rfl (opv_eql rfl rfl) ?_;refine Wo rfl (opv_assign (v:=.bool _) rfl) ?_;refine Wo_nil ?_;refine W_cond_dec rfl (fun h8=>?_) (fun h8=>?_);(exfalso;omega);refine W_skip ?_;refine W_seq ?_
  refine W_region rfl ?_;refine Wo rfl (opv_assign (v:=.string _) rfl) ?_;refine Wo_nil ?_;refine W_ret ?_;refine at_ret (v:=.string _) rfl ?_;refine ⟨congrArg str ?_,(E1.trans E2)⟩;rotate_left;refine Wo_skip rfl ?_
  refine Wo_skip rfl ?_;refine Wo_skip rfl ?_;refine Wo rfl (opv_pick_f (v:=.bool _) rfl rfl) ?_;refine Wo rfl (opv_move (v:=.bool _) rfl) ?_;refine Wo_skip rfl ?_;refine Wo_skip rfl ?_;refine Wo_skip rfl ?_
  refine Wo rfl (opv_pick_f (v:=.bool _) rfl rfl) ?_;refine Wo rfl (opv_move (v:=.bool _) rfl) ?_;refine Wo_skip rfl ?_;refine Wo_skip rfl ?_;refine Wo_skip rfl ?_;refine Wo rfl (opv_pick_f (v:=.bool _) rfl rfl) ?_
  refine Wo rfl (opv_assign (v:=.bool _) rfl) ?_;refine Wo_nil ?_;refine W_cond_false rfl ?_;refine W_skip ?_;refine W_seq ?_;refine W_seq ?_;refine W_region rfl ?_
  refine Wo rfl (opv_fieldAddr Tryd.underlying26 rfl rfl Tryd.sizeOf9 rfl) ?_;refine Wo (v:=.string _) rfl (opv_load Tryd.isAgg9 rfl (hB1.cell rfl)) ?_
  refine Wo_call rfl (opc1 (a:=.string _) Tryd.call73 rfl) (k1 _ ((Mono.mono E1 hM))) ?_;rintro _ w2 ⟨u1,rfl,E2,hO1⟩;have hs2:=E2.size;refine Wo rfl (opv_move (v:=.tuple _) rfl) ?_
  refine Wo rfl (opv_extract (v:=u1) rfl rfl) ?_;refine Wo rfl (opv_extract (v:=.bool _) rfl rfl) ?_;refine Wo rfl (opv_assign (v:=u1) rfl) ?_;refine Wo rfl (opv_assign (v:=.bool _) rfl) ?_;refine Wo_nil ?_
  refine W_seq ?_;refine W_region rfl ?_;refine Wo rfl (opv_move (v:=.bool _) rfl) ?_;refine Wo rfl (opv_not rfl) ?_;refine Wo_split rfl (opv_move (v:=.bool _) rfl) (fun h4=>?_) (fun h4=>?_);refine Wo_skip rfl ?_
  refine Wo_skip rfl ?_;refine Wo_skip rfl ?_;refine Wo rfl (opv_pick_t (v:=.bool _) rfl rfl) ?_;refine Wo_nil ?_;refine W_cond_true rfl ?_;refine W_seq ?_;refine W_region rfl ?_
  refine Wo rfl (opv_assign (v:=.string _) rfl) ?_;refine Wo_nil ?_;refine W_ret ?_;refine at_ret (v:=.string _) rfl ?_;refine ⟨congrArg str ?_,(E1.trans E2)⟩;rotate_left
  refine Wo rfl (opv_fieldAddr Tryd.underlying26 rfl rfl Tryd.sizeOf3 rfl) ?_;refine Wo (v:=.int _ _) rfl (opv_load Tryd.isAgg3 rfl ((hB1.ext E2).cell rfl)) ?_;refine Wo rfl (opv_neq rfl rfl) ?_
  refine Wo rfl (opv_pick_f (v:=.bool _) rfl rfl) ?_;refine Wo_nil ?_;refine W_cond_ndec rfl (fun h5=>?_) (fun h5=>?_);refine W_seq ?_;refine W_region rfl ?_;refine Wo rfl (opv_assign (v:=.string _) rfl) ?_
  refine Wo_nil ?_;refine W_ret ?_;refine at_ret (v:=.string _) rfl ?_;refine ⟨congrArg str ?_,(E1.trans E2)⟩;rotate_left;refine W_skip ?_;refine W_seq ?_;refine W_seq ?_;refine W_region rfl ?_
  refine Wo rfl (opv_fieldAddr Tryd.underlying26 rfl rfl Tryd.sizeOf3 rfl) ?_;refine Wo (v:=.int _ _) rfl (opv_load Tryd.isAgg3 rfl ((hB1.ext E2).cell rfl)) ?_;refine Wo_nil ?_;refine W_block ?_;refine W_seq ?_
  refine W_region rfl ?_;refine Wo rfl (opv_eql rfl rfl) ?_;refine Wo rfl (opv_assign (v:=.bool _) rfl) ?_;refine Wo_nil ?_;refine W_cond_dec rfl (fun h6=>?_) (fun h6=>?_);refine W_seq ?_;refine W_region rfl ?_
  refine Wo rfl (opv_fieldAddr Tryd.underlying26 rfl rfl Tryd.sizeOf9 rfl) ?_;refine Wo (v:=.string _) rfl (opv_load Tryd.isAgg9 rfl ((hB1.ext E2).cell rfl)) ?_;refine Wo rfl (opv_add_str rfl rfl (by simp <;> omega)) ?_
  refine Wo rfl (opv_assign (v:=.string _) rfl) ?_;refine Wo_nil ?_;refine W_ret ?_;refine at_ret (v:=.string _) rfl ?_;refine ⟨congrArg str ?_,(E1.trans E2)⟩;rotate_left;refine W_seq ?_;refine W_region rfl ?_
  refine Wo rfl (opv_eql rfl rfl) ?_;refine Wo rfl (opv_assign (v:=.bool _) rfl) ?_;refine Wo_nil ?_;refine W_cond_dec rfl (fun h7=>?_) (fun h7=>?_);refine W_seq ?_;refine W_region rfl ?_
  refine Wo rfl (opv_fieldAddr Tryd.underlying26 rfl rfl Tryd.sizeOf9 rfl) ?_;refine Wo (v:=.string _) rfl (opv_load Tryd.isAgg9 rfl ((hB1.ext E2).cell rfl)) ?_;refine Wo rfl (opv_add_str rfl rfl (by simp <;> omega)) ?_
  refine Wo rfl (opv_assign (v:=.string _) rfl) ?_;refine Wo_nil ?_;refine W_ret ?_;refine at_ret (v:=.string _) rfl ?_;refine ⟨congrArg str ?_,(E1.trans E2)⟩;rotate_left;refine W_skip ?_;refine W_seq ?_
  refine W_region rfl ?_;refine Wo rfl (opv_assign (v:=.string _) rfl) ?_;refine Wo_nil ?_;refine W_ret ?_;refine at_ret (v:=.string _) rfl ?_;refine ⟨congrArg str ?_,(E1.trans E2)⟩;rotate_left
 all_goals (unfold dtV;simp only [Deed.mk.injEq] at *)
 all_goals (try subst hB)
 all_goals try (simp_all [sSingle,sBack,sAdd,sDrop,sInto];done)
 all_goals (repeat' split)
 all_goals first
  | rfl
  | (simp_all [sSingle,sBack,sAdd,sDrop,sInto];done)
  | (exfalso;simp_all;omega)
theorem impl_DeedText_ok (w:World) (k n:Int) (t:List UInt8) (hM:EMx gMx w (.bool true) ()) (ht:t.length≤1048576) :
  Does Tryd.prog 14 [.agg #[.int .i64 k,str t,.int .i64 n]] w (Ret w (str (dtV ⟨k,t,n⟩))):=by
 refine fn_of_W1 Tryd.func14 rfl Tryd.results14 Tryd.ntmps14 rfl ?_
 focus
  refine W_seq ?_;refine W_region rfl ?_;refine Wo_box rfl rfl rfl ?_;rintro b1 w1 hb1 E1 hB1;have hlb1:=hB1.lt;have hs1:=E1.size;refine Wo rfl (opv_assign (v:=.string _) rfl) ?_;refine Wo_nil ?_;refine W_seq ?_
  refine W_region rfl ?_;refine Wo (v:=.agg _) rfl (opv_load3 Tryd.isAgg26 Tryd.sizeOf26 rfl hB1) ?_;refine Wo_call rfl (opc1 (a:=.agg _) Tryd.call44 rfl) (impl_deedText_ok _ _ _ _ ((Mono.mono E1 hM)) (by assumption)) ?_
  rintro _ w2 ⟨rfl,E2⟩;have hs2:=E2.size;refine Wo rfl (opv_assign (v:=.string _) rfl) ?_;refine Wo_nil ?_;refine W_ret ?_;exact ⟨rfl,(E1.trans E2)⟩
end Go.Proofs.YtgphoihilheoeaaDoor
set_option linter.unusedVariables false
set_option linter.unusedSimpArgs false
namespace Go.Hs
open Go.RowKit (Below)
/-- the cells of deeds -/
def dcs (l:List Deed):List Value:=l.flatMap fun a=>[.int .i64 a.kind,str a.text,.int .i64 a.node]
theorem dcs_len (l:List Deed):(dcs l).length=l.length*3:=by
 induction l with
 | nil=>rfl
 | cons a l ih=>simp only [dcs,List.flatMap_cons,List.length_append,List.length_cons,List.length_nil] at ih ⊢;omega
theorem dcs_app (l m:List Deed):dcs (l++m)=dcs l++dcs m:=by simp [dcs]
theorem dcs_at : ∀ (l:List Deed) (i:Nat) (h:i < l.length),(dcs l)[i*3]? = some (.int .i64 l[i].kind)∧(dcs l)[i*3+1]? = some (str l[i].text)∧(dcs l)[i*3+2]? = some (.int .i64 l[i].node)
 | a::l,0,_=>⟨rfl,rfl,rfl⟩
 | a :: l, i + 1, h => by
   have := dcs_at l i (by simpa using h)
   simp only [List.getElem_cons_succ]
   have e : dcs (a :: l) = [.int .i64 a.kind, str a.text, .int .i64 a.node] ++ dcs l := rfl
   have e1 : (i + 1) * 3 = i * 3 + 3 := by omega
   rw [e, e1]
   refine ⟨?_, ?_, ?_⟩
   · rw [List.getElem?_append_right (by simp)]; simpa using this.1
   · rw [List.getElem?_append_right (by simp)]; simpa using this.2.1
   · rw [List.getElem?_append_right (by simp)]; simpa using this.2.2
theorem dcs_one {l:List Deed} {u:Value} (h:u ∈ dcs l):isCell u=true:=by
 obtain ⟨a,_,h⟩:=List.mem_flatMap.1 h
 simp only [List.mem_cons,List.not_mem_nil,or_false] at h
 rcases h with rfl | rfl | rfl <;> rfl
/-- a slice of deeds of the call's own, its block from lo on -/
def OD (e:TypeId) (lo:Nat) (w:World) (v:Value) (l:List Deed):Prop:=w.ownsRow lo e 3 v l.length (dcs l)∧∀ a ∈ l,a.text.length≤9223372036854775807
section
variable {e:TypeId} {lo:Nat} {w w' w0:World} {v:Value} {l m:List Deed}
theorem OD.ext (h:OD e lo w v l) (k:Ext w w'):OD e lo w' v l :=
 ⟨h.1.kept (row:=none) ⟨k.os,k.tape,k.output,k.size,fun i hi _=>k.block i hi⟩ (by cases hv:v.ownBlock <;> simp),h.2⟩
instance:Mono (OD e lo):=⟨fun k h=>h.ext k⟩
theorem OD.nil:OD e lo w (.slice none 0 0) []:=⟨World.ownsRow_nil w lo e 3,fun a h=>by cases h⟩
theorem OD.lt (h:OD e lo w v l) {k:Nat} (hk:v.ownBlock=some k):lo≤k∧k < w.heap.size:=h.1.lt k hk
theorem OD.read (h:OD e lo w v l):ESD w v l:=by
 have hA:=h.1.2
 rcases hA with ⟨rfl,h0⟩ | ⟨g,cap,cur,rfl,hb,hg,hnc,hcm,hcs,ht⟩
 ·have:l=[]:=List.eq_nil_of_length_eq_zero h0
  subst this
  exact ⟨none,0,rfl,by simp,.inl rfl⟩
 ·refine ⟨_,_,rfl,by unfold maxLen at hcm;omega,.inr ⟨g,0,rfl,fun i hi=>?_⟩⟩
  obtain ⟨h1,h2,h3⟩:=dcs_at l i hi
  have c0:=h.1.cellAt (i*3) (by omega)
  have c1:=h.1.cellAt (i*3+1) (by omega)
  have c2:=h.1.cellAt (i*3+2) (by omega)
  rw [Nat.zero_add]
  exact ⟨c0.trans h1,c1.trans h2,c2.trans h3,h.2 _ (List.getElem_mem hi)⟩
theorem OD.blk {b n:Nat} (hb:w.heap[b]? = some (.cells (dcs l).toArray e (0,0))) (hl:lo≤b) (hn:l.length=n) (hm:n≤maxLen) (hx : ∀ a ∈ l,a.text.length≤9223372036854775807):OD e lo w (.slice (some ⟨b,0,none⟩) n n) l:=by
 subst hn
 exact ⟨⟨dcs_len l,.inr ⟨b,l.length,(dcs l).toArray,rfl,hl,hb,Nat.le_refl _,hm,by simp [dcs_len],by rw [List.take_of_length_le (by simp [dcs_len])]⟩⟩,hx⟩
end
/-- a slice of deeds: what the program tells of its types -/
structure ElD (P:Program) (t e:TypeId):Prop where
 und:P.underlying t=some (.slice e)
 info : ∃ i,P.info? e=some i∧i.zero=some (.agg #[.int .i64 0,str [],.int .i64 0])∧i.size=3∧i.bytes≤64
 size : ∀ w,(sizeOf e).run P w=.ok 3 w
 zero : ∀ w,(zeroValue e).run P w=.ok (.agg #[.int .i64 0,str [],.int .i64 0]) w
theorem ElD.of {P:Program} {t e:TypeId} (hu:P.underlying t=some (.slice e)) (h:(P.info? e).map (fun i=>(i.zero,i.size,Nat.ble i.bytes 64))=some (some (.agg #[.int .i64 0,str [],.int .i64 0]),3,true))
  (hs : ∀ w,(sizeOf e).run P w=.ok 3 w) (hz : ∀ w,(zeroValue e).run P w=.ok (.agg #[.int .i64 0,str [],.int .i64 0]) w):ElD P t e:=by
 refine ⟨hu,?_,hs,hz⟩
 cases hi:P.info? e with
 | none=>rw [hi] at h;cases h
 | some i =>
   rw [hi] at h
   simp only [Option.map_some, Option.some.injEq, Prod.mk.injEq] at h
   exact ⟨i, rfl, h.1, h.2.1, by simpa using h.2.2⟩
section
variable {P:Program} {n:Nat} {N:Env→World→Prop} {ρ : Env} {w w0:World} {all:Array Oper} {rest:List Oper} {d:Nat} {ty t el:TypeId} {pos:String} {after:Array Edge} {g:Option (Nat × Bool)} {x y z s:Operand} {v:Value} {l m:List Deed} {lo:Nat} {a1 a2 a3:Deed}
theorem run_buildD2 (hT:ElD P t el):(Instr.buildSlice t 2 #[(0,dv a1),(1,dv a2)]).run P w=.ok (.slice (some ⟨w.heap.size,0,none⟩) 2 2) (w.alloc (.cells (dcs [a1,a2]).toArray el)):=by
 simp [Instr.buildSlice,run_und hT.und,hT.size,hT.zero,newRow,Instr.fill,dv,Value.cells,dcs,Array.range]
 refine congrArg (fun c=>w.alloc (Obj.cells c el)) ?_
 apply Array.ext'
 simp [List.ofFn,Fin.foldr,Fin.foldr.loop]
theorem run_buildD3 (hT:ElD P t el):(Instr.buildSlice t 3 #[(0,dv a1),(1,dv a2),(2,dv a3)]).run P w=.ok (.slice (some ⟨w.heap.size,0,none⟩) 3 3) (w.alloc (.cells (dcs [a1,a2,a3]).toArray el)):=by
 simp [Instr.buildSlice,run_und hT.und,hT.size,hT.zero,newRow,Instr.fill,dv,Value.cells,dcs,Array.range]
 refine congrArg (fun c=>w.alloc (Obj.cells c el)) ?_
 apply Array.ext'
 simp [List.ofFn,Fin.foldr,Fin.foldr.loop]
theorem Wo_buildD2 (hw:wantedE all ⟨some d,.buildSlice t 2 #[(0,x),(1,y)],ty,pos,after,g⟩ ρ = true) (hT:ElD P t el) (hx:evalE ρ x=dv a1) (hy:evalE ρ y=dv a2) (h1:a1.text.length≤9223372036854775807) (h2:a2.text.length≤9223372036854775807)
  (hk : ∀ b w1,w.heap.size≤b→Ext w w1→OD el w.heap.size w1 (.slice (some ⟨b,0,none⟩) 2 2) [a1,a2]→Wops P n all rest N (upd ρ d (.slice (some ⟨b,0,none⟩) 2 2)) w1) :
  Wops P n all (⟨some d,.buildSlice t 2 #[(0,x),(1,y)],ty,pos,after,g⟩::rest) N ρ w:=by
 refine Wo_w hw (show OpW P (.buildSlice t 2 #[(0,x),(1,y)]) ty ρ w (.slice (some ⟨w.heap.size,0,none⟩) 2 2) (w.alloc (.cells (dcs [a1,a2]).toArray el)) from ?_) (hk _ _ (Nat.le_refl _) ((Ext.refl w).alloc _) (OD.blk (heap_alloc_new w _) (Nat.le_refl _) rfl (by unfold maxLen;omega) (by simpa using ⟨h1,h2⟩)))
 simp [OpW,execOp,hx,hy,run_buildD2 hT]
theorem Wo_buildD3 (hw:wantedE all ⟨some d,.buildSlice t 3 #[(0,x),(1,y),(2,z)],ty,pos,after,g⟩ ρ = true) (hT:ElD P t el) (hx:evalE ρ x=dv a1) (hy:evalE ρ y=dv a2) (hz:evalE ρ z=dv a3) (h1:a1.text.length≤9223372036854775807) (h2:a2.text.length≤9223372036854775807) (h3:a3.text.length≤9223372036854775807)
  (hk : ∀ b w1,w.heap.size≤b→Ext w w1→OD el w.heap.size w1 (.slice (some ⟨b,0,none⟩) 3 3) [a1,a2,a3]→Wops P n all rest N (upd ρ d (.slice (some ⟨b,0,none⟩) 3 3)) w1) :
  Wops P n all (⟨some d,.buildSlice t 3 #[(0,x),(1,y),(2,z)],ty,pos,after,g⟩::rest) N ρ w:=by
 refine Wo_w hw (show OpW P (.buildSlice t 3 #[(0,x),(1,y),(2,z)]) ty ρ w (.slice (some ⟨w.heap.size,0,none⟩) 3 3) (w.alloc (.cells (dcs [a1,a2,a3]).toArray el)) from ?_) (hk _ _ (Nat.le_refl _) ((Ext.refl w).alloc _) (OD.blk (heap_alloc_new w _) (Nat.le_refl _) rfl (by unfold maxLen;omega) (by simpa using ⟨h1,h2,h3⟩)))
 simp [OpW,execOp,hx,hy,hz,run_buildD3 hT]
/-- append(list, more...) -/
theorem Wo_appD {b c k lo2:Nat} (hw:wantedE all ⟨some d,.call { callee:=.builtin .append,args:=#[s,x],argTypes:=#[t,t] },ty,pos,after,g⟩ ρ = true) (hT:ElD P t el)
  (hv:evalE ρ s=v) (hx:evalE ρ x=.slice (some ⟨b,0,none⟩) k c) (h:OD el lo w v l) (hy:OD el lo2 w (.slice (some ⟨b,0,none⟩) k c) m) (hbig:l.length+m.length≤1099511627776) (hlw:lo≤w.heap.size) (h0:Ext w0 w) (hl0:w0.heap.size≤lo)
  (hk : ∀ v' w',OD el lo w' v' (l++m)→Ext w0 w'→w.grownBy w' v.ownBlock→Wops P n all rest N (upd ρ d v') w') :
  Wops P n all (⟨some d,.call { callee:=.builtin .append,args:=#[s,x],argTypes:=#[t,t] },ty,pos,after,g⟩::rest) N ρ w:=by
 obtain ⟨i,hi,hz,hs,hby⟩:=hT.info
 have hkl:k=m.length:=by
  rcases hy.1.2 with ⟨e,_⟩ | ⟨g',cap,cur,e,_⟩
  ·cases e
  ·injection e
 subst hkl
 have hmul:(l.length+m.length)*i.bytes≤140737488355328:=by have:=Nat.mul_le_mul hbig hby;omega
 have hcell : ∀ j u,(dcs m)[j]? = some u→w.cell? ((⟨b,0,none⟩:Addr).add j)=some u:=hy.1.cells (g:=b) rfl
 obtain ⟨v',w',hr,h2,h3,h4⟩:=run_append_own (P:=P) w lo t ty el i _ 3 i.bytes hT.und hi hz hs rfl rfl (by omega) v l.length (dcs l) h.1 ⟨b,0,none⟩ m.length c (dcs m) (dcs_len m) hcell (fun u hu=>oneCell_of (dcs_one hu)) (by unfold maxLen;omega) hmul hlw
 have hOD:OD el lo w' v' (l++m):=⟨by rw [List.length_append,dcs_app];exact h2,fun a ha=>(List.mem_append.1 ha).elim (h.2 a) (hy.2 a)⟩
 refine Wo_run (v:=v') (w':=w') hw ?_ (hk v' w' hOD ((Only.grownBy (fp:=v.ownBlock.toList) h3 (fun k hk=>by simp [hk])).ext h0 (fun k hk=>?_)) h3)
 ·simp only [execOp,resolve,invoke,builtin,Sem.run_bind,Sem.run_pure,Result.andThen_ok,List.map_toArray,List.map_cons,List.map_nil,hv,hx,hr]
 ·have:v.ownBlock=some k:=by simpa using hk
  have:=(h.lt this).1
  omega
end
set_option linter.unusedVariables false
set_option linter.unusedSimpArgs false
section
variable {e:TypeId} {lo:Nat} {w w' w0:World} {v:Value} {l m:List Deed} {b n c k:Nat} {u:Value}
theorem OD.lit (h:OD e lo w v l) (hp:0 < l.length) : ∃ b c,v=.slice (some ⟨b,0,none⟩) l.length c:=by
 rcases h.1.2 with ⟨rfl,h0⟩ | ⟨g,cap,cur,rfl,_⟩
 ·omega
 ·exact ⟨_,_,rfl⟩
theorem OD.len (h:OD e lo w (.slice (some ⟨b,0,none⟩) n c) l):n=l.length:=by
 rcases h.1.2 with ⟨h0,_⟩ | ⟨g,cap,cur,h0,_⟩
 ·cases h0
 ·injection h0
theorem OD.le (h:OD e lo w v l):l.length≤9223372036854775807:=h.read.le
theorem OD.free (h:OD e lo w (.slice (some ⟨b,0,none⟩) n c) l) (j:Nat):w.frozen? ⟨b,j,none⟩=false:=by
 rcases h.1.2 with ⟨h0,_⟩ | ⟨g,cap,cur,h0,_,hg,_⟩
 ·cases h0
 ·injection h0 with h1 h2 h3
  injection h1 with h1
  injection h1 with h1 _ _
  subst h1
  simp [World.frozen?,hg]
theorem OD.at (h:OD e lo w (.slice (some ⟨b,0,none⟩) n c) l) (hk:k < l.length):DeedAt w b (0+k*3) l[k]:=by
 obtain rfl:=h.len
 obtain ⟨h1,h2,h3⟩:=dcs_at l k hk
 rw [Nat.zero_add]
 exact ⟨(h.1.cellAt (k*3) (by omega)).trans h1,(h.1.cellAt (k*3+1) (by omega)).trans h2,(h.1.cellAt (k*3+2) (by omega)).trans h3,h.2 _ (List.getElem_mem hk)⟩
theorem OD.wrote {b':Nat} (h:OD e lo w v l) (K : ∀ k,k≠b'→w'.heap[k]? = w.heap[k]?) (hb:v.ownBlock≠some b'):OD e lo w' v l:=by
 refine ⟨?_,h.2⟩
 rcases h.1.2 with ⟨rfl,h0⟩ | ⟨g,cap,cur,rfl,hb2,hg,hnc,hcm,hcs,ht⟩
 ·exact ⟨h.1.1,.inl ⟨rfl,h0⟩⟩
 ·exact ⟨h.1.1,.inr ⟨g,cap,cur,rfl,hb2,(K g (fun e=>hb (by rw [← e];rfl))).trans hg,hnc,hcm,hcs,ht⟩⟩
end
section
variable {P:Program} {N:Env→World→Prop} {ρ : Env} {w w0:World} {all:Array Oper} {rest:List Oper} {d:Nat} {ty t el e:TypeId} {pos:String} {after:Array Edge} {g:Option (Nat × Bool)} {x y:Operand} {l:List Deed} {lo b n c k:Nat} {nn:Nat}
end
end Go.Hs
namespace Go.Proofs.YtgphoihilheoeaaDoor
open Go.Hs
set_option maxRecDepth 10000
set_option maxHeartbeats 4000000
set_option linter.unusedVariables false
set_option linter.unusedSimpArgs false
theorem elD36:ElD Tryd.prog 36 26:=ElD.of Tryd.underlying36 (by kernel_rfl) Tryd.sizeOf26 Tryd.zeroValue26
end Go.Proofs.YtgphoihilheoeaaDoor
set_option linter.unusedVariables false
set_option linter.unusedSimpArgs false
namespace Go.Hs
/-- an own slice of deeds, its blocks told -/
def XD (e:TypeId):World→List Nat→Value→List Deed→Prop:=fun w fp v l=>w.ownsRow 0 e 3 v l.length (dcs l)∧fp=v.ownBlock.toList∧∀ a ∈ l,a.text.length≤9223372036854775807
section
variable {e:TypeId} {lo hi:Nat} {w w' w0 w1:World} {v:Value} {l m:List Deed} {br gb k:Nat}
instance loc_XD:Loc (XD e):=⟨by
  rintro w w' fp v l hk ⟨h1,rfl,h3⟩
  refine ⟨⟨h1.1,?_⟩,rfl,h3⟩
  rcases h1.2 with hn | ⟨g,cap,cur,rfl,hb,hg,rest⟩
  ·exact .inl hn
  ·exact .inr ⟨g,cap,cur,rfl,hb,by rw [hk g (by simp [Value.ownBlock])];exact hg,rest⟩,by
  rintro w fp v l ⟨h1,rfl,h3⟩ k hk
  exact (h1.lt k (by simpa using hk)).2,by
  rintro w fp v l ⟨h1,rfl,h3⟩
  rcases h1.2 with ⟨rfl,_⟩ | ⟨g,cap,cur,rfl,_⟩ <;> rfl⟩
instance shows_XD:Shows (XD e) ESD:=⟨fun {w fp v l} h=>by
 obtain ⟨h3,rfl,h5⟩:=h
 exact OD.read (e:=e) (lo:=0) ⟨h3,h5⟩⟩
end
section
variable {P:Program} {n:Nat} {N:Env→World→Prop} {ρ : Env} {w w0:World} {all:Array Oper} {rest:List Oper} {d:Nat} {ty t el:TypeId} {pos:String} {after:Array Edge} {g:Option (Nat × Bool)} {x y z s:Operand} {v:Value} {l m:List Deed} {lo hi:Nat}
end
/-- a text drawn -/
def RetDSt (w0 w:World) (br m:Nat) (p:List UInt8→Prop):Value→World→Prop:=fun v w'=>∃ t,v=str t∧w.grownBy w' (some br)∧Rdr w0 w' br m∧p t
end Go.Hs
namespace Go.Proofs.YtgphoihilheoeaaDoor
open Go.Hs
set_option maxRecDepth 10000
set_option maxHeartbeats 4000000
set_option linter.unusedVariables false
set_option linter.unusedSimpArgs false
theorem Spoil_ok {w0:World} (w:World) {br m:Nat} (s:List UInt8) (hr:Rdr w0 w br m) (hm:m≤1000000) (hs:s.length≤1000000) :
  Does Tryd.prog 55 [.pointer (some ⟨br,0,none⟩),str s] w (RetDSt w0 w br (m+2) (fun t=>t.length≤s.length+8)):=by
 refine fn_of_W1 Tryd.func55 rfl Tryd.results55 Tryd.ntmps55 rfl ?_
 have hG:w.grownBy w (some br):=grownBy_refl _ _
 have hlr:=hr.lt
 have hgr:=hr.ge
 have E0:=hr.old
 focus
  have szE0:=E0.size;refine W_seq ?_;refine W_region rfl ?_;refine Wo rfl (opv_assign (v:=.string _) rfl) ?_;refine Wo_nil ?_;refine W_seq ?_;refine W_seq ?_;refine W_region rfl ?_
  refine Wo rfl (opv_move (v:=.string _) rfl) ?_;refine Wo rfl (opv_len_str Tryd.underlying9 rfl) ?_;refine Wo rfl (opv_eql rfl rfl) ?_;refine Wo_nil ?_;refine W_cond_dec rfl (fun h1=>?_) (fun h1=>?_);refine W_seq ?_
  refine W_region rfl ?_;refine Wo rfl (opv_assign (v:=.string _) rfl) ?_;refine Wo_nil ?_;refine W_ret ?_;refine at_ret (v:=.string _) rfl ?_;rotate_left;refine W_skip ?_;refine W_seq ?_;refine W_region rfl ?_
  refine Wo rfl (opv_move (v:=.pointer _) rfl) ?_;refine Wo rfl (opv_move (v:=.string _) rfl) ?_;refine Wo rfl (opv_len_str Tryd.underlying9 rfl) ?_
  refine Wo_call rfl (opc2 (a:=.pointer _) (b:=.int _ _) Tryd.call54 rfl rfl) (pick_ok _ _ (by assumption) (by omega)) ?_;rintro _ w1 ⟨y1,rfl,E1,hr1,hy1⟩;(try dsimp only at hy1);have hlhr1:=hr1.lt;have Ehr1:=hr1.old
  have hG:=grownBy_trans hG E1;have hs1:=E1.size;refine Wo rfl (opv_assign (v:=.int _ _) rfl) ?_;refine Wo_nil ?_;refine W_seq ?_;refine W_held (fun _=>True) mixed rfl (by kernel_rfl) ?_;intro w2 E2 K1 hz1
  have hr1:=hr1.ext E2;have hG:=grownBy_ext hG E2;have hs2:=E2.size;refine Wh_take 0 rfl (by kernel_rfl) (by kernel_rfl) rfl (fun _ _=>opv_move (v:=.string _) rfl) trivial ?_
  refine Wh_take 1 rfl (by kernel_rfl) (by kernel_rfl) rfl (fun _ _=>opv_move (v:=.int _ _) rfl) trivial ?_
  refine Wh_take 2 rfl (by kernel_rfl) (by kernel_rfl) rfl (fun _ _=>opv_slice_str_hi Tryd.underlying9 rfl rfl (by omega)) trivial ?_
  refine Wh_take 4 rfl (by kernel_rfl) (by kernel_rfl) rfl (fun _ _=>opv_move (v:=.pointer _) rfl) trivial ?_;refine Wh_take 9 rfl (by kernel_rfl) (by kernel_rfl) rfl (fun _ _=>opv_move (v:=.string _) rfl) trivial ?_
  refine Wh_take 10 rfl (by kernel_rfl) (by kernel_rfl) rfl (fun _ _=>opv_move (v:=.int _ _) rfl) trivial ?_;refine Wh_take 11 rfl (by kernel_rfl) (by kernel_rfl) rfl (fun _ _=>opv_add rfl rfl (by omega)) trivial ?_
  refine Wh_take 12 rfl (by kernel_rfl) (by kernel_rfl) rfl (fun _ _=>opv_slice_str_lo Tryd.underlying9 rfl rfl (by simp <;> omega)) trivial ?_;refine Wh_all (rs:=[3,5]) (by kernel_rfl) rfl ?_;refine WhAll_cons rfl ?_ ?_
  refine Wo_buildSlice (ps:=[(0,.string _),(1,.string _),(2,.string _),(3,.string _),(4,.string _),(5,.string _)]) (cs:=[_,_,_,_,_,_]) rfl Tryd.underlying65 Tryd.sizeOf9 Tryd.zeroValue9 rfl rfl rfl rfl ?_
  rintro b1 w3 hb1 E3 hB1;have hlb1:=hB1.lt;have hr1:=hr1.ext E3;have hG:=grownBy_ext hG E3;have hs3:=E3.size;refine Wo_nil ?_;refine ⟨trivial,?_⟩;refine Wh_all (rs:=[5]) (by kernel_rfl) rfl ?_
  refine WhAll_cons rfl ?_ ?_;refine Wo_call rfl (opc2 (a:=.pointer _) (b:=.int _ _) Tryd.call54 rfl rfl) (pick_ok _ _ (by assumption) (by omega)) ?_;rintro _ w4 ⟨y2,rfl,E4,hr2,hy2⟩;(try dsimp only at hy2)
  have hlhr2:=hr2.lt;have Ehr2:=hr2.old;have hB1:=hB1.grown E4 (by simp only [ne_eq,Option.some.injEq];omega);have hG:=grownBy_trans hG E4;have hs4:=E4.size;refine Wo_nil ?_;refine ⟨trivial,?_⟩
  refine Wh_take 6 rfl (by kernel_rfl) (by kernel_rfl) rfl (fun _ _=>opv_indexAddr Tryd.underlying65 Tryd.sizeOf9 rfl rfl (by omega)) trivial ?_;refine Wh_all (rs:=[7]) (by kernel_rfl) rfl ?_;refine WhAll_cons rfl ?_ ?_
  refine Wo_tbl 0 Tryd.isAgg9 rfl rfl hB1 (by repeat (first | exact trivial | refine And.intro ⟨_,rfl,by decide⟩ ?_)) (by simp only [List.length_cons,List.length_nil];omega) ?_;intro s1 hs1;refine Wo_nil ?_;refine ⟨trivial,?_⟩
  refine Wh_take 8 rfl (by kernel_rfl) (by kernel_rfl) rfl (fun _ _=>opv_add_str rfl rfl (by simp <;> omega)) trivial ?_
  refine Wh_take 13 rfl (by kernel_rfl) (by kernel_rfl) rfl (fun _ _=>opv_add_str rfl rfl (by simp <;> omega)) trivial ?_
  refine Wh_take 14 rfl (by kernel_rfl) (by kernel_rfl) rfl (fun _ _=>opv_assign (v:=.string _) rfl) trivial ?_;refine Wh_done (by kernel_rfl) ?_;refine W_ret ?_;refine at_ret (v:=.string _) rfl ?_;rotate_left
  exact WhAll_nil;exact WhAll_nil;refine WhAll_cons rfl ?_ ?_;refine Wo_call rfl (opc2 (a:=.pointer _) (b:=.int _ _) Tryd.call54 rfl rfl) (pick_ok _ _ (by assumption) (by omega)) ?_;rintro _ w3 ⟨y2,rfl,E3,hr2,hy2⟩
  (try dsimp only at hy2);have hlhr2:=hr2.lt;have Ehr2:=hr2.old;have hG:=grownBy_trans hG E3;have hs3:=E3.size;refine Wo_nil ?_;refine ⟨trivial,?_⟩;refine Wh_all (rs:=[3]) (by kernel_rfl) rfl ?_
  refine WhAll_cons rfl ?_ ?_
  refine Wo_buildSlice (ps:=[(0,.string _),(1,.string _),(2,.string _),(3,.string _),(4,.string _),(5,.string _)]) (cs:=[_,_,_,_,_,_]) rfl Tryd.underlying65 Tryd.sizeOf9 Tryd.zeroValue9 rfl rfl rfl rfl ?_
  rintro b1 w4 hb1 E4 hB1;have hlb1:=hB1.lt;have hr2:=hr2.ext E4;have hG:=grownBy_ext hG E4;have hs4:=E4.size;refine Wo_nil ?_;refine ⟨trivial,?_⟩
  refine Wh_take 6 rfl (by kernel_rfl) (by kernel_rfl) rfl (fun _ _=>opv_indexAddr Tryd.underlying65 Tryd.sizeOf9 rfl rfl (by omega)) trivial ?_;refine Wh_all (rs:=[7]) (by kernel_rfl) rfl ?_;refine WhAll_cons rfl ?_ ?_
  refine Wo_tbl 0 Tryd.isAgg9 rfl rfl hB1 (by repeat (first | exact trivial | refine And.intro ⟨_,rfl,by decide⟩ ?_)) (by simp only [List.length_cons,List.length_nil];omega) ?_;intro s1 hs1;refine Wo_nil ?_;refine ⟨trivial,?_⟩
  refine Wh_take 8 rfl (by kernel_rfl) (by kernel_rfl) rfl (fun _ _=>opv_add_str rfl rfl (by simp <;> omega)) trivial ?_
  refine Wh_take 13 rfl (by kernel_rfl) (by kernel_rfl) rfl (fun _ _=>opv_add_str rfl rfl (by simp <;> omega)) trivial ?_
  refine Wh_take 14 rfl (by kernel_rfl) (by kernel_rfl) rfl (fun _ _=>opv_assign (v:=.string _) rfl) trivial ?_;refine Wh_done (by kernel_rfl) ?_;refine W_ret ?_;refine at_ret (v:=.string _) rfl ?_;rotate_left
  exact WhAll_nil;exact WhAll_nil;exact WhAll_nil
 ·exact ⟨[10],rfl,hG,hr.le (by omega),by simp⟩
 all_goals
  have hyy:=hy1 (by omega)
  exact ⟨_,rfl,hG,by first | exact hr3.le (by omega) | exact hr2.le (by omega) | exact hr1.le (by omega),by simp only [List.length_append,List.length_take,List.length_drop];omega⟩
theorem DrawReadDeed_ok (w:World) (v:Value) (xs:List UInt8) (h:Bytes w v xs) (hc:CapOk v):Does Tryd.prog 29 [v] w (RetX w str (fun s _=>s.length≤1000)):=by
 have hle:=h.le
 refine fn_of_W1 Tryd.func29 rfl Tryd.results29 Tryd.ntmps29 rfl ?_
 focus
  refine W_seq ?_;refine W_region rfl ?_;refine Wo rfl (opv_assign (v:=.string _) rfl) ?_;refine Wo_nil ?_;refine W_seq ?_;refine W_region rfl ?_;refine Wo rfl (opv_move (v:=v) rfl) ?_
  refine Wo_call rfl (opc1 (a:=v) Tryd.call50 rfl) (open_ok _ _ _ (h) (by assumption)) ?_;rintro _ w1 ⟨E1,y1,rfl,hy1⟩;have hlhy1:=hy1.lt;have hghy1:=hy1.ge;have hs1:=E1.size
  refine Wo rfl (opv_assign (v:=.pointer _) rfl) ?_;refine Wo_nil ?_;refine W_seq ?_;refine W_region rfl ?_;refine Wo rfl (opv_move (v:=.pointer _) rfl) ?_;refine Wo rfl (opv_move (v:=.pointer _) rfl) ?_
  refine Wo_call rfl (opc2 (a:=.pointer _) (b:=.int _ _) Tryd.call52 rfl rfl) (Desk0_ok _ (by assumption) (by omega)) ?_;rintro _ w2 ⟨u1,q1,x1,y2,rfl,E2,hr1,hA1,hC1,icu1,icq1,gwu1,hy2⟩;(try dsimp only at hy2)
  have hlhr1:=hr1.lt;have Ehr1:=hr1.old;have hs2:=E2.size
 have kD:=Deed_ok w2 u1 q1 x1 hr1 (by omega) hA1 (by omega) gwu1 icq1 hy2.now
 have kT:=fun (w:World) (k n:Int) (t:List UInt8) (h:DrP ⟨k,t,n⟩)=>spec_DeedText_ok w k n t (by have:=h.2.2.1;simp only at this;omega)
 focus
  have szEhr1:=Ehr1.size;have szE1:=E1.size;refine Wo_call rfl (opc2 (a:=.pointer _) (b:=.agg _) Tryd.call51 rfl rfl) (kD) ?_;rintro _ w3 ⟨k1,t1,n1,rfl,E3,hr2,hy3⟩;(try dsimp only at hy3);have hlhr2:=hr2.lt
  have Ehr2:=hr2.old;have hA1:=hA1.grown E3 (by omega);have hC1:=hC1.grown E3 (by omega);have hs3:=E3.size;refine Wo_call rfl (opc1 (a:=.agg _) Tryd.call12 rfl) (kT _ _ _ _ (by assumption)) ?_;rintro _ w4 ⟨rfl,E4⟩
  have hr2:=hr2.ext E4;have hs4:=E4.size;refine Wo rfl (opv_assign (v:=.string _) rfl) ?_;refine Wo_nil ?_;refine W_seq ?_;refine W_seq ?_;refine W_region rfl ?_;refine Wo rfl (opv_move (v:=.pointer _) rfl) ?_
 have hl:=dtV_len ⟨k1,t1,n1⟩
 generalize dtV ⟨k1,t1,n1⟩=s at *
 focus
  have szE4:=E4.size;have szEhr2:=Ehr2.size;have szEhr1:=Ehr1.size;have szE1:=E1.size;refine Wo_call rfl (opc2 (a:=.pointer _) (b:=.int _ _) Tryd.call54 rfl rfl) (pick_ok _ _ (by assumption) (by omega)) ?_
  rintro _ w5 ⟨y3,rfl,E5,hr3,hy4⟩;(try dsimp only at hy4);have hlhr3:=hr3.lt;have Ehr3:=hr3.old;have hA1:=(hA1.ext E4).grown E5 (by omega);have hC1:=(hC1.ext E4).grown E5 (by omega);have hs5:=E5.size
  refine Wo rfl (opv_eql rfl rfl) ?_;refine Wo_nil ?_;refine W_cond_dec rfl (fun h1=>?_) (fun h1=>?_);refine W_seq ?_;refine W_region rfl ?_;refine Wo rfl (opv_move (v:=.pointer _) rfl) ?_
  refine Wo rfl (opv_move (v:=.string _) rfl) ?_;refine Wo_call rfl (opc2 (a:=.pointer _) (b:=.string _) Tryd.call55 rfl rfl) (Spoil_ok _ _ (by assumption) (by omega) (by omega)) ?_;rintro _ w6 ⟨t2,rfl,E6,hr4,hy5⟩
  (try dsimp only at hy5);have hlhr4:=hr4.lt;have Ehr4:=hr4.old;have hA1:=hA1.grown E6 (by omega);have hC1:=hC1.grown E6 (by omega);have hs6:=E6.size;refine Wo rfl (opv_assign (v:=.string _) rfl) ?_;refine Wo_nil ?_
  refine W_ret ?_;refine at_ret (v:=.string _) rfl ?_;refine ⟨Ehr4,_,rfl,?_⟩;(try dsimp only);rotate_left;refine W_skip ?_;refine W_seq ?_;refine W_region rfl ?_;refine Wo rfl (opv_move (v:=.string _) rfl) ?_
  refine Wo rfl (opv_assign (v:=.string _) rfl) ?_;refine Wo_nil ?_;refine W_ret ?_;refine at_ret (v:=.string _) rfl ?_;refine ⟨Ehr3,_,rfl,?_⟩;(try dsimp only);rotate_left
 all_goals omega
end Go.Proofs.YtgphoihilheoeaaDoor
set_option linter.unusedVariables false
set_option linter.unusedSimpArgs false
namespace Go.Hs
def wInto:List UInt8:=[105,110,116,111]
def wAdd:List UInt8:=[97,100,100]
def wDrop:List UInt8:=[100,114,111,112]
/-- the deed that a text could be that of -/
def cand (s:List UInt8):Option Deed :=
 if s=sSingle then some ⟨0,[],0⟩
 else if s=sBack then some ⟨4,[],0⟩
 else if (cutF 32 s).1=wInto∧(cutF 32 s).2.1.length=1∧48≤((cutF 32 s).2.1.getD 0 0).toNat∧((cutF 32 s).2.1.getD 0 0).toNat≤57 then some ⟨3,[],((cutF 32 s).2.1.getD 0 0).toNat - 48⟩
 else if (cutF 32 s).1=wAdd∧(cutF 32 s).2.2=true then some ⟨1,(cutF 32 s).2.1,0⟩
 else if (cutF 32 s).1=wDrop∧(cutF 32 s).2.2=true then some ⟨2,(cutF 32 s).2.1,0⟩
 else none
theorem cand_told {a:Deed} (h:Told a):cand (dtV a)=some a:=by
 cases h with
 | single=>rw [dtV_single];rfl
 | back=>rw [dtV_back];rfl
 | into d h =>
   rw [dtV_into h]
   have e : cutF 32 (sInto ++ [dig d]) = (wInto, [dig d], true) := cutF_at (a := wInto) (r := [dig d]) (by decide)
   have h1 : sInto ++ [dig d] ≠ sSingle := by intro h; injection h with h1 h2; revert h1; decide
   have h2 : sInto ++ [dig d] ≠ sBack := by intro h; injection h with h1 h2; revert h1; decide
   have ed : (dig d).toNat = 48 + d := dig_toNat (by omega)
   rw [cand, if_neg h1, if_neg h2, e]
   simp only [List.length_cons, List.length_nil, List.getD_cons_zero, ed]
   rw [if_pos ⟨by trivial, by trivial, by omega, by omega⟩]
   congr 2; omega
 | add p h =>
   rw [dtV_add h]
   have e : cutF 32 (sAdd ++ txt p) = (wAdd, txt p, true) := cutF_at (a := wAdd) (r := txt p) (by decide)
   have h1 : sAdd ++ txt p ≠ sSingle := by intro h; injection h with h1 h2; revert h1; decide
   have h2 : sAdd ++ txt p ≠ sBack := by intro h; injection h with h1 h2; revert h1; decide
   rw [cand, if_neg h1, if_neg h2, e]
   simp only
   rw [if_neg (fun h => by have := h.1; revert this; decide), if_pos ⟨by trivial, by trivial⟩]
 | drop p h =>
   rw [dtV_drop h]
   have e : cutF 32 (sDrop ++ txt p) = (wDrop, txt p, true) := cutF_at (a := wDrop) (r := txt p) (by decide)
   have h1 : sDrop ++ txt p ≠ sSingle := by intro h; injection h with h1 h2; revert h1; decide
   have h2 : sDrop ++ txt p ≠ sBack := by intro h; injection h with h1 h2; revert h1; decide
   rw [cand, if_neg h1, if_neg h2, e]
   simp only
   rw [if_neg (fun h => by have := h.1; revert this; decide), if_neg (fun h => by have := h.1; revert this; decide), if_pos ⟨by trivial, by trivial⟩]
theorem rdD_cand (s:List UInt8):rdD s=match cand s with | some a=>if dtV a=s then some a else none | none=>none:=by
 cases hr:rdD s with
 | some a =>
   have ht := rdD_told hr
   have h1 := (rdD_some hr).1
   have := cand_told ht
   rw [h1] at this
   rw [this]
   simp only
   rw [if_pos h1]
 | none =>
   cases hc : cand s with
   | none => rfl
   | some a =>
     simp only
     by_cases h : dtV a = s
     · by_cases hs : s = []
       · subst hs; revert hc; unfold cand; intro hc; simp [cutF, sSingle, sBack, wInto, wAdd, wDrop] at hc
       · rw [rdD_eq h hs] at hr; cases hr
     · rw [if_neg h]
end Go.Hs
namespace Go.Proofs.YtgphoihilheoeaaDoor
open Go.Hs
set_option maxRecDepth 10000
set_option maxHeartbeats 4000000
set_option linter.unusedVariables false
set_option linter.unusedSimpArgs false
theorem leaf_some {O:Option Deed} {u:Value} {k n:Int} {l:List UInt8} (h:O=some ⟨k,l,n⟩) (hu:u=.bool true):Value.tuple #[.agg #[.int .i64 k,str l,.int .i64 n],u]=.tuple #[dv (O.getD ⟨0,[],0⟩),.bool O.isSome]:=by
 subst h;subst hu;rfl
theorem leaf_none {O:Option Deed} {u:Value} (h:O=none) (hu:u=.bool false):Value.tuple #[.agg #[.int .i64 0,str [],.int .i64 0],u]=.tuple #[dv (O.getD ⟨0,[],0⟩),.bool O.isSome]:=by
 subst h;subst hu;rfl
theorem impl_readDeed_ok (w:World) (s:List UInt8) (hM:EMx gMx w (.bool true) ()) (hs:s.length≤1048576) :
  Does Tryd.prog 47 [str s] w (Ret w (.tuple #[dv ((rdD s).getD ⟨0,[],0⟩),.bool (rdD s).isSome])):=by
 obtain ⟨wd,hW⟩ : ∃ wd,wd=(cutF 32 s).1:=⟨_,rfl⟩
 obtain ⟨R,hR⟩ : ∃ R,R=(cutF 32 s).2.1:=⟨_,rfl⟩
 obtain ⟨H,hH⟩ : ∃ H,H=(cutF 32 s).2.2:=⟨_,rfl⟩
 have hRl:R.length≤1048576:=by rw [hR];have:=(cutF_len 32 s).2;omega
 have k1 : ∀ w,EMx gMx w (.bool true) ()→Does Tryd.prog 48 [str s,str [32]] w (Ret w (.tuple #[str wd,str R,.bool H])):=fun w hM=>by
  subst hW hR hH;exact Cut_ok w s 32 hM hs
 have hr8:(R.getD 0 0).toNat < 256:=UInt8.toNat_lt _
 have hc:cand s=(if s=[115,105,110,103,108,101] then some ⟨0,[],0⟩
  else if s=[98,97,99,107] then some ⟨4,[],0⟩
  else if wd=[105,110,116,111]∧(R.length:Int)=1∧(48:Int)≤((R.getD 0 0).toNat:Int)∧((R.getD 0 0).toNat:Int)≤57 then some ⟨3,[],((R.getD 0 0).toNat:Int) - 48⟩
  else if wd=[97,100,100]∧H=true then some ⟨1,R,0⟩
  else if wd=[100,114,111,112]∧H=true then some ⟨2,R,0⟩ else none):=by
  subst hW hR hH
  have e:((cutF 32 s).2.1.length=1∧48≤((cutF 32 s).2.1.getD 0 0).toNat∧((cutF 32 s).2.1.getD 0 0).toNat≤57)↔(((cutF 32 s).2.1.length:Int)=1∧(48:Int)≤(((cutF 32 s).2.1.getD 0 0).toNat:Int)∧(((cutF 32 s).2.1.getD 0 0).toNat:Int)≤57):=by omega
  refine ite_congr rfl (fun _=>rfl) fun _=>ite_congr rfl (fun _=>rfl) fun _=>ite_congr (propext (and_congr Iff.rfl e)) (fun _=>rfl) fun _=>rfl
 have hr:=rdD_cand s
 rw [hc] at hr
 obtain ⟨O,hO⟩ : ∃ O,O=rdD s:=⟨_,rfl⟩
 rw [← hO] at hr ⊢
 refine fn_of_Wc3t Tryd.func47 rfl Tryd.results47 Tryd.ntmps47 rfl Tryd.isAgg26 Tryd.sizeOf26 ?_
 have k2 : ∀ w k n,EMx gMx w (.bool true) ()→Does Tryd.prog 44 [.agg #[.int .i64 k,str [],.int .i64 n]] w (Ret w (str (dtV ⟨k,[],n⟩))):=fun w k n hM=>impl_deedText_ok w k n [] hM (by simp)
 have k3 : ∀ w k n,EMx gMx w (.bool true) ()→Does Tryd.prog 44 [.agg #[.int .i64 k,str R,.int .i64 n]] w (Ret w (str (dtV ⟨k,R,n⟩))):=fun w k n hM=>impl_deedText_ok w k n R hM hRl
 focus
  refine W_seq ?_;refine W_region rfl ?_;refine Wo_allocN rfl flat26 ?_;rintro b1 w1 hb1 E1 hB1;have hlb1:=hB1.lt;have hs1:=E1.size;refine Wo rfl (opv_assign (v:=.bool _) rfl) ?_;refine Wo_nil ?_;refine W_seq ?_
  refine W_region rfl ?_;refine Wo rfl (opv_move (v:=.string _) rfl) ?_;refine Wo_call rfl (opc2 (a:=.string _) (b:=.string _) Tryd.call48 rfl rfl) (k1 _ ((Mono.mono E1 hM))) ?_;rintro _ w2 ⟨rfl,E2⟩;have hs2:=E2.size
  refine Wo rfl (opv_move (v:=.tuple _) rfl) ?_;refine Wo rfl (opv_extract (v:=.string _) rfl rfl) ?_;refine Wo rfl (opv_extract (v:=.string _) rfl rfl) ?_;refine Wo rfl (opv_extract (v:=.bool _) rfl rfl) ?_
  refine Wo rfl (opv_assign (v:=.string _) rfl) ?_;refine Wo rfl (opv_assign (v:=.string _) rfl) ?_;refine Wo rfl (opv_assign (v:=.bool _) rfl) ?_;refine Wo_nil ?_;refine W_seq ?_;refine W_region rfl ?_
  refine Wo rfl (opv_build (ps:=[]) (cs:=[_,_,_]) flat26 rfl rfl) ?_;refine Wo_allocN rfl flat26 ?_;rintro b2 w3 hb2 E3 hB2;have hlb2:=hB2.lt;have hs3:=E3.size
  refine Wo_st3 rfl Tryd.sizeOf26 rfl rfl (by first | rfl | assumption) (by first | rfl | assumption) (by first | rfl | assumption) hB2 (by omega) ((E1.trans E2).trans E3) ?_;rintro w4 E4 hB2 K1 hz1
  have E5:=(E2.trans E3).wroteAt ((E1.trans E2).trans E3) E4 K1 hz1 (by omega);have szE5:=E5.size;have E6:=E3.wroteAt ((E1.trans E2).trans E3) E4 K1 hz1 (by omega);have szE6:=E6.size
  have hB1:=(hB1.ext (E2.trans E3)).of_heap (K1 _ (by omega));refine Wo_nil ?_;refine W_seq ?_;refine W_block ?_;refine W_seq ?_;refine W_region rfl ?_;refine Wo rfl (opv_move (v:=.string _) rfl) ?_
  refine Wo rfl (opv_eql_str rfl rfl) ?_;refine Wo rfl (opv_assign (v:=.bool _) rfl) ?_;refine Wo_nil ?_;refine W_cond_dec rfl (fun h1=>?_) (fun h1=>?_);refine W_region rfl ?_
  refine Wo rfl (opv_fieldAddr Tryd.underlying26 rfl rfl Tryd.sizeOf3 rfl) ?_;refine Wo_st (v:=.int _ _) rfl Tryd.sizeOf3 rfl rfl rfl hB2 (by decide) (by omega) E4 ?_;rintro w5 E7 hB2 K2 hz2
  have E8:=E5.wroteAt E4 E7 K2 hz2 (by omega);have szE8:=E8.size;have E9:=E6.wroteAt E4 E7 K2 hz2 (by omega);have szE9:=E9.size;simp only [List.set] at hB2;have hB1:=hB1.of_heap (K2 _ (by omega));refine Wo_nil ?_
  refine W_seq ?_;refine W_seq ?_;refine W_region rfl ?_;refine Wo (v:=.agg _) rfl (opv_load3 Tryd.isAgg26 Tryd.sizeOf26 rfl hB2) ?_;refine Wo_call rfl (opc1 (a:=.agg _) Tryd.call44 rfl) (k2 _ _ _ ((Mono.mono E7 hM))) ?_
  rintro _ w6 ⟨rfl,E10⟩;have hs4:=E10.size;refine Wo rfl (opv_move (v:=.string _) rfl) ?_;refine Wo rfl (opv_neq_str rfl rfl) ?_;refine Wo_nil ?_;refine W_cond_ndec rfl (fun h2=>?_) (fun h2=>?_);refine W_seq ?_
  refine W_region rfl ?_;refine Wo rfl (opv_build (ps:=[]) (cs:=[_,_,_]) flat26 rfl rfl) ?_
  refine Wo_st3 rfl Tryd.sizeOf26 rfl rfl (by first | rfl | assumption) (by first | rfl | assumption) (by first | rfl | assumption) (hB1.ext E10) (by omega) (E7.trans E10) ?_;rintro w7 E11 hB1 K3 hz3
  have hB2:=(hB2.ext E10).of_heap (K3 _ (by omega));refine Wo rfl (opv_assign (v:=.bool _) rfl) ?_;refine Wo_nil ?_;refine W_ret ?_;rotate_left;refine W_skip ?_;refine W_seq ?_;refine W_region rfl ?_
  refine Wo (v:=.agg _) rfl (opv_load3 Tryd.isAgg26 Tryd.sizeOf26 rfl (hB2.ext E10)) ?_
  refine Wo_st3 rfl Tryd.sizeOf26 rfl rfl (by first | rfl | assumption) (by first | rfl | assumption) (by first | rfl | assumption) (hB1.ext E10) (by omega) (E7.trans E10) ?_;rintro w7 E11 hB1 K3 hz3
  have hB2:=(hB2.ext E10).of_heap (K3 _ (by omega));refine Wo rfl (opv_assign (v:=.bool _) rfl) ?_;refine Wo_nil ?_;refine W_ret ?_;rotate_left;refine W_seq ?_;refine W_region rfl ?_
  refine Wo rfl (opv_move (v:=.string _) rfl) ?_;refine Wo rfl (opv_eql_str rfl rfl) ?_;refine Wo rfl (opv_assign (v:=.bool _) rfl) ?_;refine Wo_nil ?_;refine W_cond_dec rfl (fun h2=>?_) (fun h2=>?_)
  refine W_region rfl ?_;refine Wo rfl (opv_fieldAddr Tryd.underlying26 rfl rfl Tryd.sizeOf3 rfl) ?_;refine Wo_st (v:=.int _ _) rfl Tryd.sizeOf3 rfl rfl rfl hB2 (by decide) (by omega) E4 ?_;rintro w5 E7 hB2 K2 hz2
  have E8:=E5.wroteAt E4 E7 K2 hz2 (by omega);have szE8:=E8.size;have E9:=E6.wroteAt E4 E7 K2 hz2 (by omega);have szE9:=E9.size;simp only [List.set] at hB2;have hB1:=hB1.of_heap (K2 _ (by omega));refine Wo_nil ?_
  refine W_seq ?_;refine W_seq ?_;refine W_region rfl ?_;refine Wo (v:=.agg _) rfl (opv_load3 Tryd.isAgg26 Tryd.sizeOf26 rfl hB2) ?_;refine Wo_call rfl (opc1 (a:=.agg _) Tryd.call44 rfl) (k2 _ _ _ ((Mono.mono E7 hM))) ?_
  rintro _ w6 ⟨rfl,E10⟩;have hs4:=E10.size;refine Wo rfl (opv_move (v:=.string _) rfl) ?_;refine Wo rfl (opv_neq_str rfl rfl) ?_;refine Wo_nil ?_;refine W_cond_ndec rfl (fun h3=>?_) (fun h3=>?_);refine W_seq ?_
  refine W_region rfl ?_;refine Wo rfl (opv_build (ps:=[]) (cs:=[_,_,_]) flat26 rfl rfl) ?_
  refine Wo_st3 rfl Tryd.sizeOf26 rfl rfl (by first | rfl | assumption) (by first | rfl | assumption) (by first | rfl | assumption) (hB1.ext E10) (by omega) (E7.trans E10) ?_;rintro w7 E11 hB1 K3 hz3
  have hB2:=(hB2.ext E10).of_heap (K3 _ (by omega));refine Wo rfl (opv_assign (v:=.bool _) rfl) ?_;refine Wo_nil ?_;refine W_ret ?_;rotate_left;refine W_skip ?_;refine W_seq ?_;refine W_region rfl ?_
  refine Wo (v:=.agg _) rfl (opv_load3 Tryd.isAgg26 Tryd.sizeOf26 rfl (hB2.ext E10)) ?_
  refine Wo_st3 rfl Tryd.sizeOf26 rfl rfl (by first | rfl | assumption) (by first | rfl | assumption) (by first | rfl | assumption) (hB1.ext E10) (by omega) (E7.trans E10) ?_;rintro w7 E11 hB1 K3 hz3
  have hB2:=(hB2.ext E10).of_heap (K3 _ (by omega));refine Wo rfl (opv_assign (v:=.bool _) rfl) ?_;refine Wo_nil ?_;refine W_ret ?_;rotate_left;refine W_seq ?_;refine W_region rfl ?_
  refine Wo rfl (opv_move (v:=.string _) rfl) ?_;refine Wo rfl (opv_eql_str rfl rfl) ?_;refine Wo_split_dec rfl (opv_move (v:=.bool _) rfl) (fun h3=>?_) (fun h3=>?_);refine Wo rfl (opv_move (v:=.string _) rfl) ?_
  refine Wo rfl (opv_len_str Tryd.underlying9 rfl) ?_;refine Wo rfl (opv_eql rfl rfl) ?_;refine Wo rfl (opv_pick_t (v:=.bool _) rfl rfl) ?_;refine Wo_split_dec rfl (opv_move (v:=.bool _) rfl) (fun h4=>?_) (fun h4=>?_)
  refine Wo rfl (opv_move (v:=.string _) rfl) ?_;refine Wo rfl (opv_index_str (k:=0) Tryd.underlying9 rfl rfl (by omega)) ?_;refine Wo rfl (opv_geq rfl rfl) ?_;refine Wo rfl (opv_pick_t (v:=.bool _) rfl rfl) ?_
  refine Wo_split_dec rfl (opv_move (v:=.bool _) rfl) (fun h5=>?_) (fun h5=>?_);refine Wo rfl (opv_move (v:=.string _) rfl) ?_;refine Wo rfl (opv_index_str (k:=0) Tryd.underlying9 rfl rfl (by omega)) ?_
  refine Wo rfl (opv_leq rfl rfl) ?_;refine Wo rfl (opv_pick_t (v:=.bool _) rfl rfl) ?_;refine Wo rfl (opv_assign (v:=.bool _) rfl) ?_;refine Wo_nil ?_;refine W_cond_dec rfl (fun h6=>?_) (fun h6=>?_);refine W_seq ?_
  refine W_region rfl ?_;refine Wo rfl (opv_fieldAddr Tryd.underlying26 rfl rfl Tryd.sizeOf3 rfl) ?_;refine Wo_st (v:=.int _ _) rfl Tryd.sizeOf3 rfl rfl rfl hB2 (by decide) (by omega) E4 ?_;rintro w5 E7 hB2 K2 hz2
  have E8:=E5.wroteAt E4 E7 K2 hz2 (by omega);have szE8:=E8.size;have E9:=E6.wroteAt E4 E7 K2 hz2 (by omega);have szE9:=E9.size;simp only [List.set] at hB2;have hB1:=hB1.of_heap (K2 _ (by omega));refine Wo_nil ?_
  refine W_region rfl ?_;refine Wo rfl (opv_move (v:=.string _) rfl) ?_;refine Wo rfl (opv_index_str (k:=0) Tryd.underlying9 rfl rfl (by omega)) ?_;refine Wo rfl (opv_sub_u8 rfl rfl (by omega)) ?_
  refine Wo rfl (opv_conv_int Tryd.underlying5 Tryd.underlying3 rfl (by omega)) ?_;refine Wo rfl (opv_fieldAddr Tryd.underlying26 rfl rfl Tryd.sizeOf3 rfl) ?_
  refine Wo_st (v:=.int _ _) rfl Tryd.sizeOf3 rfl rfl rfl hB2 (by decide) (by omega) E7 ?_;rintro w6 E10 hB2 K3 hz3;have E11:=E8.wroteAt E7 E10 K3 hz3 (by omega);have szE11:=E11.size
  have E12:=E9.wroteAt E7 E10 K3 hz3 (by omega);have szE12:=E12.size;simp only [List.set] at hB2;have hB1:=hB1.of_heap (K3 _ (by omega));refine Wo_nil ?_;refine W_seq ?_;refine W_seq ?_;refine W_region rfl ?_
  refine Wo (v:=.agg _) rfl (opv_load3 Tryd.isAgg26 Tryd.sizeOf26 rfl hB2) ?_;refine Wo_call rfl (opc1 (a:=.agg _) Tryd.call44 rfl) (k2 _ _ _ ((Mono.mono E10 hM))) ?_;rintro _ w7 ⟨rfl,E13⟩;have hs4:=E13.size
  refine Wo rfl (opv_move (v:=.string _) rfl) ?_;refine Wo rfl (opv_neq_str rfl rfl) ?_;refine Wo_nil ?_;refine W_cond_ndec rfl (fun h7=>?_) (fun h7=>?_);refine W_seq ?_;refine W_region rfl ?_
  refine Wo rfl (opv_build (ps:=[]) (cs:=[_,_,_]) flat26 rfl rfl) ?_
  refine Wo_st3 rfl Tryd.sizeOf26 rfl rfl (by first | rfl | assumption) (by first | rfl | assumption) (by first | rfl | assumption) (hB1.ext E13) (by omega) (E10.trans E13) ?_;rintro w8 E14 hB1 K4 hz4
  have hB2:=(hB2.ext E13).of_heap (K4 _ (by omega));refine Wo rfl (opv_assign (v:=.bool _) rfl) ?_;refine Wo_nil ?_;refine W_ret ?_;rotate_left;refine W_skip ?_;refine W_seq ?_;refine W_region rfl ?_
  refine Wo (v:=.agg _) rfl (opv_load3 Tryd.isAgg26 Tryd.sizeOf26 rfl (hB2.ext E13)) ?_
  refine Wo_st3 rfl Tryd.sizeOf26 rfl rfl (by first | rfl | assumption) (by first | rfl | assumption) (by first | rfl | assumption) (hB1.ext E13) (by omega) (E10.trans E13) ?_;rintro w8 E14 hB1 K4 hz4
  have hB2:=(hB2.ext E13).of_heap (K4 _ (by omega));refine Wo rfl (opv_assign (v:=.bool _) rfl) ?_;refine Wo_nil ?_;refine W_ret ?_;rotate_left;refine W_seq ?_;refine W_region rfl ?_
  refine Wo rfl (opv_move (v:=.string _) rfl) ?_;refine Wo rfl (opv_eql_str rfl rfl) ?_;refine Wo_split_dec rfl (opv_move (v:=.bool _) rfl) (fun h7=>?_) (fun h7=>?_);refine Wo rfl (opv_move (v:=.bool _) rfl) ?_
  refine Wo rfl (opv_pick_t (v:=.bool _) rfl rfl) ?_;refine Wo rfl (opv_assign (v:=.bool _) rfl) ?_;refine Wo_nil ?_;refine W_cond rfl (fun h8=>?_) (fun h8=>?_);refine W_seq ?_;refine W_region rfl ?_
  refine Wo rfl (opv_fieldAddr Tryd.underlying26 rfl rfl Tryd.sizeOf3 rfl) ?_;refine Wo_st (v:=.int _ _) rfl Tryd.sizeOf3 rfl rfl rfl hB2 (by decide) (by omega) E4 ?_;rintro w5 E7 hB2 K2 hz2
  have E8:=E5.wroteAt E4 E7 K2 hz2 (by omega);have szE8:=E8.size;have E9:=E6.wroteAt E4 E7 K2 hz2 (by omega);have szE9:=E9.size;simp only [List.set] at hB2;have hB1:=hB1.of_heap (K2 _ (by omega));refine Wo_nil ?_
  refine W_region rfl ?_;refine Wo rfl (opv_move (v:=.string _) rfl) ?_;refine Wo rfl (opv_fieldAddr Tryd.underlying26 rfl rfl Tryd.sizeOf9 rfl) ?_
  refine Wo_st (v:=.string _) rfl Tryd.sizeOf9 rfl rfl rfl hB2 (by decide) (by omega) E7 ?_;rintro w6 E10 hB2 K3 hz3;have E11:=E8.wroteAt E7 E10 K3 hz3 (by omega);have szE11:=E11.size
  have E12:=E9.wroteAt E7 E10 K3 hz3 (by omega);have szE12:=E12.size;simp only [List.set] at hB2;have hB1:=hB1.of_heap (K3 _ (by omega));refine Wo_nil ?_;refine W_seq ?_;refine W_seq ?_;refine W_region rfl ?_
  refine Wo (v:=.agg _) rfl (opv_load3 Tryd.isAgg26 Tryd.sizeOf26 rfl hB2) ?_;refine Wo_call rfl (opc1 (a:=.agg _) Tryd.call44 rfl) (k3 _ _ _ ((Mono.mono E10 hM))) ?_;rintro _ w7 ⟨rfl,E13⟩;have hs4:=E13.size
  refine Wo rfl (opv_move (v:=.string _) rfl) ?_;refine Wo rfl (opv_neq_str rfl rfl) ?_;refine Wo_nil ?_;refine W_cond_ndec rfl (fun h9=>?_) (fun h9=>?_);refine W_seq ?_;refine W_region rfl ?_
  refine Wo rfl (opv_build (ps:=[]) (cs:=[_,_,_]) flat26 rfl rfl) ?_
  refine Wo_st3 rfl Tryd.sizeOf26 rfl rfl (by first | rfl | assumption) (by first | rfl | assumption) (by first | rfl | assumption) (hB1.ext E13) (by omega) (E10.trans E13) ?_;rintro w8 E14 hB1 K4 hz4
  have hB2:=(hB2.ext E13).of_heap (K4 _ (by omega));refine Wo rfl (opv_assign (v:=.bool _) rfl) ?_;refine Wo_nil ?_;refine W_ret ?_;rotate_left;refine W_skip ?_;refine W_seq ?_;refine W_region rfl ?_
  refine Wo (v:=.agg _) rfl (opv_load3 Tryd.isAgg26 Tryd.sizeOf26 rfl (hB2.ext E13)) ?_
  refine Wo_st3 rfl Tryd.sizeOf26 rfl rfl (by first | rfl | assumption) (by first | rfl | assumption) (by first | rfl | assumption) (hB1.ext E13) (by omega) (E10.trans E13) ?_;rintro w8 E14 hB1 K4 hz4
  have hB2:=(hB2.ext E13).of_heap (K4 _ (by omega));refine Wo rfl (opv_assign (v:=.bool _) rfl) ?_;refine Wo_nil ?_;refine W_ret ?_;rotate_left;refine W_seq ?_;refine W_region rfl ?_
  refine Wo rfl (opv_move (v:=.string _) rfl) ?_;refine Wo rfl (opv_eql_str rfl rfl) ?_;refine Wo_split_dec rfl (opv_move (v:=.bool _) rfl) (fun h9=>?_) (fun h9=>?_);refine Wo rfl (opv_move (v:=.bool _) rfl) ?_
  refine Wo rfl (opv_pick_t (v:=.bool _) rfl rfl) ?_;refine Wo rfl (opv_assign (v:=.bool _) rfl) ?_;refine Wo_nil ?_;refine W_cond rfl (fun h10=>?_) (fun h10=>?_);refine W_seq ?_;refine W_region rfl ?_
  refine Wo rfl (opv_fieldAddr Tryd.underlying26 rfl rfl Tryd.sizeOf3 rfl) ?_;refine Wo_st (v:=.int _ _) rfl Tryd.sizeOf3 rfl rfl rfl hB2 (by decide) (by omega) E4 ?_;rintro w5 E7 hB2 K2 hz2
  have E8:=E5.wroteAt E4 E7 K2 hz2 (by omega);have szE8:=E8.size;have E9:=E6.wroteAt E4 E7 K2 hz2 (by omega);have szE9:=E9.size;simp only [List.set] at hB2;have hB1:=hB1.of_heap (K2 _ (by omega));refine Wo_nil ?_
  refine W_region rfl ?_;refine Wo rfl (opv_move (v:=.string _) rfl) ?_;refine Wo rfl (opv_fieldAddr Tryd.underlying26 rfl rfl Tryd.sizeOf9 rfl) ?_
  refine Wo_st (v:=.string _) rfl Tryd.sizeOf9 rfl rfl rfl hB2 (by decide) (by omega) E7 ?_;rintro w6 E10 hB2 K3 hz3;have E11:=E8.wroteAt E7 E10 K3 hz3 (by omega);have szE11:=E11.size
  have E12:=E9.wroteAt E7 E10 K3 hz3 (by omega);have szE12:=E12.size;simp only [List.set] at hB2;have hB1:=hB1.of_heap (K3 _ (by omega));refine Wo_nil ?_;refine W_seq ?_;refine W_seq ?_;refine W_region rfl ?_
  refine Wo (v:=.agg _) rfl (opv_load3 Tryd.isAgg26 Tryd.sizeOf26 rfl hB2) ?_;refine Wo_call rfl (opc1 (a:=.agg _) Tryd.call44 rfl) (k3 _ _ _ ((Mono.mono E10 hM))) ?_;rintro _ w7 ⟨rfl,E13⟩;have hs4:=E13.size
  refine Wo rfl (opv_move (v:=.string _) rfl) ?_;refine Wo rfl (opv_neq_str rfl rfl) ?_;refine Wo_nil ?_;refine W_cond_ndec rfl (fun h11=>?_) (fun h11=>?_);refine W_seq ?_;refine W_region rfl ?_
  refine Wo rfl (opv_build (ps:=[]) (cs:=[_,_,_]) flat26 rfl rfl) ?_
  refine Wo_st3 rfl Tryd.sizeOf26 rfl rfl (by first | rfl | assumption) (by first | rfl | assumption) (by first | rfl | assumption) (hB1.ext E13) (by omega) (E10.trans E13) ?_;rintro w8 E14 hB1 K4 hz4
  have hB2:=(hB2.ext E13).of_heap (K4 _ (by omega));refine Wo rfl (opv_assign (v:=.bool _) rfl) ?_;refine Wo_nil ?_;refine W_ret ?_;rotate_left;refine W_skip ?_;refine W_seq ?_;refine W_region rfl ?_
  refine Wo (v:=.agg _) rfl (opv_load3 Tryd.isAgg26 Tryd.sizeOf26 rfl (hB2.ext E13)) ?_
  refine Wo_st3 rfl Tryd.sizeOf26 rfl rfl (by first | rfl | assumption) (by first | rfl | assumption) (by first | rfl | assumption) (hB1.ext E13) (by omega) (E10.trans E13) ?_;rintro w8 E14 hB1 K4 hz4
  have hB2:=(hB2.ext E13).of_heap (K4 _ (by omega));refine Wo rfl (opv_assign (v:=.bool _) rfl) ?_;refine Wo_nil ?_;refine W_ret ?_;rotate_left;refine W_seq ?_;refine W_region rfl ?_
  refine Wo rfl (opv_build (ps:=[]) (cs:=[_,_,_]) flat26 rfl rfl) ?_;refine Wo_st3 rfl Tryd.sizeOf26 rfl rfl (by first | rfl | assumption) (by first | rfl | assumption) (by first | rfl | assumption) hB1 (by omega) E4 ?_
  rintro w5 E7 hB1 K2 hz2;have hB2:=hB2.of_heap (K2 _ (by omega));refine Wo rfl (opv_assign (v:=.bool _) rfl) ?_;refine Wo_nil ?_;refine W_ret ?_;rotate_left;refine Wo_skip rfl ?_
  refine Wo rfl (opv_pick_f (v:=.bool _) rfl rfl) ?_;refine Wo rfl (opv_assign (v:=.bool _) rfl) ?_;refine Wo_nil ?_;refine W_cond_false rfl ?_;refine W_seq ?_;refine W_region rfl ?_
  refine Wo rfl (opv_build (ps:=[]) (cs:=[_,_,_]) flat26 rfl rfl) ?_;refine Wo_st3 rfl Tryd.sizeOf26 rfl rfl (by first | rfl | assumption) (by first | rfl | assumption) (by first | rfl | assumption) hB1 (by omega) E4 ?_
  rintro w5 E7 hB1 K2 hz2;have hB2:=hB2.of_heap (K2 _ (by omega));refine Wo rfl (opv_assign (v:=.bool _) rfl) ?_;refine Wo_nil ?_;refine W_ret ?_;rotate_left;refine Wo_skip rfl ?_
  refine Wo rfl (opv_pick_f (v:=.bool _) rfl rfl) ?_;refine Wo rfl (opv_assign (v:=.bool _) rfl) ?_;refine Wo_nil ?_;refine W_cond_false rfl ?_;refine W_seq ?_;refine W_region rfl ?_
  refine Wo rfl (opv_move (v:=.string _) rfl) ?_;refine Wo rfl (opv_eql_str rfl rfl) ?_;refine Wo_split_dec rfl (opv_move (v:=.bool _) rfl) (fun h8=>?_) (fun h8=>?_);refine Wo rfl (opv_move (v:=.bool _) rfl) ?_
  refine Wo rfl (opv_pick_t (v:=.bool _) rfl rfl) ?_;refine Wo rfl (opv_assign (v:=.bool _) rfl) ?_;refine Wo_nil ?_;refine W_cond rfl (fun h9=>?_) (fun h9=>?_);refine W_seq ?_;refine W_region rfl ?_
  refine Wo rfl (opv_fieldAddr Tryd.underlying26 rfl rfl Tryd.sizeOf3 rfl) ?_;refine Wo_st (v:=.int _ _) rfl Tryd.sizeOf3 rfl rfl rfl hB2 (by decide) (by omega) E4 ?_;rintro w5 E7 hB2 K2 hz2
  have E8:=E5.wroteAt E4 E7 K2 hz2 (by omega);have szE8:=E8.size;have E9:=E6.wroteAt E4 E7 K2 hz2 (by omega);have szE9:=E9.size;simp only [List.set] at hB2;have hB1:=hB1.of_heap (K2 _ (by omega));refine Wo_nil ?_
  refine W_region rfl ?_;refine Wo rfl (opv_move (v:=.string _) rfl) ?_;refine Wo rfl (opv_fieldAddr Tryd.underlying26 rfl rfl Tryd.sizeOf9 rfl) ?_
  refine Wo_st (v:=.string _) rfl Tryd.sizeOf9 rfl rfl rfl hB2 (by decide) (by omega) E7 ?_;rintro w6 E10 hB2 K3 hz3;have E11:=E8.wroteAt E7 E10 K3 hz3 (by omega);have szE11:=E11.size
  have E12:=E9.wroteAt E7 E10 K3 hz3 (by omega);have szE12:=E12.size;simp only [List.set] at hB2;have hB1:=hB1.of_heap (K3 _ (by omega));refine Wo_nil ?_;refine W_seq ?_;refine W_seq ?_;refine W_region rfl ?_
  refine Wo (v:=.agg _) rfl (opv_load3 Tryd.isAgg26 Tryd.sizeOf26 rfl hB2) ?_;refine Wo_call rfl (opc1 (a:=.agg _) Tryd.call44 rfl) (k3 _ _ _ ((Mono.mono E10 hM))) ?_;rintro _ w7 ⟨rfl,E13⟩;have hs4:=E13.size
  refine Wo rfl (opv_move (v:=.string _) rfl) ?_;refine Wo rfl (opv_neq_str rfl rfl) ?_;refine Wo_nil ?_;refine W_cond_ndec rfl (fun h10=>?_) (fun h10=>?_);refine W_seq ?_;refine W_region rfl ?_
  refine Wo rfl (opv_build (ps:=[]) (cs:=[_,_,_]) flat26 rfl rfl) ?_
  refine Wo_st3 rfl Tryd.sizeOf26 rfl rfl (by first | rfl | assumption) (by first | rfl | assumption) (by first | rfl | assumption) (hB1.ext E13) (by omega) (E10.trans E13) ?_;rintro w8 E14 hB1 K4 hz4
  have hB2:=(hB2.ext E13).of_heap (K4 _ (by omega));refine Wo rfl (opv_assign (v:=.bool _) rfl) ?_;refine Wo_nil ?_;refine W_ret ?_;rotate_left;refine W_skip ?_;refine W_seq ?_;refine W_region rfl ?_
  refine Wo (v:=.agg _) rfl (opv_load3 Tryd.isAgg26 Tryd.sizeOf26 rfl (hB2.ext E13)) ?_
  refine Wo_st3 rfl Tryd.sizeOf26 rfl rfl (by first | rfl | assumption) (by first | rfl | assumption) (by first | rfl | assumption) (hB1.ext E13) (by omega) (E10.trans E13) ?_;rintro w8 E14 hB1 K4 hz4
  have hB2:=(hB2.ext E13).of_heap (K4 _ (by omega));refine Wo rfl (opv_assign (v:=.bool _) rfl) ?_;refine Wo_nil ?_;refine W_ret ?_;rotate_left;refine W_seq ?_;refine W_region rfl ?_
  refine Wo rfl (opv_build (ps:=[]) (cs:=[_,_,_]) flat26 rfl rfl) ?_;refine Wo_st3 rfl Tryd.sizeOf26 rfl rfl (by first | rfl | assumption) (by first | rfl | assumption) (by first | rfl | assumption) hB1 (by omega) E4 ?_
  rintro w5 E7 hB1 K2 hz2;have hB2:=hB2.of_heap (K2 _ (by omega));refine Wo rfl (opv_assign (v:=.bool _) rfl) ?_;refine Wo_nil ?_;refine W_ret ?_;rotate_left;refine Wo_skip rfl ?_
  refine Wo rfl (opv_pick_f (v:=.bool _) rfl rfl) ?_;refine Wo rfl (opv_assign (v:=.bool _) rfl) ?_;refine Wo_nil ?_;refine W_cond_false rfl ?_;refine W_seq ?_;refine W_region rfl ?_
  refine Wo rfl (opv_build (ps:=[]) (cs:=[_,_,_]) flat26 rfl rfl) ?_;refine Wo_st3 rfl Tryd.sizeOf26 rfl rfl (by first | rfl | assumption) (by first | rfl | assumption) (by first | rfl | assumption) hB1 (by omega) E4 ?_
  rintro w5 E7 hB1 K2 hz2;have hB2:=hB2.of_heap (K2 _ (by omega));refine Wo rfl (opv_assign (v:=.bool _) rfl) ?_;refine Wo_nil ?_;refine W_ret ?_;rotate_left;refine Wo_skip rfl ?_;refine Wo_skip rfl ?_
  refine Wo_skip rfl ?_;refine Wo rfl (opv_pick_f (v:=.bool _) rfl rfl) ?_;refine Wo rfl (opv_assign (v:=.bool _) rfl) ?_;refine Wo_nil ?_;refine W_cond_false rfl ?_;refine W_seq ?_;refine W_region rfl ?_
  refine Wo rfl (opv_move (v:=.string _) rfl) ?_;refine Wo rfl (opv_eql_str rfl rfl) ?_;refine Wo_split_dec rfl (opv_move (v:=.bool _) rfl) (fun h6=>?_) (fun h6=>?_);refine Wo rfl (opv_move (v:=.bool _) rfl) ?_
  refine Wo rfl (opv_pick_t (v:=.bool _) rfl rfl) ?_;refine Wo rfl (opv_assign (v:=.bool _) rfl) ?_;refine Wo_nil ?_;refine W_cond rfl (fun h7=>?_) (fun h7=>?_);refine W_seq ?_;refine W_region rfl ?_
  refine Wo rfl (opv_fieldAddr Tryd.underlying26 rfl rfl Tryd.sizeOf3 rfl) ?_;refine Wo_st (v:=.int _ _) rfl Tryd.sizeOf3 rfl rfl rfl hB2 (by decide) (by omega) E4 ?_;rintro w5 E7 hB2 K2 hz2
  have E8:=E5.wroteAt E4 E7 K2 hz2 (by omega);have szE8:=E8.size;have E9:=E6.wroteAt E4 E7 K2 hz2 (by omega);have szE9:=E9.size;simp only [List.set] at hB2;have hB1:=hB1.of_heap (K2 _ (by omega));refine Wo_nil ?_
  refine W_region rfl ?_;refine Wo rfl (opv_move (v:=.string _) rfl) ?_;refine Wo rfl (opv_fieldAddr Tryd.underlying26 rfl rfl Tryd.sizeOf9 rfl) ?_
  refine Wo_st (v:=.string _) rfl Tryd.sizeOf9 rfl rfl rfl hB2 (by decide) (by omega) E7 ?_;rintro w6 E10 hB2 K3 hz3;have E11:=E8.wroteAt E7 E10 K3 hz3 (by omega);have szE11:=E11.size
  have E12:=E9.wroteAt E7 E10 K3 hz3 (by omega);have szE12:=E12.size;simp only [List.set] at hB2;have hB1:=hB1.of_heap (K3 _ (by omega));refine Wo_nil ?_;refine W_seq ?_;refine W_seq ?_;refine W_region rfl ?_
  refine Wo (v:=.agg _) rfl (opv_load3 Tryd.isAgg26 Tryd.sizeOf26 rfl hB2) ?_;refine Wo_call rfl (opc1 (a:=.agg _) Tryd.call44 rfl) (k3 _ _ _ ((Mono.mono E10 hM))) ?_;rintro _ w7 ⟨rfl,E13⟩;have hs4:=E13.size
  refine Wo rfl (opv_move (v:=.string _) rfl) ?_;refine Wo rfl (opv_neq_str rfl rfl) ?_;refine Wo_nil ?_;refine W_cond_ndec rfl (fun h8=>?_) (fun h8=>?_);refine W_seq ?_;refine W_region rfl ?_
  refine Wo rfl (opv_build (ps:=[]) (cs:=[_,_,_]) flat26 rfl rfl) ?_
  refine Wo_st3 rfl Tryd.sizeOf26 rfl rfl (by first | rfl | assumption) (by first | rfl | assumption) (by first | rfl | assumption) (hB1.ext E13) (by omega) (E10.trans E13) ?_;rintro w8 E14 hB1 K4 hz4
  have hB2:=(hB2.ext E13).of_heap (K4 _ (by omega));refine Wo rfl (opv_assign (v:=.bool _) rfl) ?_;refine Wo_nil ?_;refine W_ret ?_;rotate_left;refine W_skip ?_;refine W_seq ?_;refine W_region rfl ?_
  refine Wo (v:=.agg _) rfl (opv_load3 Tryd.isAgg26 Tryd.sizeOf26 rfl (hB2.ext E13)) ?_
  refine Wo_st3 rfl Tryd.sizeOf26 rfl rfl (by first | rfl | assumption) (by first | rfl | assumption) (by first | rfl | assumption) (hB1.ext E13) (by omega) (E10.trans E13) ?_;rintro w8 E14 hB1 K4 hz4
  have hB2:=(hB2.ext E13).of_heap (K4 _ (by omega));refine Wo rfl (opv_assign (v:=.bool _) rfl) ?_;refine Wo_nil ?_;refine W_ret ?_;rotate_left;refine W_seq ?_;refine W_region rfl ?_
  refine Wo rfl (opv_move (v:=.string _) rfl) ?_;refine Wo rfl (opv_eql_str rfl rfl) ?_;refine Wo_split_dec rfl (opv_move (v:=.bool _) rfl) (fun h8=>?_) (fun h8=>?_);refine Wo rfl (opv_move (v:=.bool _) rfl) ?_
  refine Wo rfl (opv_pick_t (v:=.bool _) rfl rfl) ?_;refine Wo rfl (opv_assign (v:=.bool _) rfl) ?_;refine Wo_nil ?_;refine W_cond rfl (fun h9=>?_) (fun h9=>?_);refine W_seq ?_;refine W_region rfl ?_
  refine Wo rfl (opv_fieldAddr Tryd.underlying26 rfl rfl Tryd.sizeOf3 rfl) ?_;refine Wo_st (v:=.int _ _) rfl Tryd.sizeOf3 rfl rfl rfl hB2 (by decide) (by omega) E4 ?_;rintro w5 E7 hB2 K2 hz2
  have E8:=E5.wroteAt E4 E7 K2 hz2 (by omega);have szE8:=E8.size;have E9:=E6.wroteAt E4 E7 K2 hz2 (by omega);have szE9:=E9.size;simp only [List.set] at hB2;have hB1:=hB1.of_heap (K2 _ (by omega));refine Wo_nil ?_
  refine W_region rfl ?_;refine Wo rfl (opv_move (v:=.string _) rfl) ?_;refine Wo rfl (opv_fieldAddr Tryd.underlying26 rfl rfl Tryd.sizeOf9 rfl) ?_
  refine Wo_st (v:=.string _) rfl Tryd.sizeOf9 rfl rfl rfl hB2 (by decide) (by omega) E7 ?_;rintro w6 E10 hB2 K3 hz3;have E11:=E8.wroteAt E7 E10 K3 hz3 (by omega);have szE11:=E11.size
  have E12:=E9.wroteAt E7 E10 K3 hz3 (by omega);have szE12:=E12.size;simp only [List.set] at hB2;have hB1:=hB1.of_heap (K3 _ (by omega));refine Wo_nil ?_;refine W_seq ?_;refine W_seq ?_;refine W_region rfl ?_
  refine Wo (v:=.agg _) rfl (opv_load3 Tryd.isAgg26 Tryd.sizeOf26 rfl hB2) ?_;refine Wo_call rfl (opc1 (a:=.agg _) Tryd.call44 rfl) (k3 _ _ _ ((Mono.mono E10 hM))) ?_;rintro _ w7 ⟨rfl,E13⟩;have hs4:=E13.size
  refine Wo rfl (opv_move (v:=.string _) rfl) ?_;refine Wo rfl (opv_neq_str rfl rfl) ?_;refine Wo_nil ?_;refine W_cond_ndec rfl (fun h10=>?_) (fun h10=>?_);refine W_seq ?_;refine W_region rfl ?_
  refine Wo rfl (opv_build (ps:=[]) (cs:=[_,_,_]) flat26 rfl rfl) ?_
  refine Wo_st3 rfl Tryd.sizeOf26 rfl rfl (by first | rfl | assumption) (by first | rfl | assumption) (by first | rfl | assumption) (hB1.ext E13) (by omega) (E10.trans E13) ?_;rintro w8 E14 hB1 K4 hz4
  have hB2:=(hB2.ext E13).of_heap (K4 _ (by omega));refine Wo rfl (opv_assign (v:=.bool _) rfl) ?_;refine Wo_nil ?_;refine W_ret ?_;rotate_left;refine W_skip ?_;refine W_seq ?_;refine W_region rfl ?_
  refine Wo (v:=.agg _) rfl (opv_load3 Tryd.isAgg26 Tryd.sizeOf26 rfl (hB2.ext E13)) ?_
  refine Wo_st3 rfl Tryd.sizeOf26 rfl rfl (by first | rfl | assumption) (by first | rfl | assumption) (by first | rfl | assumption) (hB1.ext E13) (by omega) (E10.trans E13) ?_;rintro w8 E14 hB1 K4 hz4
  have hB2:=(hB2.ext E13).of_heap (K4 _ (by omega));refine Wo rfl (opv_assign (v:=.bool _) rfl) ?_;refine Wo_nil ?_;refine W_ret ?_;rotate_left;refine W_seq ?_;refine W_region rfl ?_
  refine Wo rfl (opv_build (ps:=[]) (cs:=[_,_,_]) flat26 rfl rfl) ?_;refine Wo_st3 rfl Tryd.sizeOf26 rfl rfl (by first | rfl | assumption) (by first | rfl | assumption) (by first | rfl | assumption) hB1 (by omega) E4 ?_
  rintro w5 E7 hB1 K2 hz2;have hB2:=hB2.of_heap (K2 _ (by omega));refine Wo rfl (opv_assign (v:=.bool _) rfl) ?_;refine Wo_nil ?_;refine W_ret ?_;rotate_left;refine Wo_skip rfl ?_
  refine Wo rfl (opv_pick_f (v:=.bool _) rfl rfl) ?_;refine Wo rfl (opv_assign (v:=.bool _) rfl) ?_;refine Wo_nil ?_;refine W_cond_false rfl ?_;refine W_seq ?_;refine W_region rfl ?_
  refine Wo rfl (opv_build (ps:=[]) (cs:=[_,_,_]) flat26 rfl rfl) ?_;refine Wo_st3 rfl Tryd.sizeOf26 rfl rfl (by first | rfl | assumption) (by first | rfl | assumption) (by first | rfl | assumption) hB1 (by omega) E4 ?_
  rintro w5 E7 hB1 K2 hz2;have hB2:=hB2.of_heap (K2 _ (by omega));refine Wo rfl (opv_assign (v:=.bool _) rfl) ?_;refine Wo_nil ?_;refine W_ret ?_;rotate_left;refine Wo_skip rfl ?_
  refine Wo rfl (opv_pick_f (v:=.bool _) rfl rfl) ?_;refine Wo rfl (opv_assign (v:=.bool _) rfl) ?_;refine Wo_nil ?_;refine W_cond_false rfl ?_;refine W_seq ?_;refine W_region rfl ?_
  refine Wo rfl (opv_move (v:=.string _) rfl) ?_;refine Wo rfl (opv_eql_str rfl rfl) ?_;refine Wo_split_dec rfl (opv_move (v:=.bool _) rfl) (fun h7=>?_) (fun h7=>?_);refine Wo rfl (opv_move (v:=.bool _) rfl) ?_
  refine Wo rfl (opv_pick_t (v:=.bool _) rfl rfl) ?_;refine Wo rfl (opv_assign (v:=.bool _) rfl) ?_;refine Wo_nil ?_;refine W_cond rfl (fun h8=>?_) (fun h8=>?_);refine W_seq ?_;refine W_region rfl ?_
  refine Wo rfl (opv_fieldAddr Tryd.underlying26 rfl rfl Tryd.sizeOf3 rfl) ?_;refine Wo_st (v:=.int _ _) rfl Tryd.sizeOf3 rfl rfl rfl hB2 (by decide) (by omega) E4 ?_;rintro w5 E7 hB2 K2 hz2
  have E8:=E5.wroteAt E4 E7 K2 hz2 (by omega);have szE8:=E8.size;have E9:=E6.wroteAt E4 E7 K2 hz2 (by omega);have szE9:=E9.size;simp only [List.set] at hB2;have hB1:=hB1.of_heap (K2 _ (by omega));refine Wo_nil ?_
  refine W_region rfl ?_;refine Wo rfl (opv_move (v:=.string _) rfl) ?_;refine Wo rfl (opv_fieldAddr Tryd.underlying26 rfl rfl Tryd.sizeOf9 rfl) ?_
  refine Wo_st (v:=.string _) rfl Tryd.sizeOf9 rfl rfl rfl hB2 (by decide) (by omega) E7 ?_;rintro w6 E10 hB2 K3 hz3;have E11:=E8.wroteAt E7 E10 K3 hz3 (by omega);have szE11:=E11.size
  have E12:=E9.wroteAt E7 E10 K3 hz3 (by omega);have szE12:=E12.size;simp only [List.set] at hB2;have hB1:=hB1.of_heap (K3 _ (by omega));refine Wo_nil ?_;refine W_seq ?_;refine W_seq ?_;refine W_region rfl ?_
  refine Wo (v:=.agg _) rfl (opv_load3 Tryd.isAgg26 Tryd.sizeOf26 rfl hB2) ?_;refine Wo_call rfl (opc1 (a:=.agg _) Tryd.call44 rfl) (k3 _ _ _ ((Mono.mono E10 hM))) ?_;rintro _ w7 ⟨rfl,E13⟩;have hs4:=E13.size
  refine Wo rfl (opv_move (v:=.string _) rfl) ?_;refine Wo rfl (opv_neq_str rfl rfl) ?_;refine Wo_nil ?_;refine W_cond_ndec rfl (fun h9=>?_) (fun h9=>?_);refine W_seq ?_;refine W_region rfl ?_
  refine Wo rfl (opv_build (ps:=[]) (cs:=[_,_,_]) flat26 rfl rfl) ?_
  refine Wo_st3 rfl Tryd.sizeOf26 rfl rfl (by first | rfl | assumption) (by first | rfl | assumption) (by first | rfl | assumption) (hB1.ext E13) (by omega) (E10.trans E13) ?_;rintro w8 E14 hB1 K4 hz4
  have hB2:=(hB2.ext E13).of_heap (K4 _ (by omega));refine Wo rfl (opv_assign (v:=.bool _) rfl) ?_;refine Wo_nil ?_;refine W_ret ?_;rotate_left;refine W_skip ?_;refine W_seq ?_;refine W_region rfl ?_
  refine Wo (v:=.agg _) rfl (opv_load3 Tryd.isAgg26 Tryd.sizeOf26 rfl (hB2.ext E13)) ?_
  refine Wo_st3 rfl Tryd.sizeOf26 rfl rfl (by first | rfl | assumption) (by first | rfl | assumption) (by first | rfl | assumption) (hB1.ext E13) (by omega) (E10.trans E13) ?_;rintro w8 E14 hB1 K4 hz4
  have hB2:=(hB2.ext E13).of_heap (K4 _ (by omega));refine Wo rfl (opv_assign (v:=.bool _) rfl) ?_;refine Wo_nil ?_;refine W_ret ?_;rotate_left;refine W_seq ?_;refine W_region rfl ?_
  refine Wo rfl (opv_build (ps:=[]) (cs:=[_,_,_]) flat26 rfl rfl) ?_;refine Wo_st3 rfl Tryd.sizeOf26 rfl rfl (by first | rfl | assumption) (by first | rfl | assumption) (by first | rfl | assumption) hB1 (by omega) E4 ?_
  rintro w5 E7 hB1 K2 hz2;have hB2:=hB2.of_heap (K2 _ (by omega));refine Wo rfl (opv_assign (v:=.bool _) rfl) ?_;refine Wo_nil ?_;refine W_ret ?_;rotate_left;refine Wo_skip rfl ?_
  refine Wo rfl (opv_pick_f (v:=.bool _) rfl rfl) ?_;refine Wo rfl (opv_assign (v:=.bool _) rfl) ?_;refine Wo_nil ?_;refine W_cond_false rfl ?_;refine W_seq ?_;refine W_region rfl ?_
  refine Wo rfl (opv_build (ps:=[]) (cs:=[_,_,_]) flat26 rfl rfl) ?_;refine Wo_st3 rfl Tryd.sizeOf26 rfl rfl (by first | rfl | assumption) (by first | rfl | assumption) (by first | rfl | assumption) hB1 (by omega) E4 ?_
  rintro w5 E7 hB1 K2 hz2;have hB2:=hB2.of_heap (K2 _ (by omega));refine Wo rfl (opv_assign (v:=.bool _) rfl) ?_;refine Wo_nil ?_;refine W_ret ?_;rotate_left;refine Wo_skip rfl ?_;refine Wo_skip rfl ?_
  refine Wo_skip rfl ?_;refine Wo rfl (opv_pick_f (v:=.bool _) rfl rfl) ?_;refine Wo rfl (opv_move (v:=.bool _) rfl) ?_;refine Wo_skip rfl ?_;refine Wo_skip rfl ?_;refine Wo_skip rfl ?_
  refine Wo rfl (opv_pick_f (v:=.bool _) rfl rfl) ?_;refine Wo rfl (opv_assign (v:=.bool _) rfl) ?_;refine Wo_nil ?_;refine W_cond_false rfl ?_;refine W_seq ?_;refine W_region rfl ?_
  refine Wo rfl (opv_move (v:=.string _) rfl) ?_;refine Wo rfl (opv_eql_str rfl rfl) ?_;refine Wo_split_dec rfl (opv_move (v:=.bool _) rfl) (fun h5=>?_) (fun h5=>?_);refine Wo rfl (opv_move (v:=.bool _) rfl) ?_
  refine Wo rfl (opv_pick_t (v:=.bool _) rfl rfl) ?_;refine Wo rfl (opv_assign (v:=.bool _) rfl) ?_;refine Wo_nil ?_;refine W_cond rfl (fun h6=>?_) (fun h6=>?_);refine W_seq ?_;refine W_region rfl ?_
  refine Wo rfl (opv_fieldAddr Tryd.underlying26 rfl rfl Tryd.sizeOf3 rfl) ?_;refine Wo_st (v:=.int _ _) rfl Tryd.sizeOf3 rfl rfl rfl hB2 (by decide) (by omega) E4 ?_;rintro w5 E7 hB2 K2 hz2
  have E8:=E5.wroteAt E4 E7 K2 hz2 (by omega);have szE8:=E8.size;have E9:=E6.wroteAt E4 E7 K2 hz2 (by omega);have szE9:=E9.size;simp only [List.set] at hB2;have hB1:=hB1.of_heap (K2 _ (by omega));refine Wo_nil ?_
  refine W_region rfl ?_;refine Wo rfl (opv_move (v:=.string _) rfl) ?_;refine Wo rfl (opv_fieldAddr Tryd.underlying26 rfl rfl Tryd.sizeOf9 rfl) ?_
  refine Wo_st (v:=.string _) rfl Tryd.sizeOf9 rfl rfl rfl hB2 (by decide) (by omega) E7 ?_;rintro w6 E10 hB2 K3 hz3;have E11:=E8.wroteAt E7 E10 K3 hz3 (by omega);have szE11:=E11.size
  have E12:=E9.wroteAt E7 E10 K3 hz3 (by omega);have szE12:=E12.size;simp only [List.set] at hB2;have hB1:=hB1.of_heap (K3 _ (by omega));refine Wo_nil ?_;refine W_seq ?_;refine W_seq ?_;refine W_region rfl ?_
  refine Wo (v:=.agg _) rfl (opv_load3 Tryd.isAgg26 Tryd.sizeOf26 rfl hB2) ?_;refine Wo_call rfl (opc1 (a:=.agg _) Tryd.call44 rfl) (k3 _ _ _ ((Mono.mono E10 hM))) ?_;rintro _ w7 ⟨rfl,E13⟩;have hs4:=E13.size
  refine Wo rfl (opv_move (v:=.string _) rfl) ?_;refine Wo rfl (opv_neq_str rfl rfl) ?_;refine Wo_nil ?_;refine W_cond_ndec rfl (fun h7=>?_) (fun h7=>?_);refine W_seq ?_;refine W_region rfl ?_
  refine Wo rfl (opv_build (ps:=[]) (cs:=[_,_,_]) flat26 rfl rfl) ?_
  refine Wo_st3 rfl Tryd.sizeOf26 rfl rfl (by first | rfl | assumption) (by first | rfl | assumption) (by first | rfl | assumption) (hB1.ext E13) (by omega) (E10.trans E13) ?_;rintro w8 E14 hB1 K4 hz4
  have hB2:=(hB2.ext E13).of_heap (K4 _ (by omega));refine Wo rfl (opv_assign (v:=.bool _) rfl) ?_;refine Wo_nil ?_;refine W_ret ?_;rotate_left;refine W_skip ?_;refine W_seq ?_;refine W_region rfl ?_
  refine Wo (v:=.agg _) rfl (opv_load3 Tryd.isAgg26 Tryd.sizeOf26 rfl (hB2.ext E13)) ?_
  refine Wo_st3 rfl Tryd.sizeOf26 rfl rfl (by first | rfl | assumption) (by first | rfl | assumption) (by first | rfl | assumption) (hB1.ext E13) (by omega) (E10.trans E13) ?_;rintro w8 E14 hB1 K4 hz4
  have hB2:=(hB2.ext E13).of_heap (K4 _ (by omega));refine Wo rfl (opv_assign (v:=.bool _) rfl) ?_;refine Wo_nil ?_;refine W_ret ?_;rotate_left;refine W_seq ?_;refine W_region rfl ?_
  refine Wo rfl (opv_move (v:=.string _) rfl) ?_;refine Wo rfl (opv_eql_str rfl rfl) ?_;refine Wo_split_dec rfl (opv_move (v:=.bool _) rfl) (fun h7=>?_) (fun h7=>?_);refine Wo rfl (opv_move (v:=.bool _) rfl) ?_
  refine Wo rfl (opv_pick_t (v:=.bool _) rfl rfl) ?_;refine Wo rfl (opv_assign (v:=.bool _) rfl) ?_;refine Wo_nil ?_;refine W_cond rfl (fun h8=>?_) (fun h8=>?_);refine W_seq ?_;refine W_region rfl ?_
  refine Wo rfl (opv_fieldAddr Tryd.underlying26 rfl rfl Tryd.sizeOf3 rfl) ?_;refine Wo_st (v:=.int _ _) rfl Tryd.sizeOf3 rfl rfl rfl hB2 (by decide) (by omega) E4 ?_;rintro w5 E7 hB2 K2 hz2
  have E8:=E5.wroteAt E4 E7 K2 hz2 (by omega);have szE8:=E8.size;have E9:=E6.wroteAt E4 E7 K2 hz2 (by omega);have szE9:=E9.size;simp only [List.set] at hB2;have hB1:=hB1.of_heap (K2 _ (by omega));refine Wo_nil ?_
  refine W_region rfl ?_;refine Wo rfl (opv_move (v:=.string _) rfl) ?_;refine Wo rfl (opv_fieldAddr Tryd.underlying26 rfl rfl Tryd.sizeOf9 rfl) ?_
  refine Wo_st (v:=.string _) rfl Tryd.sizeOf9 rfl rfl rfl hB2 (by decide) (by omega) E7 ?_;rintro w6 E10 hB2 K3 hz3;have E11:=E8.wroteAt E7 E10 K3 hz3 (by omega);have szE11:=E11.size
  have E12:=E9.wroteAt E7 E10 K3 hz3 (by omega);have szE12:=E12.size;simp only [List.set] at hB2;have hB1:=hB1.of_heap (K3 _ (by omega));refine Wo_nil ?_;refine W_seq ?_;refine W_seq ?_;refine W_region rfl ?_
  refine Wo (v:=.agg _) rfl (opv_load3 Tryd.isAgg26 Tryd.sizeOf26 rfl hB2) ?_;refine Wo_call rfl (opc1 (a:=.agg _) Tryd.call44 rfl) (k3 _ _ _ ((Mono.mono E10 hM))) ?_;rintro _ w7 ⟨rfl,E13⟩;have hs4:=E13.size
  refine Wo rfl (opv_move (v:=.string _) rfl) ?_;refine Wo rfl (opv_neq_str rfl rfl) ?_;refine Wo_nil ?_;refine W_cond_ndec rfl (fun h9=>?_) (fun h9=>?_);refine W_seq ?_;refine W_region rfl ?_
  refine Wo rfl (opv_build (ps:=[]) (cs:=[_,_,_]) flat26 rfl rfl) ?_
  refine Wo_st3 rfl Tryd.sizeOf26 rfl rfl (by first | rfl | assumption) (by first | rfl | assumption) (by first | rfl | assumption) (hB1.ext E13) (by omega) (E10.trans E13) ?_;rintro w8 E14 hB1 K4 hz4
  have hB2:=(hB2.ext E13).of_heap (K4 _ (by omega));refine Wo rfl (opv_assign (v:=.bool _) rfl) ?_;refine Wo_nil ?_;refine W_ret ?_;rotate_left;refine W_skip ?_;refine W_seq ?_;refine W_region rfl ?_
  refine Wo (v:=.agg _) rfl (opv_load3 Tryd.isAgg26 Tryd.sizeOf26 rfl (hB2.ext E13)) ?_
  refine Wo_st3 rfl Tryd.sizeOf26 rfl rfl (by first | rfl | assumption) (by first | rfl | assumption) (by first | rfl | assumption) (hB1.ext E13) (by omega) (E10.trans E13) ?_;rintro w8 E14 hB1 K4 hz4
  have hB2:=(hB2.ext E13).of_heap (K4 _ (by omega));refine Wo rfl (opv_assign (v:=.bool _) rfl) ?_;refine Wo_nil ?_;refine W_ret ?_;rotate_left;refine W_seq ?_;refine W_region rfl ?_
  refine Wo rfl (opv_build (ps:=[]) (cs:=[_,_,_]) flat26 rfl rfl) ?_;refine Wo_st3 rfl Tryd.sizeOf26 rfl rfl (by first | rfl | assumption) (by first | rfl | assumption) (by first | rfl | assumption) hB1 (by omega) E4 ?_
  rintro w5 E7 hB1 K2 hz2;have hB2:=hB2.of_heap (K2 _ (by omega));refine Wo rfl (opv_assign (v:=.bool _) rfl) ?_;refine Wo_nil ?_;refine W_ret ?_;rotate_left;refine Wo_skip rfl ?_
  refine Wo rfl (opv_pick_f (v:=.bool _) rfl rfl) ?_;refine Wo rfl (opv_assign (v:=.bool _) rfl) ?_;refine Wo_nil ?_;refine W_cond_false rfl ?_;refine W_seq ?_;refine W_region rfl ?_
  refine Wo rfl (opv_build (ps:=[]) (cs:=[_,_,_]) flat26 rfl rfl) ?_;refine Wo_st3 rfl Tryd.sizeOf26 rfl rfl (by first | rfl | assumption) (by first | rfl | assumption) (by first | rfl | assumption) hB1 (by omega) E4 ?_
  rintro w5 E7 hB1 K2 hz2;have hB2:=hB2.of_heap (K2 _ (by omega));refine Wo rfl (opv_assign (v:=.bool _) rfl) ?_;refine Wo_nil ?_;refine W_ret ?_;rotate_left;refine Wo_skip rfl ?_
  refine Wo rfl (opv_pick_f (v:=.bool _) rfl rfl) ?_;refine Wo rfl (opv_assign (v:=.bool _) rfl) ?_;refine Wo_nil ?_;refine W_cond_false rfl ?_;refine W_seq ?_;refine W_region rfl ?_
  refine Wo rfl (opv_move (v:=.string _) rfl) ?_;refine Wo rfl (opv_eql_str rfl rfl) ?_;refine Wo_split_dec rfl (opv_move (v:=.bool _) rfl) (fun h6=>?_) (fun h6=>?_);refine Wo rfl (opv_move (v:=.bool _) rfl) ?_
  refine Wo rfl (opv_pick_t (v:=.bool _) rfl rfl) ?_;refine Wo rfl (opv_assign (v:=.bool _) rfl) ?_;refine Wo_nil ?_;refine W_cond rfl (fun h7=>?_) (fun h7=>?_);refine W_seq ?_;refine W_region rfl ?_
  refine Wo rfl (opv_fieldAddr Tryd.underlying26 rfl rfl Tryd.sizeOf3 rfl) ?_;refine Wo_st (v:=.int _ _) rfl Tryd.sizeOf3 rfl rfl rfl hB2 (by decide) (by omega) E4 ?_;rintro w5 E7 hB2 K2 hz2
  have E8:=E5.wroteAt E4 E7 K2 hz2 (by omega);have szE8:=E8.size;have E9:=E6.wroteAt E4 E7 K2 hz2 (by omega);have szE9:=E9.size;simp only [List.set] at hB2;have hB1:=hB1.of_heap (K2 _ (by omega));refine Wo_nil ?_
  refine W_region rfl ?_;refine Wo rfl (opv_move (v:=.string _) rfl) ?_;refine Wo rfl (opv_fieldAddr Tryd.underlying26 rfl rfl Tryd.sizeOf9 rfl) ?_
  refine Wo_st (v:=.string _) rfl Tryd.sizeOf9 rfl rfl rfl hB2 (by decide) (by omega) E7 ?_;rintro w6 E10 hB2 K3 hz3;have E11:=E8.wroteAt E7 E10 K3 hz3 (by omega);have szE11:=E11.size
  have E12:=E9.wroteAt E7 E10 K3 hz3 (by omega);have szE12:=E12.size;simp only [List.set] at hB2;have hB1:=hB1.of_heap (K3 _ (by omega));refine Wo_nil ?_;refine W_seq ?_;refine W_seq ?_;refine W_region rfl ?_
  refine Wo (v:=.agg _) rfl (opv_load3 Tryd.isAgg26 Tryd.sizeOf26 rfl hB2) ?_;refine Wo_call rfl (opc1 (a:=.agg _) Tryd.call44 rfl) (k3 _ _ _ ((Mono.mono E10 hM))) ?_;rintro _ w7 ⟨rfl,E13⟩;have hs4:=E13.size
  refine Wo rfl (opv_move (v:=.string _) rfl) ?_;refine Wo rfl (opv_neq_str rfl rfl) ?_;refine Wo_nil ?_;refine W_cond_ndec rfl (fun h8=>?_) (fun h8=>?_);refine W_seq ?_;refine W_region rfl ?_
  refine Wo rfl (opv_build (ps:=[]) (cs:=[_,_,_]) flat26 rfl rfl) ?_
  refine Wo_st3 rfl Tryd.sizeOf26 rfl rfl (by first | rfl | assumption) (by first | rfl | assumption) (by first | rfl | assumption) (hB1.ext E13) (by omega) (E10.trans E13) ?_;rintro w8 E14 hB1 K4 hz4
  have hB2:=(hB2.ext E13).of_heap (K4 _ (by omega));refine Wo rfl (opv_assign (v:=.bool _) rfl) ?_;refine Wo_nil ?_;refine W_ret ?_;rotate_left;refine W_skip ?_;refine W_seq ?_;refine W_region rfl ?_
  refine Wo (v:=.agg _) rfl (opv_load3 Tryd.isAgg26 Tryd.sizeOf26 rfl (hB2.ext E13)) ?_
  refine Wo_st3 rfl Tryd.sizeOf26 rfl rfl (by first | rfl | assumption) (by first | rfl | assumption) (by first | rfl | assumption) (hB1.ext E13) (by omega) (E10.trans E13) ?_;rintro w8 E14 hB1 K4 hz4
  have hB2:=(hB2.ext E13).of_heap (K4 _ (by omega));refine Wo rfl (opv_assign (v:=.bool _) rfl) ?_;refine Wo_nil ?_;refine W_ret ?_;rotate_left;refine W_seq ?_;refine W_region rfl ?_
  refine Wo rfl (opv_build (ps:=[]) (cs:=[_,_,_]) flat26 rfl rfl) ?_;refine Wo_st3 rfl Tryd.sizeOf26 rfl rfl (by first | rfl | assumption) (by first | rfl | assumption) (by first | rfl | assumption) hB1 (by omega) E4 ?_
  rintro w5 E7 hB1 K2 hz2;have hB2:=hB2.of_heap (K2 _ (by omega));refine Wo rfl (opv_assign (v:=.bool _) rfl) ?_;refine Wo_nil ?_;refine W_ret ?_;rotate_left;refine Wo_skip rfl ?_
  refine Wo rfl (opv_pick_f (v:=.bool _) rfl rfl) ?_;refine Wo rfl (opv_assign (v:=.bool _) rfl) ?_;refine Wo_nil ?_;refine W_cond_false rfl ?_;refine W_seq ?_;refine W_region rfl ?_
  refine Wo rfl (opv_build (ps:=[]) (cs:=[_,_,_]) flat26 rfl rfl) ?_;refine Wo_st3 rfl Tryd.sizeOf26 rfl rfl (by first | rfl | assumption) (by first | rfl | assumption) (by first | rfl | assumption) hB1 (by omega) E4 ?_
  rintro w5 E7 hB1 K2 hz2;have hB2:=hB2.of_heap (K2 _ (by omega));refine Wo rfl (opv_assign (v:=.bool _) rfl) ?_;refine Wo_nil ?_;refine W_ret ?_;rotate_left;refine Wo_skip rfl ?_;refine Wo_skip rfl ?_
  refine Wo_skip rfl ?_;refine Wo rfl (opv_pick_f (v:=.bool _) rfl rfl) ?_;refine Wo rfl (opv_move (v:=.bool _) rfl) ?_;refine Wo_skip rfl ?_;refine Wo_skip rfl ?_;refine Wo_skip rfl ?_
  refine Wo rfl (opv_pick_f (v:=.bool _) rfl rfl) ?_;refine Wo rfl (opv_move (v:=.bool _) rfl) ?_;refine Wo_skip rfl ?_;refine Wo_skip rfl ?_;refine Wo_skip rfl ?_;refine Wo rfl (opv_pick_f (v:=.bool _) rfl rfl) ?_
  refine Wo rfl (opv_assign (v:=.bool _) rfl) ?_;refine Wo_nil ?_;refine W_cond_false rfl ?_;refine W_seq ?_;refine W_region rfl ?_;refine Wo rfl (opv_move (v:=.string _) rfl) ?_;refine Wo rfl (opv_eql_str rfl rfl) ?_
  refine Wo_split_dec rfl (opv_move (v:=.bool _) rfl) (fun h4=>?_) (fun h4=>?_);refine Wo rfl (opv_move (v:=.bool _) rfl) ?_;refine Wo rfl (opv_pick_t (v:=.bool _) rfl rfl) ?_
  refine Wo rfl (opv_assign (v:=.bool _) rfl) ?_;refine Wo_nil ?_;refine W_cond rfl (fun h5=>?_) (fun h5=>?_);refine W_seq ?_;refine W_region rfl ?_
  refine Wo rfl (opv_fieldAddr Tryd.underlying26 rfl rfl Tryd.sizeOf3 rfl) ?_;refine Wo_st (v:=.int _ _) rfl Tryd.sizeOf3 rfl rfl rfl hB2 (by decide) (by omega) E4 ?_;rintro w5 E7 hB2 K2 hz2
  have E8:=E5.wroteAt E4 E7 K2 hz2 (by omega);have szE8:=E8.size;have E9:=E6.wroteAt E4 E7 K2 hz2 (by omega);have szE9:=E9.size;simp only [List.set] at hB2;have hB1:=hB1.of_heap (K2 _ (by omega));refine Wo_nil ?_
  refine W_region rfl ?_;refine Wo rfl (opv_move (v:=.string _) rfl) ?_;refine Wo rfl (opv_fieldAddr Tryd.underlying26 rfl rfl Tryd.sizeOf9 rfl) ?_
  refine Wo_st (v:=.string _) rfl Tryd.sizeOf9 rfl rfl rfl hB2 (by decide) (by omega) E7 ?_;rintro w6 E10 hB2 K3 hz3;have E11:=E8.wroteAt E7 E10 K3 hz3 (by omega);have szE11:=E11.size
  have E12:=E9.wroteAt E7 E10 K3 hz3 (by omega);have szE12:=E12.size;simp only [List.set] at hB2;have hB1:=hB1.of_heap (K3 _ (by omega));refine Wo_nil ?_;refine W_seq ?_;refine W_seq ?_;refine W_region rfl ?_
  refine Wo (v:=.agg _) rfl (opv_load3 Tryd.isAgg26 Tryd.sizeOf26 rfl hB2) ?_;refine Wo_call rfl (opc1 (a:=.agg _) Tryd.call44 rfl) (k3 _ _ _ ((Mono.mono E10 hM))) ?_;rintro _ w7 ⟨rfl,E13⟩;have hs4:=E13.size
  refine Wo rfl (opv_move (v:=.string _) rfl) ?_;refine Wo rfl (opv_neq_str rfl rfl) ?_;refine Wo_nil ?_;refine W_cond_ndec rfl (fun h6=>?_) (fun h6=>?_);refine W_seq ?_;refine W_region rfl ?_
  refine Wo rfl (opv_build (ps:=[]) (cs:=[_,_,_]) flat26 rfl rfl) ?_
  refine Wo_st3 rfl Tryd.sizeOf26 rfl rfl (by first | rfl | assumption) (by first | rfl | assumption) (by first | rfl | assumption) (hB1.ext E13) (by omega) (E10.trans E13) ?_;rintro w8 E14 hB1 K4 hz4
  have hB2:=(hB2.ext E13).of_heap (K4 _ (by omega));refine Wo rfl (opv_assign (v:=.bool _) rfl) ?_;refine Wo_nil ?_;refine W_ret ?_;rotate_left;refine W_skip ?_;refine W_seq ?_;refine W_region rfl ?_
  refine Wo (v:=.agg _) rfl (opv_load3 Tryd.isAgg26 Tryd.sizeOf26 rfl (hB2.ext E13)) ?_
  refine Wo_st3 rfl Tryd.sizeOf26 rfl rfl (by first | rfl | assumption) (by first | rfl | assumption) (by first | rfl | assumption) (hB1.ext E13) (by omega) (E10.trans E13) ?_;rintro w8 E14 hB1 K4 hz4
  have hB2:=(hB2.ext E13).of_heap (K4 _ (by omega));refine Wo rfl (opv_assign (v:=.bool _) rfl) ?_;refine Wo_nil ?_;refine W_ret ?_;rotate_left;refine W_seq ?_;refine W_region rfl ?_
  refine Wo rfl (opv_move (v:=.string _) rfl) ?_;refine Wo rfl (opv_eql_str rfl rfl) ?_;refine Wo_split_dec rfl (opv_move (v:=.bool _) rfl) (fun h6=>?_) (fun h6=>?_);refine Wo rfl (opv_move (v:=.bool _) rfl) ?_
  refine Wo rfl (opv_pick_t (v:=.bool _) rfl rfl) ?_;refine Wo rfl (opv_assign (v:=.bool _) rfl) ?_;refine Wo_nil ?_;refine W_cond rfl (fun h7=>?_) (fun h7=>?_);refine W_seq ?_;refine W_region rfl ?_
  refine Wo rfl (opv_fieldAddr Tryd.underlying26 rfl rfl Tryd.sizeOf3 rfl) ?_;refine Wo_st (v:=.int _ _) rfl Tryd.sizeOf3 rfl rfl rfl hB2 (by decide) (by omega) E4 ?_;rintro w5 E7 hB2 K2 hz2
  have E8:=E5.wroteAt E4 E7 K2 hz2 (by omega);have szE8:=E8.size;have E9:=E6.wroteAt E4 E7 K2 hz2 (by omega);have szE9:=E9.size;simp only [List.set] at hB2;have hB1:=hB1.of_heap (K2 _ (by omega));refine Wo_nil ?_
  refine W_region rfl ?_;refine Wo rfl (opv_move (v:=.string _) rfl) ?_;refine Wo rfl (opv_fieldAddr Tryd.underlying26 rfl rfl Tryd.sizeOf9 rfl) ?_
  refine Wo_st (v:=.string _) rfl Tryd.sizeOf9 rfl rfl rfl hB2 (by decide) (by omega) E7 ?_;rintro w6 E10 hB2 K3 hz3;have E11:=E8.wroteAt E7 E10 K3 hz3 (by omega);have szE11:=E11.size
  have E12:=E9.wroteAt E7 E10 K3 hz3 (by omega);have szE12:=E12.size;simp only [List.set] at hB2;have hB1:=hB1.of_heap (K3 _ (by omega));refine Wo_nil ?_;refine W_seq ?_;refine W_seq ?_;refine W_region rfl ?_
  refine Wo (v:=.agg _) rfl (opv_load3 Tryd.isAgg26 Tryd.sizeOf26 rfl hB2) ?_;refine Wo_call rfl (opc1 (a:=.agg _) Tryd.call44 rfl) (k3 _ _ _ ((Mono.mono E10 hM))) ?_;rintro _ w7 ⟨rfl,E13⟩;have hs4:=E13.size
  refine Wo rfl (opv_move (v:=.string _) rfl) ?_;refine Wo rfl (opv_neq_str rfl rfl) ?_;refine Wo_nil ?_;refine W_cond_ndec rfl (fun h8=>?_) (fun h8=>?_);refine W_seq ?_;refine W_region rfl ?_
  refine Wo rfl (opv_build (ps:=[]) (cs:=[_,_,_]) flat26 rfl rfl) ?_
  refine Wo_st3 rfl Tryd.sizeOf26 rfl rfl (by first | rfl | assumption) (by first | rfl | assumption) (by first | rfl | assumption) (hB1.ext E13) (by omega) (E10.trans E13) ?_;rintro w8 E14 hB1 K4 hz4
  have hB2:=(hB2.ext E13).of_heap (K4 _ (by omega));refine Wo rfl (opv_assign (v:=.bool _) rfl) ?_;refine Wo_nil ?_;refine W_ret ?_;rotate_left;refine W_skip ?_;refine W_seq ?_;refine W_region rfl ?_
  refine Wo (v:=.agg _) rfl (opv_load3 Tryd.isAgg26 Tryd.sizeOf26 rfl (hB2.ext E13)) ?_
  refine Wo_st3 rfl Tryd.sizeOf26 rfl rfl (by first | rfl | assumption) (by first | rfl | assumption) (by first | rfl | assumption) (hB1.ext E13) (by omega) (E10.trans E13) ?_;rintro w8 E14 hB1 K4 hz4
  have hB2:=(hB2.ext E13).of_heap (K4 _ (by omega));refine Wo rfl (opv_assign (v:=.bool _) rfl) ?_;refine Wo_nil ?_;refine W_ret ?_;rotate_left;refine W_seq ?_;refine W_region rfl ?_
  refine Wo rfl (opv_build (ps:=[]) (cs:=[_,_,_]) flat26 rfl rfl) ?_;refine Wo_st3 rfl Tryd.sizeOf26 rfl rfl (by first | rfl | assumption) (by first | rfl | assumption) (by first | rfl | assumption) hB1 (by omega) E4 ?_
  rintro w5 E7 hB1 K2 hz2;have hB2:=hB2.of_heap (K2 _ (by omega));refine Wo rfl (opv_assign (v:=.bool _) rfl) ?_;refine Wo_nil ?_;refine W_ret ?_;rotate_left;refine Wo_skip rfl ?_
  refine Wo rfl (opv_pick_f (v:=.bool _) rfl rfl) ?_;refine Wo rfl (opv_assign (v:=.bool _) rfl) ?_;refine Wo_nil ?_;refine W_cond_false rfl ?_;refine W_seq ?_;refine W_region rfl ?_
  refine Wo rfl (opv_build (ps:=[]) (cs:=[_,_,_]) flat26 rfl rfl) ?_;refine Wo_st3 rfl Tryd.sizeOf26 rfl rfl (by first | rfl | assumption) (by first | rfl | assumption) (by first | rfl | assumption) hB1 (by omega) E4 ?_
  rintro w5 E7 hB1 K2 hz2;have hB2:=hB2.of_heap (K2 _ (by omega));refine Wo rfl (opv_assign (v:=.bool _) rfl) ?_;refine Wo_nil ?_;refine W_ret ?_;rotate_left;refine Wo_skip rfl ?_
  refine Wo rfl (opv_pick_f (v:=.bool _) rfl rfl) ?_;refine Wo rfl (opv_assign (v:=.bool _) rfl) ?_;refine Wo_nil ?_;refine W_cond_false rfl ?_;refine W_seq ?_;refine W_region rfl ?_
  refine Wo rfl (opv_move (v:=.string _) rfl) ?_;refine Wo rfl (opv_eql_str rfl rfl) ?_;refine Wo_split_dec rfl (opv_move (v:=.bool _) rfl) (fun h5=>?_) (fun h5=>?_);refine Wo rfl (opv_move (v:=.bool _) rfl) ?_
  refine Wo rfl (opv_pick_t (v:=.bool _) rfl rfl) ?_;refine Wo rfl (opv_assign (v:=.bool _) rfl) ?_;refine Wo_nil ?_;refine W_cond rfl (fun h6=>?_) (fun h6=>?_);refine W_seq ?_;refine W_region rfl ?_
  refine Wo rfl (opv_fieldAddr Tryd.underlying26 rfl rfl Tryd.sizeOf3 rfl) ?_;refine Wo_st (v:=.int _ _) rfl Tryd.sizeOf3 rfl rfl rfl hB2 (by decide) (by omega) E4 ?_;rintro w5 E7 hB2 K2 hz2
  have E8:=E5.wroteAt E4 E7 K2 hz2 (by omega);have szE8:=E8.size;have E9:=E6.wroteAt E4 E7 K2 hz2 (by omega);have szE9:=E9.size;simp only [List.set] at hB2;have hB1:=hB1.of_heap (K2 _ (by omega));refine Wo_nil ?_
  refine W_region rfl ?_;refine Wo rfl (opv_move (v:=.string _) rfl) ?_;refine Wo rfl (opv_fieldAddr Tryd.underlying26 rfl rfl Tryd.sizeOf9 rfl) ?_
  refine Wo_st (v:=.string _) rfl Tryd.sizeOf9 rfl rfl rfl hB2 (by decide) (by omega) E7 ?_;rintro w6 E10 hB2 K3 hz3;have E11:=E8.wroteAt E7 E10 K3 hz3 (by omega);have szE11:=E11.size
  have E12:=E9.wroteAt E7 E10 K3 hz3 (by omega);have szE12:=E12.size;simp only [List.set] at hB2;have hB1:=hB1.of_heap (K3 _ (by omega));refine Wo_nil ?_;refine W_seq ?_;refine W_seq ?_;refine W_region rfl ?_
  refine Wo (v:=.agg _) rfl (opv_load3 Tryd.isAgg26 Tryd.sizeOf26 rfl hB2) ?_;refine Wo_call rfl (opc1 (a:=.agg _) Tryd.call44 rfl) (k3 _ _ _ ((Mono.mono E10 hM))) ?_;rintro _ w7 ⟨rfl,E13⟩;have hs4:=E13.size
  refine Wo rfl (opv_move (v:=.string _) rfl) ?_;refine Wo rfl (opv_neq_str rfl rfl) ?_;refine Wo_nil ?_;refine W_cond_ndec rfl (fun h7=>?_) (fun h7=>?_);refine W_seq ?_;refine W_region rfl ?_
  refine Wo rfl (opv_build (ps:=[]) (cs:=[_,_,_]) flat26 rfl rfl) ?_
  refine Wo_st3 rfl Tryd.sizeOf26 rfl rfl (by first | rfl | assumption) (by first | rfl | assumption) (by first | rfl | assumption) (hB1.ext E13) (by omega) (E10.trans E13) ?_;rintro w8 E14 hB1 K4 hz4
  have hB2:=(hB2.ext E13).of_heap (K4 _ (by omega));refine Wo rfl (opv_assign (v:=.bool _) rfl) ?_;refine Wo_nil ?_;refine W_ret ?_;rotate_left;refine W_skip ?_;refine W_seq ?_;refine W_region rfl ?_
  refine Wo (v:=.agg _) rfl (opv_load3 Tryd.isAgg26 Tryd.sizeOf26 rfl (hB2.ext E13)) ?_
  refine Wo_st3 rfl Tryd.sizeOf26 rfl rfl (by first | rfl | assumption) (by first | rfl | assumption) (by first | rfl | assumption) (hB1.ext E13) (by omega) (E10.trans E13) ?_;rintro w8 E14 hB1 K4 hz4
  have hB2:=(hB2.ext E13).of_heap (K4 _ (by omega));refine Wo rfl (opv_assign (v:=.bool _) rfl) ?_;refine Wo_nil ?_;refine W_ret ?_;rotate_left;refine W_seq ?_;refine W_region rfl ?_
  refine Wo rfl (opv_build (ps:=[]) (cs:=[_,_,_]) flat26 rfl rfl) ?_;refine Wo_st3 rfl Tryd.sizeOf26 rfl rfl (by first | rfl | assumption) (by first | rfl | assumption) (by first | rfl | assumption) hB1 (by omega) E4 ?_
  rintro w5 E7 hB1 K2 hz2;have hB2:=hB2.of_heap (K2 _ (by omega));refine Wo rfl (opv_assign (v:=.bool _) rfl) ?_;refine Wo_nil ?_;refine W_ret ?_;rotate_left;refine Wo_skip rfl ?_
  refine Wo rfl (opv_pick_f (v:=.bool _) rfl rfl) ?_;refine Wo rfl (opv_assign (v:=.bool _) rfl) ?_;refine Wo_nil ?_;refine W_cond_false rfl ?_;refine W_seq ?_;refine W_region rfl ?_
  refine Wo rfl (opv_build (ps:=[]) (cs:=[_,_,_]) flat26 rfl rfl) ?_;refine Wo_st3 rfl Tryd.sizeOf26 rfl rfl (by first | rfl | assumption) (by first | rfl | assumption) (by first | rfl | assumption) hB1 (by omega) E4 ?_
  rintro w5 E7 hB1 K2 hz2;have hB2:=hB2.of_heap (K2 _ (by omega));refine Wo rfl (opv_assign (v:=.bool _) rfl) ?_;refine Wo_nil ?_;refine W_ret ?_;rotate_left
 all_goals refine ⟨_,_,_,_,rfl,by assumption,?_,by assumption⟩
 all_goals first
  | refine leaf_none ?_ rfl
  | refine leaf_some ?_ rfl
 all_goals clear hc hO k1 k2 k3 hW hR hH hRl hr8
 all_goals rw [hr]
 all_goals try (simp_all;done)
 all_goals (clear hr;simp_all)
 all_goals (rw [if_neg (by omega)])
def digN (l:List UInt8):Int:=l.foldl (fun n c=>10*n+((c.toNat:Int) - 48)) 0
def digV (t:List UInt8):Int:=if (1≤(t.length:Int)∧(t.length:Int)≤5)∧¬(1 < (t.length:Int)∧((t.getD 0 0).toNat:Int)=48)∧∀ c ∈ t,48≤c.toNat∧c.toNat≤57 then digN t else -1
theorem digV_one {d:Nat} (hd:d≤9):digV [dig d]=d:=by
 have h:=dig_toNat (n:=d) (by omega)
 rw [digV,if_pos]
 ·simp only [digN,List.foldl_cons,List.foldl_nil,h];omega
 ·refine ⟨by simp,by simp,fun c hc=>?_⟩
  obtain rfl:=List.mem_singleton.1 hc;omega
theorem l1Digits_ok (w:World) (t:List UInt8) (ht:t.length≤1048576):Does Tryd.prog 46 [str t] w (Ret w (.int .i64 (digV t))):=by
 refine fn_of_W1 Tryd.func46 rfl Tryd.results46 Tryd.ntmps46 rfl ?_
 focus
  refine W_seq ?_;refine W_region rfl ?_;refine Wo rfl (opv_assign (v:=.int _ _) rfl) ?_;refine Wo_nil ?_;refine W_seq ?_;refine W_seq ?_;refine W_region rfl ?_;refine Wo rfl (opv_move (v:=.string _) rfl) ?_
  refine Wo rfl (opv_len_str Tryd.underlying9 rfl) ?_;refine Wo_call rfl (opc3 (a:=.int _ _) (b:=.int _ _) (c:=.int _ _) Tryd.call42 rfl rfl rfl) (l1In_ok _ _ _ _) ?_;rintro _ w1 ⟨rfl,E1⟩;have hs1:=E1.size
  refine Wo rfl (opv_not rfl) ?_;refine Wo_split_ndec rfl (opv_move (v:=.bool _) rfl) (fun h1=>?_) (fun h1=>?_);refine Wo_skip rfl ?_;refine Wo_skip rfl ?_;refine Wo_skip rfl ?_;refine Wo_skip rfl ?_;refine Wo_skip rfl ?_
  refine Wo_skip rfl ?_;refine Wo_skip rfl ?_;refine Wo_skip rfl ?_;refine Wo rfl (opv_pick_t (v:=.bool _) rfl rfl) ?_;refine Wo_nil ?_;refine W_cond_true rfl ?_;refine W_seq ?_;refine W_region rfl ?_
  refine Wo rfl (opv_assign (v:=.int _ _) rfl) ?_;refine Wo_nil ?_;refine W_ret ?_;refine at_ret (v:=.int _ _) rfl ?_;refine ⟨congrArg (Value.int .i64) ?_,E1⟩;rotate_left;refine Wo rfl (opv_move (v:=.string _) rfl) ?_
  refine Wo rfl (opv_len_str Tryd.underlying9 rfl) ?_;refine Wo rfl (opv_gtr rfl rfl) ?_;refine Wo_split_dec rfl (opv_move (v:=.bool _) rfl) (fun h2=>?_) (fun h2=>?_);refine Wo rfl (opv_move (v:=.string _) rfl) ?_
  refine Wo rfl (opv_index_str (k:=0) Tryd.underlying9 rfl rfl (by omega)) ?_;refine Wo rfl (opv_eql rfl rfl) ?_;refine Wo rfl (opv_pick_t (v:=.bool _) rfl rfl) ?_;refine Wo rfl (opv_pick_f (v:=.bool _) rfl rfl) ?_
  refine Wo_nil ?_;refine W_cond_dec rfl (fun h3=>?_) (fun h3=>?_);refine W_seq ?_;refine W_region rfl ?_;refine Wo rfl (opv_assign (v:=.int _ _) rfl) ?_;refine Wo_nil ?_;refine W_ret ?_
  refine at_ret (v:=.int _ _) rfl ?_;refine ⟨congrArg (Value.int .i64) ?_,E1⟩;rotate_left;refine W_skip ?_;refine W_seq ?_;refine W_region rfl ?_;refine Wo rfl (opv_assign (v:=.int _ _) rfl) ?_;refine Wo_nil ?_
  refine W_seq ?_;refine W_seq ?_;refine W_region rfl ?_;refine Wo rfl (opv_assign (v:=.int _ _) rfl) ?_;refine Wo_nil ?_;refine W_block ?_;rotate_left;refine Wo_skip rfl ?_;refine Wo_skip rfl ?_;refine Wo_skip rfl ?_
  refine Wo rfl (opv_pick_f (v:=.bool _) rfl rfl) ?_;refine Wo rfl (opv_pick_f (v:=.bool _) rfl rfl) ?_;refine Wo_nil ?_;refine W_cond_false rfl ?_;refine W_skip ?_;refine W_seq ?_;refine W_region rfl ?_
  refine Wo rfl (opv_assign (v:=.int _ _) rfl) ?_;refine Wo_nil ?_;refine W_seq ?_;refine W_seq ?_;refine W_region rfl ?_;refine Wo rfl (opv_assign (v:=.int _ _) rfl) ?_;refine Wo_nil ?_;refine W_block ?_;rotate_left
 ·rw [digV,if_neg (fun h=>by omega)]
 ·rw [digV,if_neg (fun h=>by omega)]
 ·focus
  refine W_loop [2,3,4,19,20,21,22,23,24,25,26,27,28,29,30,31,32,33,34,35,36,37,38,39,40,41,42] (fun ((k,n):Nat × Int)=>[(4,.int .i64 (k:Nat)),(3,.int .i64 n)]) (fun (k,n) w'=>Ext w w'∧k≤t.length∧0≤n∧(k≤0→n≤0)∧(k≤1→n≤9)∧(k≤2→n≤99)∧(k≤3→n≤999)∧(k≤4→n≤9999)∧n≤99999∧n=digN (t.take k)∧∀ c ∈ t.take k,48≤c.toNat∧c.toNat≤57) (fun x=>t.length - x.1) (0,0) (by repeat (first | exact trivial | refine And.intro rfl ?_)) ?_ ?_
  ·exact ⟨by assumption,Nat.zero_le _,by omega,by omega,by omega,by omega,by omega,by omega,by omega,by simp [digN],by simp⟩
  rintro ⟨k,n⟩ ρj w2 ⟨E2,hk,h0,i0,i1,i2,i3,i4,i5,hone,hall⟩
  have hc8:(t.getD k 0).toNat < 256:=UInt8.toNat_lt _
  focus
   have szE2:=E2.size;have szE1:=E1.size;refine W_seq ?_;refine W_seq ?_;refine W_region rfl ?_;refine Wo rfl (opv_move (v:=.int _ _) rfl) ?_;refine Wo rfl (opv_move (v:=.string _) rfl) ?_
   refine Wo rfl (opv_len_str Tryd.underlying9 rfl) ?_;refine Wo rfl (opv_lss rfl rfl) ?_;refine Wo_nil ?_;refine W_cond_dec rfl (fun h4=>?_) (fun h4=>?_);refine W_skip ?_;refine W_seq ?_;refine W_block ?_;refine W_seq ?_
   refine W_seq ?_;refine W_region rfl ?_;refine Wo rfl (opv_move (v:=.string _) rfl) ?_;refine Wo rfl (opv_move (v:=.int _ _) rfl) ?_;refine Wo rfl (opv_index_str Tryd.underlying9 rfl rfl (by omega)) ?_
   refine Wo rfl (opv_lss rfl rfl) ?_;refine Wo_split_dec rfl (opv_move (v:=.bool _) rfl) (fun h5=>?_) (fun h5=>?_);refine Wo_skip rfl ?_;refine Wo_skip rfl ?_;refine Wo_skip rfl ?_;refine Wo_skip rfl ?_
   refine Wo rfl (opv_pick_t (v:=.bool _) rfl rfl) ?_;refine Wo_nil ?_;refine W_cond_true rfl ?_;refine W_seq ?_;refine W_region rfl ?_;refine Wo rfl (opv_assign (v:=.int _ _) rfl) ?_;refine Wo_nil ?_;refine W_ret ?_
   refine at_ret (v:=.int _ _) rfl ?_;refine ⟨congrArg (Value.int .i64) ?_,E2⟩;rotate_left;refine Wo rfl (opv_move (v:=.string _) rfl) ?_;refine Wo rfl (opv_move (v:=.int _ _) rfl) ?_
   refine Wo rfl (opv_index_str Tryd.underlying9 rfl rfl (by omega)) ?_;refine Wo rfl (opv_gtr rfl rfl) ?_;refine Wo rfl (opv_pick_f (v:=.bool _) rfl rfl) ?_;refine Wo_nil ?_;refine W_cond_dec rfl (fun h6=>?_) (fun h6=>?_)
   refine W_seq ?_;refine W_region rfl ?_;refine Wo rfl (opv_assign (v:=.int _ _) rfl) ?_;refine Wo_nil ?_;refine W_ret ?_;refine at_ret (v:=.int _ _) rfl ?_;refine ⟨congrArg (Value.int .i64) ?_,E2⟩;rotate_left
   refine W_skip ?_;refine W_region rfl ?_;refine Wo rfl (opv_move (v:=.int _ _) rfl) ?_;refine Wo rfl (opv_mul rfl rfl (by omega)) ?_;refine Wo rfl (opv_move (v:=.string _) rfl) ?_
   refine Wo rfl (opv_move (v:=.int _ _) rfl) ?_;refine Wo rfl (opv_index_str Tryd.underlying9 rfl rfl (by omega)) ?_;refine Wo rfl (opv_sub_u8 rfl rfl (by omega)) ?_
   refine Wo rfl (opv_conv_int Tryd.underlying5 Tryd.underlying3 rfl (by omega)) ?_;refine Wo rfl (opv_add rfl rfl (by omega)) ?_;refine Wo rfl (opv_assign (v:=.int _ _) rfl) ?_;refine Wo_nil ?_;refine W_region rfl ?_
   refine Wo rfl (opv_move (v:=.int _ _) rfl) ?_;refine Wo rfl (opv_add rfl rfl (by omega)) ?_;refine Wo rfl (opv_assign (v:=.int _ _) rfl) ?_;refine Wo_nil ?_;rotate_left;refine W_exit ?_;refine exitX_same ?_
   refine W_seq ?_;refine W_region rfl ?_;refine Wo rfl (opv_move (v:=.int _ _) rfl) ?_;refine Wo rfl (opv_assign (v:=.int _ _) rfl) ?_;refine Wo_nil ?_;refine W_ret ?_;refine at_ret (v:=.int _ _) rfl ?_
   refine ⟨congrArg (Value.int .i64) ?_,E2⟩;rotate_left
  ·rw [digV,if_neg]
   rintro ⟨_,_,h⟩
   have:=h (t.getD k 0) (by rw [getD_lt (by omega)];exact List.getElem_mem _)
   omega
  ·rw [digV,if_neg]
   rintro ⟨_,_,h⟩
   have:=h (t.getD k 0) (by rw [getD_lt (by omega)];exact List.getElem_mem _)
   omega
  ·refine ⟨((k+1,10*n+(((t.getD k 0).toNat:Int) - 48))),by repeat (first | exact trivial | refine And.intro rfl ?_),by repeat (first | with_reducible exact Same.refl | refine Same.upd rfl ?_ | refine Same.upds rfl ?_ | refine Same.mix rfl ?_),?_,?_⟩
   ·have hts:t.take (k+1)=t.take k++[t.getD k 0]:=by rw [getD_lt (by omega)];exact List.take_succ_eq_append_getElem (by omega)
    refine ⟨by assumption,by omega,by omega,by omega,by omega,by omega,by omega,by omega,by omega,?_,?_⟩
    ·rw [hts,digN,List.foldl_append,← digN,← hone];rfl
    ·rw [hts]
     intro c hc
     rcases List.mem_append.1 hc with hc | hc
     ·exact hall c hc
     ·obtain rfl:=List.mem_singleton.1 hc;omega
   ·simp only;omega
  ·obtain rfl:k=t.length:=by omega
   rw [List.take_length] at hone hall
   rw [hone,digV,if_pos ⟨by omega,by omega,hall⟩]
 ·focus
  refine W_loop [2,3,4,19,20,21,22,23,24,25,26,27,28,29,30,31,32,33,34,35,36,37,38,39,40,41,42] (fun ((k,n):Nat × Int)=>[(4,.int .i64 (k:Nat)),(3,.int .i64 n)]) (fun (k,n) w'=>Ext w w'∧k≤t.length∧0≤n∧(k≤0→n≤0)∧(k≤1→n≤9)∧(k≤2→n≤99)∧(k≤3→n≤999)∧(k≤4→n≤9999)∧n≤99999∧n=digN (t.take k)∧∀ c ∈ t.take k,48≤c.toNat∧c.toNat≤57) (fun x=>t.length - x.1) (0,0) (by repeat (first | exact trivial | refine And.intro rfl ?_)) ?_ ?_
  ·exact ⟨by assumption,Nat.zero_le _,by omega,by omega,by omega,by omega,by omega,by omega,by omega,by simp [digN],by simp⟩
  rintro ⟨k,n⟩ ρj w2 ⟨E2,hk,h0,i0,i1,i2,i3,i4,i5,hone,hall⟩
  have hc8:(t.getD k 0).toNat < 256:=UInt8.toNat_lt _
  focus
   have szE2:=E2.size;have szE1:=E1.size;refine W_seq ?_;refine W_seq ?_;refine W_region rfl ?_;refine Wo rfl (opv_move (v:=.int _ _) rfl) ?_;refine Wo rfl (opv_move (v:=.string _) rfl) ?_
   refine Wo rfl (opv_len_str Tryd.underlying9 rfl) ?_;refine Wo rfl (opv_lss rfl rfl) ?_;refine Wo_nil ?_;refine W_cond_dec rfl (fun h3=>?_) (fun h3=>?_);refine W_skip ?_;refine W_seq ?_;refine W_block ?_;refine W_seq ?_
   refine W_seq ?_;refine W_region rfl ?_;refine Wo rfl (opv_move (v:=.string _) rfl) ?_;refine Wo rfl (opv_move (v:=.int _ _) rfl) ?_;refine Wo rfl (opv_index_str Tryd.underlying9 rfl rfl (by omega)) ?_
   refine Wo rfl (opv_lss rfl rfl) ?_;refine Wo_split_dec rfl (opv_move (v:=.bool _) rfl) (fun h4=>?_) (fun h4=>?_);refine Wo_skip rfl ?_;refine Wo_skip rfl ?_;refine Wo_skip rfl ?_;refine Wo_skip rfl ?_
   refine Wo rfl (opv_pick_t (v:=.bool _) rfl rfl) ?_;refine Wo_nil ?_;refine W_cond_true rfl ?_;refine W_seq ?_;refine W_region rfl ?_;refine Wo rfl (opv_assign (v:=.int _ _) rfl) ?_;refine Wo_nil ?_;refine W_ret ?_
   refine at_ret (v:=.int _ _) rfl ?_;refine ⟨congrArg (Value.int .i64) ?_,E2⟩;rotate_left;refine Wo rfl (opv_move (v:=.string _) rfl) ?_;refine Wo rfl (opv_move (v:=.int _ _) rfl) ?_
   refine Wo rfl (opv_index_str Tryd.underlying9 rfl rfl (by omega)) ?_;refine Wo rfl (opv_gtr rfl rfl) ?_;refine Wo rfl (opv_pick_f (v:=.bool _) rfl rfl) ?_;refine Wo_nil ?_;refine W_cond_dec rfl (fun h5=>?_) (fun h5=>?_)
   refine W_seq ?_;refine W_region rfl ?_;refine Wo rfl (opv_assign (v:=.int _ _) rfl) ?_;refine Wo_nil ?_;refine W_ret ?_;refine at_ret (v:=.int _ _) rfl ?_;refine ⟨congrArg (Value.int .i64) ?_,E2⟩;rotate_left
   refine W_skip ?_;refine W_region rfl ?_;refine Wo rfl (opv_move (v:=.int _ _) rfl) ?_;refine Wo rfl (opv_mul rfl rfl (by omega)) ?_;refine Wo rfl (opv_move (v:=.string _) rfl) ?_
   refine Wo rfl (opv_move (v:=.int _ _) rfl) ?_;refine Wo rfl (opv_index_str Tryd.underlying9 rfl rfl (by omega)) ?_;refine Wo rfl (opv_sub_u8 rfl rfl (by omega)) ?_
   refine Wo rfl (opv_conv_int Tryd.underlying5 Tryd.underlying3 rfl (by omega)) ?_;refine Wo rfl (opv_add rfl rfl (by omega)) ?_;refine Wo rfl (opv_assign (v:=.int _ _) rfl) ?_;refine Wo_nil ?_;refine W_region rfl ?_
   refine Wo rfl (opv_move (v:=.int _ _) rfl) ?_;refine Wo rfl (opv_add rfl rfl (by omega)) ?_;refine Wo rfl (opv_assign (v:=.int _ _) rfl) ?_;refine Wo_nil ?_;rotate_left;refine W_exit ?_;refine exitX_same ?_
   refine W_seq ?_;refine W_region rfl ?_;refine Wo rfl (opv_move (v:=.int _ _) rfl) ?_;refine Wo rfl (opv_assign (v:=.int _ _) rfl) ?_;refine Wo_nil ?_;refine W_ret ?_;refine at_ret (v:=.int _ _) rfl ?_
   refine ⟨congrArg (Value.int .i64) ?_,E2⟩;rotate_left
  ·rw [digV,if_neg]
   rintro ⟨_,_,h⟩
   have:=h (t.getD k 0) (by rw [getD_lt (by omega)];exact List.getElem_mem _)
   omega
  ·rw [digV,if_neg]
   rintro ⟨_,_,h⟩
   have:=h (t.getD k 0) (by rw [getD_lt (by omega)];exact List.getElem_mem _)
   omega
  ·refine ⟨((k+1,10*n+(((t.getD k 0).toNat:Int) - 48))),by repeat (first | exact trivial | refine And.intro rfl ?_),by repeat (first | with_reducible exact Same.refl | refine Same.upd rfl ?_ | refine Same.upds rfl ?_ | refine Same.mix rfl ?_),?_,?_⟩
   ·have hts:t.take (k+1)=t.take k++[t.getD k 0]:=by rw [getD_lt (by omega)];exact List.take_succ_eq_append_getElem (by omega)
    refine ⟨by assumption,by omega,by omega,by omega,by omega,by omega,by omega,by omega,by omega,?_,?_⟩
    ·rw [hts,digN,List.foldl_append,← digN,← hone];rfl
    ·rw [hts]
     intro c hc
     rcases List.mem_append.1 hc with hc | hc
     ·exact hall c hc
     ·obtain rfl:=List.mem_singleton.1 hc;omega
   ·simp only;omega
  ·obtain rfl:k=t.length:=by omega
   rw [List.take_length] at hone hall
   rw [hone,digV,if_pos ⟨by omega,by omega,hall⟩]
/-- the deeds that the reference tries -/
def rdL (ps:List (List UInt8)) (z:Int):List Deed:=[⟨0,[],0⟩,⟨4,[],0⟩]++if ps.length=2 then [⟨1,ps.getD 1 [],0⟩,⟨2,ps.getD 1 [],0⟩,⟨3,[],z⟩] else []
theorem rdL_all {s:List UInt8} {z:Int} (hz : ∀ d:Nat,d≤9→(cutB 32 s).getD 1 []=[dig d]→z=d) {a:Deed} (h:rdD s=some a):a ∈ rdL (cutB 32 s) z:=by
 have ht:=rdD_told h
 have h1:=(rdD_some h).1
 cases ht with
 | single=>simp [rdL]
 | back=>simp [rdL]
 | into d hd =>
   rw [dtV_into hd] at h1
   subst h1
   have e : cutB 32 (sInto ++ [dig d]) = [wInto, [dig d]] := by
     have hn : (32 : UInt8) ∉ [dig d] := by
       intro hm
       have := List.mem_singleton.1 hm
       have h2 := congrArg UInt8.toNat this
       rw [dig_toNat (by omega)] at h2
       have : (32 : UInt8).toNat = 32 := rfl
       omega
     rw [show sInto ++ [dig d] = wInto ++ 32 :: [dig d] from rfl, cutB_app (by decide), cutB_one hn]
   rw [e] at hz ⊢
   rw [hz d hd rfl]
   simp [rdL]
 | add p hp =>
   rw [dtV_add hp] at h1
   subst h1
   have e : cutB 32 (sAdd ++ txt p) = [wAdd, txt p] := by
     rw [show sAdd ++ txt p = wAdd ++ 32 :: txt p from rfl, cutB_app (by decide), cutB_one (txt_no hp.gr (by decide))]
   rw [e]
   simp [rdL]
 | drop p hp =>
   rw [dtV_drop hp] at h1
   subst h1
   have e : cutB 32 (sDrop ++ txt p) = [wDrop, txt p] := by
     rw [show sDrop ++ txt p = wDrop ++ 32 :: txt p from rfl, cutB_app (by decide), cutB_one (txt_no hp.gr (by decide))]
   rw [e]
   simp [rdL]
theorem spec_ReadDeed_ok (w:World) (s:List UInt8) (hs:s.length≤1048576) :
  Does Tryd.prog 15 [str s] w (Ret w (.tuple #[dv ((rdD s).getD ⟨0,[],0⟩),.bool (rdD s).isSome])):=by
 obtain ⟨ps,hps⟩ : ∃ ps,ps=cutB 32 s:=⟨_,rfl⟩
 have k1 : ∀ w,Does Tryd.prog 45 [str s,.int .u8 32] w (RetO w XS ps):=fun w=>hps ▸ l1Cut_ok w s 32 hs
 have hpe : ∀ (k:Nat) (hk:k < ps.length),ps[k].length≤1048576:=fun k hk=>by
  have:ps[k] ∈ cutB 32 s:=hps ▸ List.getElem_mem hk
  have:=cutB_mem_len s.length s (Nat.le_refl _) _ this;omega
 obtain ⟨z,hz⟩ : ∃ z:Int,z=digV (ps.getD 1 []):=⟨_,rfl⟩
 obtain ⟨L,hL⟩ : ∃ L,L=rdL ps z:=⟨_,rfl⟩
 have hall : ∀ a,rdD s=some a→a ∈ L:=fun a h=>by
  rw [hL,hps]
  refine rdL_all (fun d hd e=>?_) h
  rw [hz,hps,e,digV_one hd]
 have hlen:L.length≤5:=by rw [hL];unfold rdL;split <;> simp
 have htx : ∀ (k:Nat) (h:k < L.length),L[k].text.length≤1048576:=fun k h=>by
  have hm:L[k] ∈ rdL ps z:=hL ▸ List.getElem_mem h
  unfold rdL at hm
  split at hm
  ·rename_i h2
   have hp1:=hpe 1 (by omega)
   have hg1:ps.getD 1 []=ps[1]:=getD_lt (by omega)
   rw [hg1] at hm
   simp only [List.cons_append,List.nil_append,List.mem_cons,List.not_mem_nil,or_false] at hm
   rcases hm with h | h | h | h | h <;> rw [h] <;> simp <;> omega
  ·simp only [List.append_nil,List.mem_cons,List.not_mem_nil,or_false] at hm
   rcases hm with h | h <;> rw [h] <;> simp
 refine fn_of_Wc3t Tryd.func15 rfl Tryd.results15 Tryd.ntmps15 rfl Tryd.isAgg26 Tryd.sizeOf26 ?_
 have stopC:True:=trivial
 focus
  refine W_seq ?_;refine W_region rfl ?_;refine Wo_allocN rfl flat26 ?_;rintro b1 w1 hb1 E1 hB1;have hlb1:=hB1.lt;have hs1:=E1.size;refine Wo rfl (opv_assign (v:=.bool _) rfl) ?_;refine Wo_nil ?_;refine W_seq ?_
  refine W_region rfl ?_;refine Wo rfl (opv_move (v:=.string _) rfl) ?_;refine Wo_call rfl (opc2 (a:=.string _) (b:=.int _ _) Tryd.call45 rfl rfl) (k1 _) ?_;rintro u1 w2 ⟨E2,hO1⟩;have hs2:=E2.size
  refine Wo rfl (opv_assign (v:=u1) rfl) ?_;refine Wo_nil ?_;refine W_seq ?_;refine W_region rfl ?_;refine Wo rfl (opv_build (ps:=[(0,.int _ _)]) (cs:=[_,_,_]) flat26 rfl rfl) ?_
  refine Wo rfl (opv_build (ps:=[(0,.int _ _)]) (cs:=[_,_,_]) flat26 rfl rfl) ?_
  refine Wo_buildD2 (a1:=⟨_,_,_⟩) (a2:=⟨_,_,_⟩) rfl elD36 rfl rfl (by first | assumption | omega | (simp <;> omega)) (by first | assumption | omega | (simp <;> omega)) ?_;rintro b2 w3 hb2 E3 hO2;have hs3:=E3.size
  refine Wo rfl (opv_assign (v:=.slice _ _ _) rfl) ?_;refine Wo_nil ?_;refine W_seq ?_;refine W_seq ?_;refine W_region rfl ?_;refine Wo rfl (opv_move (v:=u1) rfl) ?_
  refine Wo rfl (opv_len Tryd.underlying65 rfl (Owned.read hO1)) ?_;refine Wo rfl (opv_eql rfl rfl) ?_;refine Wo_nil ?_
 clear stopC
 refine W_mid [5,15,16,17,18,19,20,21,22,23,24,25,26,27,28,29,30] (fun (v:Value)=>[(5,v)]) (fun v w'=>Ext w2 w'∧OD 26 w2.heap.size w' v L) ?_ ?_
 ·by_cases h2:ps.length=2
  ·have hp1:=hpe 1 (by omega)
   have hg1:ps.getD 1 []=ps[1]:=getD_lt (by omega)
   have stop4:True:=trivial
   focus
    have szE3:=E3.size;have szE2:=E2.size;have szE1:=E1.size;refine W_cond_dec rfl (fun h1=>?_) (fun h1=>?_);rotate_left;(exfalso;omega)
   clear stop4
   obtain ⟨ub,uc,rfl,_⟩:=hO1.lit (by omega)
   have hcell:w3.cell? ⟨ub,0+1,none⟩=some (str ps[1]):=by
    obtain ⟨a',c',e,_,hR⟩:=hO1.read
    rcases hR with hR | ⟨b',o',e2,hR⟩
    ·rw [hR] at h2;cases h2
    ·subst e2;injection e with e3 e4 e5;injection e3 with e3;injection e3 with e6 e7;subst e6;subst e7
     obtain ⟨u,hu,rfl,_⟩:=hR 1 (by omega)
     exact E3.cell hu
   have eL:L=[⟨0,[],0⟩,⟨4,[],0⟩]++[⟨1,ps[1],0⟩,⟨2,ps[1],0⟩,⟨3,[],digV ps[1]⟩]:=by rw [hL,hz,rdL,if_pos h2,hg1]
   rw [eL]
   clear hall hlen htx hL hz eL
   focus
    have szE3:=E3.size;have szE2:=E2.size;have szE1:=E1.size;refine W_held (fun _=>True) mixed rfl (by kernel_rfl) ?_;intro w4 E4 K1 hz1;have hs4:=E4.size
    refine Wh_take 0 rfl (by kernel_rfl) (by kernel_rfl) rfl (fun _ _=>opv_move (v:=.slice _ _ _) rfl) trivial ?_;refine Wh_take 1 rfl (by kernel_rfl) (by kernel_rfl) rfl (fun _ _=>opv_move (v:=.slice _ _ _) rfl) trivial ?_
    refine Wh_take 2 rfl (by kernel_rfl) (by kernel_rfl) rfl (fun _ _=>opv_indexAddr (k:=1) Tryd.underlying65 Tryd.sizeOf9 rfl rfl (by omega)) trivial ?_
    refine Wh_take 5 rfl (by kernel_rfl) (by kernel_rfl) rfl (fun _ _=>opv_move (v:=.slice _ _ _) rfl) trivial ?_
    refine Wh_take 6 rfl (by kernel_rfl) (by kernel_rfl) rfl (fun _ _=>opv_indexAddr (k:=1) Tryd.underlying65 Tryd.sizeOf9 rfl rfl (by omega)) trivial ?_
    refine Wh_take 9 rfl (by kernel_rfl) (by kernel_rfl) rfl (fun _ _=>opv_move (v:=.slice _ _ _) rfl) trivial ?_
    refine Wh_take 10 rfl (by kernel_rfl) (by kernel_rfl) rfl (fun _ _=>opv_indexAddr (k:=1) Tryd.underlying65 Tryd.sizeOf9 rfl rfl (by omega)) trivial ?_;refine Wh_all (rs:=[3,7,11]) (by kernel_rfl) rfl ?_
    refine WhAll_cons rfl ?_ ?_;refine Wo rfl (opv_load Tryd.isAgg9 rfl (E4.cell hcell)) ?_;refine Wo_nil ?_;refine ⟨trivial,?_⟩
    refine Wh_take 4 rfl (by kernel_rfl) (by kernel_rfl) rfl (fun _ _=>opv_build (ps:=[(0,.int _ _),(1,.string _)]) (cs:=[_,_,_]) flat26 rfl rfl) trivial ?_;refine Wh_all (rs:=[7,11]) (by kernel_rfl) rfl ?_
    refine WhAll_cons rfl ?_ ?_;refine Wo rfl (opv_load Tryd.isAgg9 rfl (E4.cell hcell)) ?_;refine Wo_nil ?_;refine ⟨trivial,?_⟩
    refine Wh_take 8 rfl (by kernel_rfl) (by kernel_rfl) rfl (fun _ _=>opv_build (ps:=[(0,.int _ _),(1,.string _)]) (cs:=[_,_,_]) flat26 rfl rfl) trivial ?_;refine Wh_all (rs:=[11]) (by kernel_rfl) rfl ?_
    refine WhAll_cons rfl ?_ ?_;refine Wo rfl (opv_load Tryd.isAgg9 rfl (E4.cell hcell)) ?_;refine Wo_nil ?_;refine ⟨trivial,?_⟩;refine Wh_all (rs:=[12]) (by kernel_rfl) rfl ?_;refine WhAll_cons rfl ?_ ?_
    refine Wo_call rfl (opc1 (a:=.string _) Tryd.call46 rfl) (l1Digits_ok _ _ (by assumption)) ?_;rintro _ w5 ⟨rfl,E5⟩;have hs5:=E5.size;refine Wo_nil ?_;refine ⟨trivial,?_⟩
    refine Wh_take 13 rfl (by kernel_rfl) (by kernel_rfl) rfl (fun _ _=>opv_build (ps:=[(0,.int _ _),(2,.int _ _)]) (cs:=[_,_,_]) flat26 rfl rfl) trivial ?_;refine Wh_all (rs:=[14]) (by kernel_rfl) rfl ?_
    refine WhAll_cons rfl ?_ ?_
    refine Wo_buildD3 (a1:=⟨_,_,_⟩) (a2:=⟨_,_,_⟩) (a3:=⟨_,_,_⟩) rfl elD36 rfl rfl rfl (by first | assumption | omega | (simp <;> omega)) (by first | assumption | omega | (simp <;> omega)) (by first | assumption | omega | (simp <;> omega)) ?_
    rintro b3 w6 hb3 E6 hO3;have hs6:=E6.size;refine Wo_nil ?_;refine ⟨trivial,?_⟩;refine Wh_all (rs:=[15]) (by kernel_rfl) rfl ?_;refine WhAll_cons rfl ?_ ?_
    refine Wo_appD rfl elD36 rfl rfl (hO2.ext ((E4.trans E5).trans E6)) hO3 (by first | omega | (simp <;> omega)) (by omega) (((E3.trans E4).trans E5).trans E6) (by omega) ?_;rintro v1 w7 hO4 E7 G1;refine Wo_nil ?_
    refine ⟨trivial,?_⟩;refine Wh_take 16 rfl (by kernel_rfl) (by kernel_rfl) rfl (fun _ _=>opv_assign (v:=v1) rfl) trivial ?_;refine Wh_done (by kernel_rfl) ?_;rotate_left;exact WhAll_nil;exact WhAll_nil;exact WhAll_nil
    exact WhAll_nil;refine WhAll_cons rfl ?_ ?_;refine Wo rfl (opv_load Tryd.isAgg9 rfl (E4.cell hcell)) ?_;refine Wo_nil ?_;refine ⟨trivial,?_⟩;refine Wh_all (rs:=[7,12]) (by kernel_rfl) rfl ?_;refine WhAll_cons rfl ?_ ?_
    refine Wo rfl (opv_load Tryd.isAgg9 rfl (E4.cell hcell)) ?_;refine Wo_nil ?_;refine ⟨trivial,?_⟩
    refine Wh_take 8 rfl (by kernel_rfl) (by kernel_rfl) rfl (fun _ _=>opv_build (ps:=[(0,.int _ _),(1,.string _)]) (cs:=[_,_,_]) flat26 rfl rfl) trivial ?_;refine Wh_all (rs:=[12]) (by kernel_rfl) rfl ?_
    refine WhAll_cons rfl ?_ ?_;refine Wo_call rfl (opc1 (a:=.string _) Tryd.call46 rfl) (l1Digits_ok _ _ (by assumption)) ?_;rintro _ w5 ⟨rfl,E5⟩;have hs5:=E5.size;refine Wo_nil ?_;refine ⟨trivial,?_⟩
    refine Wh_take 13 rfl (by kernel_rfl) (by kernel_rfl) rfl (fun _ _=>opv_build (ps:=[(0,.int _ _),(2,.int _ _)]) (cs:=[_,_,_]) flat26 rfl rfl) trivial ?_;refine Wh_all (rs:=[14]) (by kernel_rfl) rfl ?_
    refine WhAll_cons rfl ?_ ?_
    refine Wo_buildD3 (a1:=⟨_,_,_⟩) (a2:=⟨_,_,_⟩) (a3:=⟨_,_,_⟩) rfl elD36 rfl rfl rfl (by first | assumption | omega | (simp <;> omega)) (by first | assumption | omega | (simp <;> omega)) (by first | assumption | omega | (simp <;> omega)) ?_
    rintro b3 w6 hb3 E6 hO3;have hs6:=E6.size;refine Wo_nil ?_;refine ⟨trivial,?_⟩;refine Wh_all (rs:=[15]) (by kernel_rfl) rfl ?_;refine WhAll_cons rfl ?_ ?_
    refine Wo_appD rfl elD36 rfl rfl (hO2.ext ((E4.trans E5).trans E6)) hO3 (by first | omega | (simp <;> omega)) (by omega) (((E3.trans E4).trans E5).trans E6) (by omega) ?_;rintro v1 w7 hO4 E7 G1;refine Wo_nil ?_
    refine ⟨trivial,?_⟩;refine Wh_take 16 rfl (by kernel_rfl) (by kernel_rfl) rfl (fun _ _=>opv_assign (v:=v1) rfl) trivial ?_;refine Wh_done (by kernel_rfl) ?_;rotate_left;exact WhAll_nil;exact WhAll_nil;exact WhAll_nil
    refine WhAll_cons rfl ?_ ?_;refine Wo_call rfl (opc1 (a:=.string _) Tryd.call46 rfl) (l1Digits_ok _ _ (by assumption)) ?_;rintro _ w5 ⟨rfl,E5⟩;have hs5:=E5.size;refine Wo_nil ?_;refine ⟨trivial,?_⟩
    refine Wh_take 13 rfl (by kernel_rfl) (by kernel_rfl) rfl (fun _ _=>opv_build (ps:=[(0,.int _ _),(2,.int _ _)]) (cs:=[_,_,_]) flat26 rfl rfl) trivial ?_;refine Wh_all (rs:=[7]) (by kernel_rfl) rfl ?_
    refine WhAll_cons rfl ?_ ?_;refine Wo rfl (opv_load Tryd.isAgg9 rfl ((E4.trans E5).cell hcell)) ?_;refine Wo_nil ?_;refine ⟨trivial,?_⟩
    refine Wh_take 8 rfl (by kernel_rfl) (by kernel_rfl) rfl (fun _ _=>opv_build (ps:=[(0,.int _ _),(1,.string _)]) (cs:=[_,_,_]) flat26 rfl rfl) trivial ?_;refine Wh_all (rs:=[14]) (by kernel_rfl) rfl ?_
    refine WhAll_cons rfl ?_ ?_
    refine Wo_buildD3 (a1:=⟨_,_,_⟩) (a2:=⟨_,_,_⟩) (a3:=⟨_,_,_⟩) rfl elD36 rfl rfl rfl (by first | assumption | omega | (simp <;> omega)) (by first | assumption | omega | (simp <;> omega)) (by first | assumption | omega | (simp <;> omega)) ?_
    rintro b3 w6 hb3 E6 hO3;have hs6:=E6.size;refine Wo_nil ?_;refine ⟨trivial,?_⟩;refine Wh_all (rs:=[15]) (by kernel_rfl) rfl ?_;refine WhAll_cons rfl ?_ ?_
    refine Wo_appD rfl elD36 rfl rfl (hO2.ext ((E4.trans E5).trans E6)) hO3 (by first | omega | (simp <;> omega)) (by omega) (((E3.trans E4).trans E5).trans E6) (by omega) ?_;rintro v1 w7 hO4 E7 G1;refine Wo_nil ?_
    refine ⟨trivial,?_⟩;refine Wh_take 16 rfl (by kernel_rfl) (by kernel_rfl) rfl (fun _ _=>opv_assign (v:=v1) rfl) trivial ?_;refine Wh_done (by kernel_rfl) ?_;rotate_left;exact WhAll_nil;exact WhAll_nil;exact WhAll_nil
    exact WhAll_nil;exact WhAll_nil;refine WhAll_cons rfl ?_ ?_;refine Wo rfl (opv_load Tryd.isAgg9 rfl (E4.cell hcell)) ?_;refine Wo_nil ?_;refine ⟨trivial,?_⟩
    refine Wh_take 8 rfl (by kernel_rfl) (by kernel_rfl) rfl (fun _ _=>opv_build (ps:=[(0,.int _ _),(1,.string _)]) (cs:=[_,_,_]) flat26 rfl rfl) trivial ?_;refine Wh_all (rs:=[3,11]) (by kernel_rfl) rfl ?_
    refine WhAll_cons rfl ?_ ?_;refine Wo rfl (opv_load Tryd.isAgg9 rfl (E4.cell hcell)) ?_;refine Wo_nil ?_;refine ⟨trivial,?_⟩
    refine Wh_take 4 rfl (by kernel_rfl) (by kernel_rfl) rfl (fun _ _=>opv_build (ps:=[(0,.int _ _),(1,.string _)]) (cs:=[_,_,_]) flat26 rfl rfl) trivial ?_;refine Wh_all (rs:=[11]) (by kernel_rfl) rfl ?_
    refine WhAll_cons rfl ?_ ?_;refine Wo rfl (opv_load Tryd.isAgg9 rfl (E4.cell hcell)) ?_;refine Wo_nil ?_;refine ⟨trivial,?_⟩;refine Wh_all (rs:=[12]) (by kernel_rfl) rfl ?_;refine WhAll_cons rfl ?_ ?_
    refine Wo_call rfl (opc1 (a:=.string _) Tryd.call46 rfl) (l1Digits_ok _ _ (by assumption)) ?_;rintro _ w5 ⟨rfl,E5⟩;have hs5:=E5.size;refine Wo_nil ?_;refine ⟨trivial,?_⟩
    refine Wh_take 13 rfl (by kernel_rfl) (by kernel_rfl) rfl (fun _ _=>opv_build (ps:=[(0,.int _ _),(2,.int _ _)]) (cs:=[_,_,_]) flat26 rfl rfl) trivial ?_;refine Wh_all (rs:=[14]) (by kernel_rfl) rfl ?_
    refine WhAll_cons rfl ?_ ?_
    refine Wo_buildD3 (a1:=⟨_,_,_⟩) (a2:=⟨_,_,_⟩) (a3:=⟨_,_,_⟩) rfl elD36 rfl rfl rfl (by first | assumption | omega | (simp <;> omega)) (by first | assumption | omega | (simp <;> omega)) (by first | assumption | omega | (simp <;> omega)) ?_
    rintro b3 w6 hb3 E6 hO3;have hs6:=E6.size;refine Wo_nil ?_;refine ⟨trivial,?_⟩;refine Wh_all (rs:=[15]) (by kernel_rfl) rfl ?_;refine WhAll_cons rfl ?_ ?_
    refine Wo_appD rfl elD36 rfl rfl (hO2.ext ((E4.trans E5).trans E6)) hO3 (by first | omega | (simp <;> omega)) (by omega) (((E3.trans E4).trans E5).trans E6) (by omega) ?_;rintro v1 w7 hO4 E7 G1;refine Wo_nil ?_
    refine ⟨trivial,?_⟩;refine Wh_take 16 rfl (by kernel_rfl) (by kernel_rfl) rfl (fun _ _=>opv_assign (v:=v1) rfl) trivial ?_;refine Wh_done (by kernel_rfl) ?_;rotate_left;exact WhAll_nil;exact WhAll_nil;exact WhAll_nil
    exact WhAll_nil;refine WhAll_cons rfl ?_ ?_;refine Wo rfl (opv_load Tryd.isAgg9 rfl (E4.cell hcell)) ?_;refine Wo_nil ?_;refine ⟨trivial,?_⟩;refine Wh_all (rs:=[3,12]) (by kernel_rfl) rfl ?_;refine WhAll_cons rfl ?_ ?_
    refine Wo rfl (opv_load Tryd.isAgg9 rfl (E4.cell hcell)) ?_;refine Wo_nil ?_;refine ⟨trivial,?_⟩
    refine Wh_take 4 rfl (by kernel_rfl) (by kernel_rfl) rfl (fun _ _=>opv_build (ps:=[(0,.int _ _),(1,.string _)]) (cs:=[_,_,_]) flat26 rfl rfl) trivial ?_;refine Wh_all (rs:=[12]) (by kernel_rfl) rfl ?_
    refine WhAll_cons rfl ?_ ?_;refine Wo_call rfl (opc1 (a:=.string _) Tryd.call46 rfl) (l1Digits_ok _ _ (by assumption)) ?_;rintro _ w5 ⟨rfl,E5⟩;have hs5:=E5.size;refine Wo_nil ?_;refine ⟨trivial,?_⟩
    refine Wh_take 13 rfl (by kernel_rfl) (by kernel_rfl) rfl (fun _ _=>opv_build (ps:=[(0,.int _ _),(2,.int _ _)]) (cs:=[_,_,_]) flat26 rfl rfl) trivial ?_;refine Wh_all (rs:=[14]) (by kernel_rfl) rfl ?_
    refine WhAll_cons rfl ?_ ?_
    refine Wo_buildD3 (a1:=⟨_,_,_⟩) (a2:=⟨_,_,_⟩) (a3:=⟨_,_,_⟩) rfl elD36 rfl rfl rfl (by first | assumption | omega | (simp <;> omega)) (by first | assumption | omega | (simp <;> omega)) (by first | assumption | omega | (simp <;> omega)) ?_
    rintro b3 w6 hb3 E6 hO3;have hs6:=E6.size;refine Wo_nil ?_;refine ⟨trivial,?_⟩;refine Wh_all (rs:=[15]) (by kernel_rfl) rfl ?_;refine WhAll_cons rfl ?_ ?_
    refine Wo_appD rfl elD36 rfl rfl (hO2.ext ((E4.trans E5).trans E6)) hO3 (by first | omega | (simp <;> omega)) (by omega) (((E3.trans E4).trans E5).trans E6) (by omega) ?_;rintro v1 w7 hO4 E7 G1;refine Wo_nil ?_
    refine ⟨trivial,?_⟩;refine Wh_take 16 rfl (by kernel_rfl) (by kernel_rfl) rfl (fun _ _=>opv_assign (v:=v1) rfl) trivial ?_;refine Wh_done (by kernel_rfl) ?_;rotate_left;exact WhAll_nil;exact WhAll_nil;exact WhAll_nil
    refine WhAll_cons rfl ?_ ?_;refine Wo_call rfl (opc1 (a:=.string _) Tryd.call46 rfl) (l1Digits_ok _ _ (by assumption)) ?_;rintro _ w5 ⟨rfl,E5⟩;have hs5:=E5.size;refine Wo_nil ?_;refine ⟨trivial,?_⟩
    refine Wh_take 13 rfl (by kernel_rfl) (by kernel_rfl) rfl (fun _ _=>opv_build (ps:=[(0,.int _ _),(2,.int _ _)]) (cs:=[_,_,_]) flat26 rfl rfl) trivial ?_;refine Wh_all (rs:=[3]) (by kernel_rfl) rfl ?_
    refine WhAll_cons rfl ?_ ?_;refine Wo rfl (opv_load Tryd.isAgg9 rfl ((E4.trans E5).cell hcell)) ?_;refine Wo_nil ?_;refine ⟨trivial,?_⟩
    refine Wh_take 4 rfl (by kernel_rfl) (by kernel_rfl) rfl (fun _ _=>opv_build (ps:=[(0,.int _ _),(1,.string _)]) (cs:=[_,_,_]) flat26 rfl rfl) trivial ?_;refine Wh_all (rs:=[14]) (by kernel_rfl) rfl ?_
    refine WhAll_cons rfl ?_ ?_
    refine Wo_buildD3 (a1:=⟨_,_,_⟩) (a2:=⟨_,_,_⟩) (a3:=⟨_,_,_⟩) rfl elD36 rfl rfl rfl (by first | assumption | omega | (simp <;> omega)) (by first | assumption | omega | (simp <;> omega)) (by first | assumption | omega | (simp <;> omega)) ?_
    rintro b3 w6 hb3 E6 hO3;have hs6:=E6.size;refine Wo_nil ?_;refine ⟨trivial,?_⟩;refine Wh_all (rs:=[15]) (by kernel_rfl) rfl ?_;refine WhAll_cons rfl ?_ ?_
    refine Wo_appD rfl elD36 rfl rfl (hO2.ext ((E4.trans E5).trans E6)) hO3 (by first | omega | (simp <;> omega)) (by omega) (((E3.trans E4).trans E5).trans E6) (by omega) ?_;rintro v1 w7 hO4 E7 G1;refine Wo_nil ?_
    refine ⟨trivial,?_⟩;refine Wh_take 16 rfl (by kernel_rfl) (by kernel_rfl) rfl (fun _ _=>opv_assign (v:=v1) rfl) trivial ?_;refine Wh_done (by kernel_rfl) ?_;rotate_left;exact WhAll_nil;exact WhAll_nil;exact WhAll_nil
    exact WhAll_nil;exact WhAll_nil;refine WhAll_cons rfl ?_ ?_;refine Wo rfl (opv_load Tryd.isAgg9 rfl (E4.cell hcell)) ?_;refine Wo_nil ?_;refine ⟨trivial,?_⟩;refine Wh_all (rs:=[3,7,12]) (by kernel_rfl) rfl ?_
    refine WhAll_cons rfl ?_ ?_;refine Wo rfl (opv_load Tryd.isAgg9 rfl (E4.cell hcell)) ?_;refine Wo_nil ?_;refine ⟨trivial,?_⟩
    refine Wh_take 4 rfl (by kernel_rfl) (by kernel_rfl) rfl (fun _ _=>opv_build (ps:=[(0,.int _ _),(1,.string _)]) (cs:=[_,_,_]) flat26 rfl rfl) trivial ?_;refine Wh_all (rs:=[7,12]) (by kernel_rfl) rfl ?_
    refine WhAll_cons rfl ?_ ?_;refine Wo rfl (opv_load Tryd.isAgg9 rfl (E4.cell hcell)) ?_;refine Wo_nil ?_;refine ⟨trivial,?_⟩
    refine Wh_take 8 rfl (by kernel_rfl) (by kernel_rfl) rfl (fun _ _=>opv_build (ps:=[(0,.int _ _),(1,.string _)]) (cs:=[_,_,_]) flat26 rfl rfl) trivial ?_;refine Wh_all (rs:=[12]) (by kernel_rfl) rfl ?_
    refine WhAll_cons rfl ?_ ?_;refine Wo_call rfl (opc1 (a:=.string _) Tryd.call46 rfl) (l1Digits_ok _ _ (by assumption)) ?_;rintro _ w5 ⟨rfl,E5⟩;have hs5:=E5.size;refine Wo_nil ?_;refine ⟨trivial,?_⟩
    refine Wh_take 13 rfl (by kernel_rfl) (by kernel_rfl) rfl (fun _ _=>opv_build (ps:=[(0,.int _ _),(2,.int _ _)]) (cs:=[_,_,_]) flat26 rfl rfl) trivial ?_;refine Wh_all (rs:=[14]) (by kernel_rfl) rfl ?_
    refine WhAll_cons rfl ?_ ?_
    refine Wo_buildD3 (a1:=⟨_,_,_⟩) (a2:=⟨_,_,_⟩) (a3:=⟨_,_,_⟩) rfl elD36 rfl rfl rfl (by first | assumption | omega | (simp <;> omega)) (by first | assumption | omega | (simp <;> omega)) (by first | assumption | omega | (simp <;> omega)) ?_
    rintro b3 w6 hb3 E6 hO3;have hs6:=E6.size;refine Wo_nil ?_;refine ⟨trivial,?_⟩;refine Wh_all (rs:=[15]) (by kernel_rfl) rfl ?_;refine WhAll_cons rfl ?_ ?_
    refine Wo_appD rfl elD36 rfl rfl (hO2.ext ((E4.trans E5).trans E6)) hO3 (by first | omega | (simp <;> omega)) (by omega) (((E3.trans E4).trans E5).trans E6) (by omega) ?_;rintro v1 w7 hO4 E7 G1;refine Wo_nil ?_
    refine ⟨trivial,?_⟩;refine Wh_take 16 rfl (by kernel_rfl) (by kernel_rfl) rfl (fun _ _=>opv_assign (v:=v1) rfl) trivial ?_;refine Wh_done (by kernel_rfl) ?_;rotate_left;exact WhAll_nil;exact WhAll_nil;exact WhAll_nil
    refine WhAll_cons rfl ?_ ?_;refine Wo_call rfl (opc1 (a:=.string _) Tryd.call46 rfl) (l1Digits_ok _ _ (by assumption)) ?_;rintro _ w5 ⟨rfl,E5⟩;have hs5:=E5.size;refine Wo_nil ?_;refine ⟨trivial,?_⟩
    refine Wh_take 13 rfl (by kernel_rfl) (by kernel_rfl) rfl (fun _ _=>opv_build (ps:=[(0,.int _ _),(2,.int _ _)]) (cs:=[_,_,_]) flat26 rfl rfl) trivial ?_;refine Wh_all (rs:=[7]) (by kernel_rfl) rfl ?_
    refine WhAll_cons rfl ?_ ?_;refine Wo rfl (opv_load Tryd.isAgg9 rfl ((E4.trans E5).cell hcell)) ?_;refine Wo_nil ?_;refine ⟨trivial,?_⟩
    refine Wh_take 8 rfl (by kernel_rfl) (by kernel_rfl) rfl (fun _ _=>opv_build (ps:=[(0,.int _ _),(1,.string _)]) (cs:=[_,_,_]) flat26 rfl rfl) trivial ?_;refine Wh_all (rs:=[14]) (by kernel_rfl) rfl ?_
    refine WhAll_cons rfl ?_ ?_
    refine Wo_buildD3 (a1:=⟨_,_,_⟩) (a2:=⟨_,_,_⟩) (a3:=⟨_,_,_⟩) rfl elD36 rfl rfl rfl (by first | assumption | omega | (simp <;> omega)) (by first | assumption | omega | (simp <;> omega)) (by first | assumption | omega | (simp <;> omega)) ?_
    rintro b3 w6 hb3 E6 hO3;have hs6:=E6.size;refine Wo_nil ?_;refine ⟨trivial,?_⟩;refine Wh_all (rs:=[15]) (by kernel_rfl) rfl ?_;refine WhAll_cons rfl ?_ ?_
    refine Wo_appD rfl elD36 rfl rfl (hO2.ext ((E4.trans E5).trans E6)) hO3 (by first | omega | (simp <;> omega)) (by omega) (((E3.trans E4).trans E5).trans E6) (by omega) ?_;rintro v1 w7 hO4 E7 G1;refine Wo_nil ?_
    refine ⟨trivial,?_⟩;refine Wh_take 16 rfl (by kernel_rfl) (by kernel_rfl) rfl (fun _ _=>opv_assign (v:=v1) rfl) trivial ?_;refine Wh_done (by kernel_rfl) ?_;rotate_left;exact WhAll_nil;exact WhAll_nil;exact WhAll_nil
    exact WhAll_nil;refine WhAll_cons rfl ?_ ?_;refine Wo rfl (opv_load Tryd.isAgg9 rfl (E4.cell hcell)) ?_;refine Wo_nil ?_;refine ⟨trivial,?_⟩
    refine Wh_take 8 rfl (by kernel_rfl) (by kernel_rfl) rfl (fun _ _=>opv_build (ps:=[(0,.int _ _),(1,.string _)]) (cs:=[_,_,_]) flat26 rfl rfl) trivial ?_;refine Wh_all (rs:=[3,12]) (by kernel_rfl) rfl ?_
    refine WhAll_cons rfl ?_ ?_;refine Wo rfl (opv_load Tryd.isAgg9 rfl (E4.cell hcell)) ?_;refine Wo_nil ?_;refine ⟨trivial,?_⟩
    refine Wh_take 4 rfl (by kernel_rfl) (by kernel_rfl) rfl (fun _ _=>opv_build (ps:=[(0,.int _ _),(1,.string _)]) (cs:=[_,_,_]) flat26 rfl rfl) trivial ?_;refine Wh_all (rs:=[12]) (by kernel_rfl) rfl ?_
    refine WhAll_cons rfl ?_ ?_;refine Wo_call rfl (opc1 (a:=.string _) Tryd.call46 rfl) (l1Digits_ok _ _ (by assumption)) ?_;rintro _ w5 ⟨rfl,E5⟩;have hs5:=E5.size;refine Wo_nil ?_;refine ⟨trivial,?_⟩
    refine Wh_take 13 rfl (by kernel_rfl) (by kernel_rfl) rfl (fun _ _=>opv_build (ps:=[(0,.int _ _),(2,.int _ _)]) (cs:=[_,_,_]) flat26 rfl rfl) trivial ?_;refine Wh_all (rs:=[14]) (by kernel_rfl) rfl ?_
    refine WhAll_cons rfl ?_ ?_
    refine Wo_buildD3 (a1:=⟨_,_,_⟩) (a2:=⟨_,_,_⟩) (a3:=⟨_,_,_⟩) rfl elD36 rfl rfl rfl (by first | assumption | omega | (simp <;> omega)) (by first | assumption | omega | (simp <;> omega)) (by first | assumption | omega | (simp <;> omega)) ?_
    rintro b3 w6 hb3 E6 hO3;have hs6:=E6.size;refine Wo_nil ?_;refine ⟨trivial,?_⟩;refine Wh_all (rs:=[15]) (by kernel_rfl) rfl ?_;refine WhAll_cons rfl ?_ ?_
    refine Wo_appD rfl elD36 rfl rfl (hO2.ext ((E4.trans E5).trans E6)) hO3 (by first | omega | (simp <;> omega)) (by omega) (((E3.trans E4).trans E5).trans E6) (by omega) ?_;rintro v1 w7 hO4 E7 G1;refine Wo_nil ?_
    refine ⟨trivial,?_⟩;refine Wh_take 16 rfl (by kernel_rfl) (by kernel_rfl) rfl (fun _ _=>opv_assign (v:=v1) rfl) trivial ?_;refine Wh_done (by kernel_rfl) ?_;rotate_left;exact WhAll_nil;exact WhAll_nil;exact WhAll_nil
    refine WhAll_cons rfl ?_ ?_;refine Wo_call rfl (opc1 (a:=.string _) Tryd.call46 rfl) (l1Digits_ok _ _ (by assumption)) ?_;rintro _ w5 ⟨rfl,E5⟩;have hs5:=E5.size;refine Wo_nil ?_;refine ⟨trivial,?_⟩
    refine Wh_take 13 rfl (by kernel_rfl) (by kernel_rfl) rfl (fun _ _=>opv_build (ps:=[(0,.int _ _),(2,.int _ _)]) (cs:=[_,_,_]) flat26 rfl rfl) trivial ?_;refine Wh_all (rs:=[3]) (by kernel_rfl) rfl ?_
    refine WhAll_cons rfl ?_ ?_;refine Wo rfl (opv_load Tryd.isAgg9 rfl ((E4.trans E5).cell hcell)) ?_;refine Wo_nil ?_;refine ⟨trivial,?_⟩
    refine Wh_take 4 rfl (by kernel_rfl) (by kernel_rfl) rfl (fun _ _=>opv_build (ps:=[(0,.int _ _),(1,.string _)]) (cs:=[_,_,_]) flat26 rfl rfl) trivial ?_;refine Wh_all (rs:=[14]) (by kernel_rfl) rfl ?_
    refine WhAll_cons rfl ?_ ?_
    refine Wo_buildD3 (a1:=⟨_,_,_⟩) (a2:=⟨_,_,_⟩) (a3:=⟨_,_,_⟩) rfl elD36 rfl rfl rfl (by first | assumption | omega | (simp <;> omega)) (by first | assumption | omega | (simp <;> omega)) (by first | assumption | omega | (simp <;> omega)) ?_
    rintro b3 w6 hb3 E6 hO3;have hs6:=E6.size;refine Wo_nil ?_;refine ⟨trivial,?_⟩;refine Wh_all (rs:=[15]) (by kernel_rfl) rfl ?_;refine WhAll_cons rfl ?_ ?_
    refine Wo_appD rfl elD36 rfl rfl (hO2.ext ((E4.trans E5).trans E6)) hO3 (by first | omega | (simp <;> omega)) (by omega) (((E3.trans E4).trans E5).trans E6) (by omega) ?_;rintro v1 w7 hO4 E7 G1;refine Wo_nil ?_
    refine ⟨trivial,?_⟩;refine Wh_take 16 rfl (by kernel_rfl) (by kernel_rfl) rfl (fun _ _=>opv_assign (v:=v1) rfl) trivial ?_;refine Wh_done (by kernel_rfl) ?_;rotate_left;exact WhAll_nil;exact WhAll_nil;exact WhAll_nil
    exact WhAll_nil;refine WhAll_cons rfl ?_ ?_;refine Wo_call rfl (opc1 (a:=.string _) Tryd.call46 rfl) (l1Digits_ok _ _ (by assumption)) ?_;rintro _ w5 ⟨rfl,E5⟩;have hs5:=E5.size;refine Wo_nil ?_;refine ⟨trivial,?_⟩
    refine Wh_take 13 rfl (by kernel_rfl) (by kernel_rfl) rfl (fun _ _=>opv_build (ps:=[(0,.int _ _),(2,.int _ _)]) (cs:=[_,_,_]) flat26 rfl rfl) trivial ?_;refine Wh_all (rs:=[3,7]) (by kernel_rfl) rfl ?_
    refine WhAll_cons rfl ?_ ?_;refine Wo rfl (opv_load Tryd.isAgg9 rfl ((E4.trans E5).cell hcell)) ?_;refine Wo_nil ?_;refine ⟨trivial,?_⟩
    refine Wh_take 4 rfl (by kernel_rfl) (by kernel_rfl) rfl (fun _ _=>opv_build (ps:=[(0,.int _ _),(1,.string _)]) (cs:=[_,_,_]) flat26 rfl rfl) trivial ?_;refine Wh_all (rs:=[7]) (by kernel_rfl) rfl ?_
    refine WhAll_cons rfl ?_ ?_;refine Wo rfl (opv_load Tryd.isAgg9 rfl ((E4.trans E5).cell hcell)) ?_;refine Wo_nil ?_;refine ⟨trivial,?_⟩
    refine Wh_take 8 rfl (by kernel_rfl) (by kernel_rfl) rfl (fun _ _=>opv_build (ps:=[(0,.int _ _),(1,.string _)]) (cs:=[_,_,_]) flat26 rfl rfl) trivial ?_;refine Wh_all (rs:=[14]) (by kernel_rfl) rfl ?_
    refine WhAll_cons rfl ?_ ?_
    refine Wo_buildD3 (a1:=⟨_,_,_⟩) (a2:=⟨_,_,_⟩) (a3:=⟨_,_,_⟩) rfl elD36 rfl rfl rfl (by first | assumption | omega | (simp <;> omega)) (by first | assumption | omega | (simp <;> omega)) (by first | assumption | omega | (simp <;> omega)) ?_
    rintro b3 w6 hb3 E6 hO3;have hs6:=E6.size;refine Wo_nil ?_;refine ⟨trivial,?_⟩;refine Wh_all (rs:=[15]) (by kernel_rfl) rfl ?_;refine WhAll_cons rfl ?_ ?_
    refine Wo_appD rfl elD36 rfl rfl (hO2.ext ((E4.trans E5).trans E6)) hO3 (by first | omega | (simp <;> omega)) (by omega) (((E3.trans E4).trans E5).trans E6) (by omega) ?_;rintro v1 w7 hO4 E7 G1;refine Wo_nil ?_
    refine ⟨trivial,?_⟩;refine Wh_take 16 rfl (by kernel_rfl) (by kernel_rfl) rfl (fun _ _=>opv_assign (v:=v1) rfl) trivial ?_;refine Wh_done (by kernel_rfl) ?_;rotate_left;exact WhAll_nil;exact WhAll_nil;exact WhAll_nil
    refine WhAll_cons rfl ?_ ?_;refine Wo rfl (opv_load Tryd.isAgg9 rfl ((E4.trans E5).cell hcell)) ?_;refine Wo_nil ?_;refine ⟨trivial,?_⟩
    refine Wh_take 8 rfl (by kernel_rfl) (by kernel_rfl) rfl (fun _ _=>opv_build (ps:=[(0,.int _ _),(1,.string _)]) (cs:=[_,_,_]) flat26 rfl rfl) trivial ?_;refine Wh_all (rs:=[3]) (by kernel_rfl) rfl ?_
    refine WhAll_cons rfl ?_ ?_;refine Wo rfl (opv_load Tryd.isAgg9 rfl ((E4.trans E5).cell hcell)) ?_;refine Wo_nil ?_;refine ⟨trivial,?_⟩
    refine Wh_take 4 rfl (by kernel_rfl) (by kernel_rfl) rfl (fun _ _=>opv_build (ps:=[(0,.int _ _),(1,.string _)]) (cs:=[_,_,_]) flat26 rfl rfl) trivial ?_;refine Wh_all (rs:=[14]) (by kernel_rfl) rfl ?_
    refine WhAll_cons rfl ?_ ?_
    refine Wo_buildD3 (a1:=⟨_,_,_⟩) (a2:=⟨_,_,_⟩) (a3:=⟨_,_,_⟩) rfl elD36 rfl rfl rfl (by first | assumption | omega | (simp <;> omega)) (by first | assumption | omega | (simp <;> omega)) (by first | assumption | omega | (simp <;> omega)) ?_
    rintro b3 w6 hb3 E6 hO3;have hs6:=E6.size;refine Wo_nil ?_;refine ⟨trivial,?_⟩;refine Wh_all (rs:=[15]) (by kernel_rfl) rfl ?_;refine WhAll_cons rfl ?_ ?_
    refine Wo_appD rfl elD36 rfl rfl (hO2.ext ((E4.trans E5).trans E6)) hO3 (by first | omega | (simp <;> omega)) (by omega) (((E3.trans E4).trans E5).trans E6) (by omega) ?_;rintro v1 w7 hO4 E7 G1;refine Wo_nil ?_
    refine ⟨trivial,?_⟩;refine Wh_take 16 rfl (by kernel_rfl) (by kernel_rfl) rfl (fun _ _=>opv_assign (v:=v1) rfl) trivial ?_;refine Wh_done (by kernel_rfl) ?_;rotate_left;exact WhAll_nil;exact WhAll_nil;exact WhAll_nil
    exact WhAll_nil;exact WhAll_nil;exact WhAll_nil
   all_goals exact ⟨_,⟨rfl,trivial⟩,by repeat (first | with_reducible exact Same.refl | refine Same.upd rfl ?_ | refine Same.upds rfl ?_ | refine Same.mix rfl ?_),by assumption,by assumption⟩
  ·have eL:L=[⟨0,[],0⟩,⟨4,[],0⟩]:=by rw [hL,rdL,if_neg h2];rfl
   focus
    have szE3:=E3.size;have szE2:=E2.size;have szE1:=E1.size;refine W_cond_dec rfl (fun h1=>?_) (fun h1=>?_);(exfalso;omega);refine W_skip ?_
   subst eL
   exact ⟨_,⟨rfl,trivial⟩,by repeat (first | with_reducible exact Same.refl | refine Same.upd rfl ?_ | refine Same.upds rfl ?_ | refine Same.mix rfl ?_),by assumption,by assumption⟩
 rintro v ρm w4 ⟨E4,hOL⟩
 have hRL:=hOL.read
 clear hOL hO1 hL hz
 focus
  have szE4:=E4.size;have szE3:=E3.size;have szE2:=E2.size;have szE1:=E1.size;refine W_seq ?_;refine W_seq ?_;refine W_region rfl ?_;refine Wo rfl (opv_assign (v:=.int _ _) rfl) ?_;refine Wo_nil ?_;refine W_block ?_
 refine W_loop [3,6,31,32,33,34,35,36,37,38,39,40,41,42,43,44,45,46,47,48,49,50,51] (fun (k:Nat)=>[(6,.int .i64 (k:Nat))]) (fun k w'=>Ext w4 w'∧k≤L.length∧∀ (j:Nat) (h:j < L.length),j < k→s≠[]→dtV L[j]≠s) (fun k=>L.length - k) 0 (by repeat (first | exact trivial | refine And.intro rfl ?_)) ?_ ?_
 ·exact ⟨Ext.refl _,Nat.zero_le _,fun j h h2=>by omega⟩
 rintro k ρj w5 ⟨E5,hk,hno⟩
 by_cases hkl:k < L.length
 ·have htk:=htx k hkl
  have kd : ∀ (w:World),Does Tryd.prog 12 [dv L[k]] w (Ret w (str (dtV L[k]))):=fun w=>spec_DeedText_ok w _ _ _ htk
  focus
   have szE5:=E5.size;have szE4:=E4.size;have szE3:=E3.size;have szE2:=E2.size;have szE1:=E1.size;refine W_seq ?_;refine W_seq ?_;refine W_region rfl ?_;refine Wo rfl (opv_move (v:=.int _ _) rfl) ?_
   refine Wo rfl (opv_move (v:=v) rfl) ?_;refine Wo rfl (opv_lenD Tryd.underlying36 rfl hRL) ?_;refine Wo rfl (opv_lss rfl rfl) ?_;refine Wo_nil ?_;refine W_cond_dec rfl (fun h1=>?_) (fun h1=>?_);refine W_skip ?_
   refine W_seq ?_;refine W_block ?_;refine W_seq ?_;refine W_region rfl ?_;refine Wo rfl (opv_move (v:=.string _) rfl) ?_;refine Wo rfl (opv_neq_str rfl rfl) ?_
   refine Wo_split_ndec rfl (opv_move (v:=.bool _) rfl) (fun h2=>?_) (fun h2=>?_);refine Wo rfl (opv_move (v:=v) rfl) ?_;refine Wo rfl (opv_move (v:=.int _ _) rfl) ?_
   refine Wo_getD Tryd.underlying36 Tryd.sizeOf26 Tryd.isAgg26 Tryd.sizeOf26 rfl (fun _=>rfl) rfl hRL E5 rfl (by first | omega | (simp <;> omega)) ?_;rintro _;refine Wo_call rfl (opc1 (a:=.agg _) Tryd.call12 rfl) (kd _) ?_
   rintro _ w6 ⟨rfl,E6⟩;have hs4:=E6.size;refine Wo rfl (opv_move (v:=.string _) rfl) ?_;refine Wo rfl (opv_eql_str rfl rfl) ?_;refine Wo rfl (opv_pick_t (v:=.bool _) rfl rfl) ?_;refine Wo_nil ?_
   refine W_cond_dec rfl (fun h3=>?_) (fun h3=>?_);refine W_seq ?_;refine W_region rfl ?_;refine Wo rfl (opv_move (v:=v) rfl) ?_;refine Wo rfl (opv_move (v:=.int _ _) rfl) ?_
   refine Wo_getD Tryd.underlying36 Tryd.sizeOf26 Tryd.isAgg26 Tryd.sizeOf26 rfl (fun _=>rfl) rfl hRL (E5.trans E6) rfl (by first | omega | (simp <;> omega)) ?_;rintro _
   refine Wo_st3 rfl Tryd.sizeOf26 rfl rfl (by first | rfl | assumption) (by first | rfl | assumption) (by first | rfl | assumption) (hB1.ext (((E2.trans E4).trans E5).trans E6)) (by omega) ((((E1.trans E2).trans E4).trans E5).trans E6) ?_
   rintro w7 E7 hB1 K1 hz1;refine Wo rfl (opv_assign (v:=.bool _) rfl) ?_;refine Wo_nil ?_;refine W_ret ?_;rotate_left;refine W_skip ?_;refine W_region rfl ?_;refine Wo rfl (opv_move (v:=.int _ _) rfl) ?_
   refine Wo rfl (opv_add rfl rfl (by omega)) ?_;refine Wo rfl (opv_assign (v:=.int _ _) rfl) ?_;refine Wo_nil ?_;rotate_left;refine Wo_skip rfl ?_;refine Wo_skip rfl ?_;refine Wo_skip rfl ?_;refine Wo_skip rfl ?_
   refine Wo_skip rfl ?_;refine Wo_skip rfl ?_;refine Wo_skip rfl ?_;refine Wo rfl (opv_pick_f (v:=.bool _) rfl rfl) ?_;refine Wo_nil ?_;refine W_cond_false rfl ?_;refine W_skip ?_;refine W_region rfl ?_
   refine Wo rfl (opv_move (v:=.int _ _) rfl) ?_;refine Wo rfl (opv_add rfl rfl (by omega)) ?_;refine Wo rfl (opv_assign (v:=.int _ _) rfl) ?_;refine Wo_nil ?_;rotate_left;(exfalso;omega)
  ·refine ⟨_,_,_,_,rfl,by assumption,?_,by assumption⟩
   exact leaf_some (rdD_eq (by assumption) (by assumption)) rfl
  ·refine ⟨(k+1),by repeat (first | exact trivial | refine And.intro rfl ?_),by repeat (first | with_reducible exact Same.refl | refine Same.upd rfl ?_ | refine Same.upds rfl ?_ | refine Same.mix rfl ?_),?_,?_⟩
   ·refine ⟨by first | assumption | exact E5.trans (by assumption),by omega,fun j h h2 hs0=>?_⟩
    rcases Nat.lt_or_ge j k with h3 | h3
    ·exact hno j h h3 hs0
    ·obtain rfl:j=k:=by omega
     assumption
   ·omega
  ·refine ⟨(k+1),by repeat (first | exact trivial | refine And.intro rfl ?_),by repeat (first | with_reducible exact Same.refl | refine Same.upd rfl ?_ | refine Same.upds rfl ?_ | refine Same.mix rfl ?_),?_,?_⟩
   ·exact ⟨by first | assumption | exact E5.trans (by assumption),by omega,fun j h h2 hs0=>absurd (by assumption) hs0⟩
   ·omega
 ·focus
   have szE5:=E5.size;have szE4:=E4.size;have szE3:=E3.size;have szE2:=E2.size;have szE1:=E1.size;refine W_seq ?_;refine W_seq ?_;refine W_region rfl ?_;refine Wo rfl (opv_move (v:=.int _ _) rfl) ?_
   refine Wo rfl (opv_move (v:=v) rfl) ?_;refine Wo rfl (opv_lenD Tryd.underlying36 rfl hRL) ?_;refine Wo rfl (opv_lss rfl rfl) ?_;refine Wo_nil ?_;refine W_cond_dec rfl (fun h1=>?_) (fun h1=>?_);(exfalso;omega)
   refine W_exit ?_;refine exitX_same ?_;refine W_seq ?_;refine W_region rfl ?_;refine Wo rfl (opv_build (ps:=[]) (cs:=[_,_,_]) flat26 rfl rfl) ?_
   refine Wo_st3 rfl Tryd.sizeOf26 rfl rfl (by first | rfl | assumption) (by first | rfl | assumption) (by first | rfl | assumption) (hB1.ext ((E2.trans E4).trans E5)) (by omega) (((E1.trans E2).trans E4).trans E5) ?_
   rintro w6 E6 hB1 K1 hz1;refine Wo rfl (opv_assign (v:=.bool _) rfl) ?_;refine Wo_nil ?_;refine W_ret ?_
  refine ⟨_,_,_,_,rfl,by assumption,?_,by assumption⟩
  refine leaf_none ?_ rfl
  cases hr:rdD s with
  | none=>rfl
  | some a =>
    obtain ⟨j, hj, e⟩ := List.mem_iff_getElem.1 (hall a hr)
    have h9 := rdD_some hr
    exact absurd (e ▸ h9.1) (hno j hj (by omega) h9.2)
theorem impl_ReadDeed_ok (w:World) (s:List UInt8) (hM:EMx gMx w (.bool true) ()) (hs:s.length≤1048576) :
  Does Tryd.prog 16 [str s] w (Ret w (.tuple #[dv ((rdD s).getD ⟨0,[],0⟩),.bool (rdD s).isSome])):=by
 refine fn_of_Wc3t Tryd.func16 rfl Tryd.results16 Tryd.ntmps16 rfl Tryd.isAgg26 Tryd.sizeOf26 ?_
 focus
  refine W_seq ?_;refine W_region rfl ?_;refine Wo_allocN rfl flat26 ?_;rintro b1 w1 hb1 E1 hB1;have hlb1:=hB1.lt;have hs1:=E1.size;refine Wo rfl (opv_assign (v:=.bool _) rfl) ?_;refine Wo_nil ?_;refine W_seq ?_
  refine W_region rfl ?_;refine Wo rfl (opv_move (v:=.string _) rfl) ?_;refine Wo_call rfl (opc1 (a:=.string _) Tryd.call47 rfl) (impl_readDeed_ok _ _ ((Mono.mono E1 hM)) (by assumption)) ?_;rintro _ w2 ⟨rfl,E2⟩
  have hs2:=E2.size;refine Wo rfl (opv_extract (v:=.agg _) rfl rfl) ?_;refine Wo rfl (opv_extract (v:=.bool _) rfl rfl) ?_
  refine Wo_st3 rfl Tryd.sizeOf26 rfl rfl (by first | rfl | assumption) (by first | rfl | assumption) (by first | rfl | assumption) (hB1.ext E2) (by omega) (E1.trans E2) ?_;rintro w3 E3 hB1 K1 hz1
  refine Wo rfl (opv_assign (v:=.bool _) rfl) ?_;refine Wo_nil ?_;refine W_ret ?_
 exact ⟨_,_,_,_,rfl,by assumption,⟨rfl,by assumption⟩⟩
theorem rdD_text {s:List UInt8} {a:Deed} (h:rdD s=some a) {n:Nat} (hs:s.length≤n):a.text.length≤n:=by
 have h1:=(rdD_some h).1
 have ht:=rdD_told h
 cases ht with
 | single=>simp
 | back=>simp
 | into d hd=>simp
 | add p hp=>rw [dtV_add hp] at h1;rw [← h1] at hs;simp at hs ⊢;omega
 | drop p hp=>rw [dtV_drop hp] at h1;rw [← h1] at hs;simp at hs ⊢;omega
end Go.Proofs.YtgphoihilheoeaaDoor
