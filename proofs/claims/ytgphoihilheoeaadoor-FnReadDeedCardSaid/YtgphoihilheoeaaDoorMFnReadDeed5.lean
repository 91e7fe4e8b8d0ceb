/- Lemmas for FnReadDeed. -/
import Derived.Test.YtgphoihilheoeaaDoorMFnReadDeed4
import Derived.Test.YtgphoihilheoeaaDoorProg
namespace Go.Proofs.YtgphoihilheoeaaDoor
open Go.Hs
set_option maxRecDepth 10000
set_option maxHeartbeats 4000000
set_option linter.unusedVariables false
set_option linter.unusedSimpArgs false
open Classical in
theorem spec_DeskDo_ok (w:World) (u1 u2:Value) (d:Dsk) (h1:ESl Ints w u1 d.now) (h2:ESl (ESl Ints) w u2 d.past) (k n:Int) (t:List UInt8) (ht:t.length≤1048576) :
  Does Tryd.prog 78 [.agg #[u1,u2],.agg #[.int .i64 k,str t,.int .i64 n]] w (RetDkAB w (if DkOk d then (doV d ⟨k,t,n⟩).1.now else []) (if DkOk d then (doV d ⟨k,t,n⟩).1.past else []) (decide (DkOk d) && (doV d ⟨k,t,n⟩).2)):=by
 obtain ⟨p,pp⟩:=d
 have hle:=h2.le
 have i1:isCell u1=true:=ESl_isC h1
 have i2:isCell u2=true:=ESl_isC h2
 simp only at h1 h2 hle
 refine fn_of_Wct Tryd.func78 rfl Tryd.results78 Tryd.ntmps78 rfl Tryd.isAgg53 Tryd.sizeOf53 ?_
 by_cases hd:DkOk ⟨p,pp⟩
 ·have k0 : ∀ w,ESl Ints w u1 p→ESl (ESl Ints) w u2 pp→Does Tryd.prog 96 [.agg #[u1,u2]] w (Ret w (.bool true)):=fun w h1 h2=>by
   have:=spec_DeskOk_ok w u1 u2 ⟨p,pp⟩ h1 h2;rwa [decide_eq_true hd] at this
  have hpp:Pic p:=hd.1.1
  have hppl:pp.length≤8:=hd.2.1
  have hb1:p.length≤100∧∀ r ∈ p,r.length≤100:=⟨by have:=hpp.2.1;omega,fun r hr=>by rw [(hpp.2.2 r hr).1];have:=hpp.2.1;omega⟩
  have hb2 : ∀ q ∈ pp,q.length≤100∧∀ r ∈ q,r.length≤100:=fun q hq=>by
   have hq:=(hd.2.2 q hq).1
   exact ⟨by have:=hq.2.1;omega,fun r hr=>by rw [(hq.2.2 r hr).1];have:=hq.2.1;omega⟩
  have k1 : ∀ w,ESl Ints w u1 p→ESl (ESl Ints) w u2 pp→Does Tryd.prog 97 [.agg #[u1,u2]] w (RetDk w 49 80 3 p pp):=fun w h1 h2=>l11Copy_ok w u1 u2 p pp h1 h2 hb1 (by omega) hb2
  rw [if_pos hd,if_pos hd,decide_eq_true hd,Bool.true_and]
  by_cases hb:isBack ⟨p,pp⟩ ⟨k,t,n⟩
  ·obtain ⟨e,hne⟩:=hb
   cases e
   have hpl:0 < pp.length:=List.length_pos_iff.2 hne
   have hdo:doV ⟨p,pp⟩ ⟨4,[],0⟩=(⟨pp.getLastD [],pp.dropLast⟩,true):=by unfold doV;rw [if_pos ⟨rfl,hne⟩]
   rw [hdo]
   simp only
   have litown:True:=trivial
   have stop6:True:=trivial
   focus
    refine W_seq ?_;refine W_region rfl ?_;refine Wo_box rfl rfl rfl ?_;rintro b1 w1 hb3 E1 hB1;have hlb1:=hB1.lt;have hs1:=E1.size;refine Wo_box rfl rfl rfl ?_;rintro b2 w2 hb4 E2 hB2;have hlb2:=hB2.lt
    have hs2:=E2.size;refine Wo_alloc2 rfl flat53 ?_;rintro b3 w3 hb5 E3 hB3;have hlb3:=hB3.lt;have hs3:=E3.size;refine Wo rfl (opv_assign (v:=.bool _) rfl) ?_;refine Wo_nil ?_;refine W_seq ?_;refine W_seq ?_
    refine W_region rfl ?_;refine Wo (v:=.agg _) rfl (opv_load2 Tryd.isAgg53 Tryd.sizeOf53 rfl (hB1.ext (E2.trans E3))) ?_
    refine Wo_call rfl (opc1 (a:=.agg _) Tryd.call96 rfl) (k0 _ ((Mono.mono ((E1.trans E2).trans E3) h1)) ((Mono.mono ((E1.trans E2).trans E3) h2))) ?_;rintro _ w4 ⟨rfl,E4⟩;have hs4:=E4.size;refine Wo rfl (opv_not rfl) ?_
    refine Wo_nil ?_;refine W_cond rfl (fun h3=>?_) (fun h3=>?_);contradiction;refine W_skip ?_;refine W_seq ?_;refine W_region rfl ?_
    refine Wo (v:=.agg _) rfl (opv_load2 Tryd.isAgg53 Tryd.sizeOf53 rfl (hB1.ext ((E2.trans E3).trans E4))) ?_
    refine Wo_call rfl (opc1 (a:=.agg _) Tryd.call97 rfl) (k1 _ ((Mono.mono (((E1.trans E2).trans E3).trans E4) h1)) ((Mono.mono (((E1.trans E2).trans E3).trans E4) h2))) ?_;rintro _ w5 ⟨u3,q1,m1,rfl,E5,hO1,hQ1,hm1,hn1⟩
    have icu3:=OwnedB.isC hO1;have cpu3:=OwnedB.capOk hO1;have icq1:=OwnedB.isC (Owned.toB hQ1);have cpq1:=OwnedB.capOk (Owned.toB hQ1);have hs5:=E5.size;refine Wo_alloc2 rfl flat53 ?_;rintro b4 w6 hb6 E6 hB4
    have hlb4:=hB4.lt;have hs6:=E6.size;refine Wo_st2 rfl Tryd.sizeOf53 rfl rfl (by first | rfl | assumption) (by first | rfl | assumption) hB4 (by omega) (((((E1.trans E2).trans E3).trans E4).trans E5).trans E6) ?_
    rintro w7 E7 hB4 K1 hz1;have E8:=((((E2.trans E3).trans E4).trans E5).trans E6).wroteAt (((((E1.trans E2).trans E3).trans E4).trans E5).trans E6) E7 K1 hz1 (by omega);have szE8:=E8.size
    have E9:=(((E3.trans E4).trans E5).trans E6).wroteAt (((((E1.trans E2).trans E3).trans E4).trans E5).trans E6) E7 K1 hz1 (by omega);have szE9:=E9.size
    have E10:=((E4.trans E5).trans E6).wroteAt (((((E1.trans E2).trans E3).trans E4).trans E5).trans E6) E7 K1 hz1 (by omega);have szE10:=E10.size
    have E11:=(E5.trans E6).wroteAt (((((E1.trans E2).trans E3).trans E4).trans E5).trans E6) E7 K1 hz1 (by omega);have szE11:=E11.size
    have E12:=E6.wroteAt (((((E1.trans E2).trans E3).trans E4).trans E5).trans E6) E7 K1 hz1 (by omega);have szE12:=E12.size;have hB1:=(hB1.ext ((((E2.trans E3).trans E4).trans E5).trans E6)).of_heap (K1 _ (by omega))
    have hB2:=(hB2.ext (((E3.trans E4).trans E5).trans E6)).of_heap (K1 _ (by omega));have hB3:=(hB3.ext ((E4.trans E5).trans E6)).of_heap (K1 _ (by omega));have hO1:=(hO1.ext E6).wrote K1 (by omega)
    have hQ1:=(hQ1.toB.ext E6).wrote K1 (by omega);refine Wo_nil ?_;refine W_seq ?_;refine W_seq ?_;refine W_region rfl ?_;refine Wo (v:=.agg _) rfl (opv_load3 Tryd.isAgg26 Tryd.sizeOf26 rfl hB2) ?_
    refine Wo rfl (opv_build (ps:=[(0,.int _ _)]) (cs:=[_,_,_]) flat26 rfl rfl) ?_;refine Wo rfl (opv_eqD rfl rfl) ?_;refine Wo_split_dec rfl (opv_move (v:=.bool _) rfl) (fun h4=>?_) (fun h4=>?_)
    refine Wo rfl (opv_fieldAddr Tryd.underlying53 rfl rfl Tryd.sizeOf51 rfl) ?_;refine Wo (v:=u2) rfl (opv_load Tryd.isAgg51 rfl (hB1.cell rfl)) ?_;refine Wo rfl (opv_len Tryd.underlying51 rfl h2) ?_
    refine Wo rfl (opv_gtr rfl rfl) ?_;refine Wo rfl (opv_pick_t (v:=.bool _) rfl rfl) ?_;refine Wo_nil ?_;refine W_cond_dec rfl (fun h5=>?_) (fun h5=>?_);refine W_seq ?_;refine W_region rfl ?_
    refine Wo rfl (opv_fieldAddr Tryd.underlying53 rfl rfl Tryd.sizeOf51 rfl) ?_;refine Wo (v:=q1) rfl (opv_load Tryd.isAgg51 rfl (hB4.cell rfl)) ?_;refine Wo rfl (opv_len Tryd.underlying51 rfl (OwnedB.read hQ1)) ?_
    refine Wo rfl (opv_sub rfl rfl (by omega)) ?_;refine Wo rfl (opv_assign (v:=.int _ _) rfl) ?_;refine Wo_nil ?_;refine W_seq ?_;rotate_left;(exfalso;omega);contradiction
   clear stop6
   obtain ⟨qb,qc,ur,rfl,hqc,hcl,hel,hqb,hqb2,icr⟩:=hQ1.elem (i:=pp.length - 1) (by omega)
   have hcl:w7.cell? ⟨qb,0+((pp.length:Int) - 1).toNat,none⟩=some ur:=by rw [Nat.zero_add,show ((pp.length:Int) - 1).toNat=pp.length - 1 by omega];exact hcl
   have cellF:True:=trivial
   focus
    have szE12:=E12.size;have szE11:=E11.size;have szE10:=E10.size;have szE9:=E9.size;have szE8:=E8.size;have szE7:=E7.size;have szE6:=E6.size;have szE5:=E5.size;have szE4:=E4.size;have szE3:=E3.size
    have szE2:=E2.size;have szE1:=E1.size;refine W_region rfl ?_;refine Wo rfl (opv_fieldAddr Tryd.underlying53 rfl rfl Tryd.sizeOf51 rfl) ?_;refine Wo (v:=.slice _ _ _) rfl (opv_load Tryd.isAgg51 rfl (hB4.cell rfl)) ?_
    refine Wo rfl (opv_move (v:=.int _ _) rfl) ?_;refine Wo rfl (opv_indexAddr_z Tryd.underlying51 Tryd.sizeOf49 rfl rfl (by omega)) ?_;refine Wo rfl (opv_load Tryd.isAgg49 rfl (by assumption)) ?_
    refine Wo rfl (opv_fieldAddr Tryd.underlying53 rfl rfl Tryd.sizeOf49 rfl) ?_;refine Wo_st (v:=ur) rfl Tryd.sizeOf49 rfl rfl (OwnedB.isC hel) hB4 (by simp) (by omega) E7 ?_;rintro w8 E13 hB4 K2 hz2
    have E14:=E8.wroteAt E7 E13 K2 hz2 (by omega);have szE14:=E14.size;have E15:=E9.wroteAt E7 E13 K2 hz2 (by omega);have szE15:=E15.size;have E16:=E10.wroteAt E7 E13 K2 hz2 (by omega);have szE16:=E16.size
    have E17:=E11.wroteAt E7 E13 K2 hz2 (by omega);have szE17:=E17.size;have E18:=E12.wroteAt E7 E13 K2 hz2 (by omega);have szE18:=E18.size;simp only [List.set] at hB4;have hB1:=hB1.of_heap (K2 _ (by omega))
    have hB2:=hB2.of_heap (K2 _ (by omega));have hB3:=hB3.of_heap (K2 _ (by omega));have hO1:=hO1.wrote K2 (by omega);have hQ1:=hQ1.wrote K2 (by omega);have hel:=hel.wrote K2 (by omega);refine Wo_nil ?_;refine W_seq ?_
    refine W_region rfl ?_;refine Wo rfl (opv_fieldAddr Tryd.underlying53 rfl rfl Tryd.sizeOf51 rfl) ?_;refine Wo (v:=.slice _ _ _) rfl (opv_load Tryd.isAgg51 rfl (hB4.cell rfl)) ?_;refine Wo rfl (opv_move (v:=.int _ _) rfl) ?_
    refine Wo rfl (opv_slice_sl_hi Tryd.underlying51 Tryd.sizeOf49 rfl rfl (by omega)) ?_;refine Wo rfl (opv_fieldAddr Tryd.underlying53 rfl rfl Tryd.sizeOf51 rfl) ?_
    refine Wo_st (v:=.slice _ _ _) rfl Tryd.sizeOf51 rfl rfl rfl hB4 (by simp) (by omega) E13 ?_;rintro w9 E19 hB4 K3 hz3;have E20:=E14.wroteAt E13 E19 K3 hz3 (by omega);have szE20:=E20.size
    have E21:=E15.wroteAt E13 E19 K3 hz3 (by omega);have szE21:=E21.size;have E22:=E16.wroteAt E13 E19 K3 hz3 (by omega);have szE22:=E22.size;have E23:=E17.wroteAt E13 E19 K3 hz3 (by omega);have szE23:=E23.size
    have E24:=E18.wroteAt E13 E19 K3 hz3 (by omega);have szE24:=E24.size;simp only [List.set] at hB4;have hB1:=hB1.of_heap (K3 _ (by omega));have hB2:=hB2.of_heap (K3 _ (by omega));have hB3:=hB3.of_heap (K3 _ (by omega))
    have hO1:=hO1.wrote K3 (by omega);have hQ1:=hQ1.wrote K3 (by omega);have hel:=hel.wrote K3 (by omega);refine Wo_nil ?_;refine W_seq ?_;refine W_region rfl ?_
    refine Wo (v:=.agg _) rfl (opv_load2 Tryd.isAgg53 Tryd.sizeOf53 rfl hB4) ?_;refine Wo_st2 rfl Tryd.sizeOf53 rfl rfl (by first | rfl | assumption) (by first | rfl | assumption) hB3 (by omega) E19 ?_;rintro w10 E25 hB3 K4 hz4
    have E26:=E20.wroteAt E19 E25 K4 hz4 (by omega);have szE26:=E26.size;have E27:=E21.wroteAt E19 E25 K4 hz4 (by omega);have szE27:=E27.size;have hB4:=hB4.of_heap (K4 _ (by omega))
    have hB1:=hB1.of_heap (K4 _ (by omega));have hB2:=hB2.of_heap (K4 _ (by omega));have hO1:=hO1.wrote K4 (by omega);have hQ1:=hQ1.wrote K4 (by omega);have hel:=hel.wrote K4 (by omega)
    refine Wo rfl (opv_assign (v:=.bool _) rfl) ?_;refine Wo_nil ?_;refine W_ret ?_
   have hlast:pp.getLastD []=pp[pp.length - 1]:=by rw [List.getLastD_eq_getLast?,List.getLast?_eq_getElem?,List.getElem?_eq_getElem (by omega)];rfl
   rw [hlast,List.dropLast_eq_take]
   refine ⟨b3,ur,_,rfl,hB3,ur,_,rfl,E25,hel.above.mono (by omega),?_,icr,rfl,by omega⟩
   rw [show ((pp.length:Int) - 1).toNat=pp.length - 1 by omega]
   exact (hQ1.above.mono (by omega)).takeS (by omega)
  ·have hdo:doV ⟨p,pp⟩ ⟨k,t,n⟩=match nextV p ⟨k,t,n⟩ with
    | some c=>(⟨c,last8 (pp++[p])⟩,true)
    | none=>(⟨p,pp⟩,false):=by unfold doV;rw [if_neg hb];rfl
   rw [hdo]
   have hback:(⟨k,t,n⟩:Deed)=⟨4,[],0⟩→pp.length=0:=fun e=>Classical.byContradiction fun h=>hb ⟨e,fun h'=>h (by rw [show pp=[] from h'];rfl)⟩
   have k2 : ∀ w,ESl Ints w u1 p→Does Tryd.prog 98 [u1,.agg #[.int .i64 k,str t,.int .i64 n]] w (RetOB w XR (og (madeV p ⟨k,t,n⟩)) (madeV p ⟨k,t,n⟩).isSome):=fun w h=>l11Made_ok w u1 p h hpp k n t ht
   have litown:True:=trivial
   by_cases ha:(⟨k,t,n⟩:Deed)=⟨4,[],0⟩
   ·have hpl0:=hback ha
    cases ha
    have hmv:madeV p ⟨4,[],0⟩=none:=by simp [madeV]
    have hnx:nextV p ⟨4,[],0⟩=none:=by unfold nextV;rw [hmv]
    rw [hmv,show og none=[] from rfl,show (none:Option (List (List Int))).isSome=false from rfl] at k2
    rw [hnx]
    simp only
    focus
     refine W_seq ?_;refine W_region rfl ?_;refine Wo_box rfl rfl rfl ?_;rintro b1 w1 hb3 E1 hB1;have hlb1:=hB1.lt;have hs1:=E1.size;refine Wo_box rfl rfl rfl ?_;rintro b2 w2 hb4 E2 hB2;have hlb2:=hB2.lt
     have hs2:=E2.size;refine Wo_alloc2 rfl flat53 ?_;rintro b3 w3 hb5 E3 hB3;have hlb3:=hB3.lt;have hs3:=E3.size;refine Wo rfl (opv_assign (v:=.bool _) rfl) ?_;refine Wo_nil ?_;refine W_seq ?_;refine W_seq ?_
     refine W_region rfl ?_;refine Wo (v:=.agg _) rfl (opv_load2 Tryd.isAgg53 Tryd.sizeOf53 rfl (hB1.ext (E2.trans E3))) ?_
     refine Wo_call rfl (opc1 (a:=.agg _) Tryd.call96 rfl) (k0 _ ((Mono.mono ((E1.trans E2).trans E3) h1)) ((Mono.mono ((E1.trans E2).trans E3) h2))) ?_;rintro _ w4 ⟨rfl,E4⟩;have hs4:=E4.size;refine Wo rfl (opv_not rfl) ?_
     refine Wo_nil ?_;refine W_cond rfl (fun h3=>?_) (fun h3=>?_);contradiction;refine W_skip ?_;refine W_seq ?_;refine W_region rfl ?_
     refine Wo (v:=.agg _) rfl (opv_load2 Tryd.isAgg53 Tryd.sizeOf53 rfl (hB1.ext ((E2.trans E3).trans E4))) ?_
     refine Wo_call rfl (opc1 (a:=.agg _) Tryd.call97 rfl) (k1 _ ((Mono.mono (((E1.trans E2).trans E3).trans E4) h1)) ((Mono.mono (((E1.trans E2).trans E3).trans E4) h2))) ?_;rintro _ w5 ⟨u3,q1,m1,rfl,E5,hO1,hQ1,hm1,hn1⟩
     have icu3:=OwnedB.isC hO1;have cpu3:=OwnedB.capOk hO1;have icq1:=OwnedB.isC (Owned.toB hQ1);have cpq1:=OwnedB.capOk (Owned.toB hQ1);have hs5:=E5.size;refine Wo_alloc2 rfl flat53 ?_;rintro b4 w6 hb6 E6 hB4
     have hlb4:=hB4.lt;have hs6:=E6.size;refine Wo_st2 rfl Tryd.sizeOf53 rfl rfl (by first | rfl | assumption) (by first | rfl | assumption) hB4 (by omega) (((((E1.trans E2).trans E3).trans E4).trans E5).trans E6) ?_
     rintro w7 E7 hB4 K1 hz1;have E8:=((((E2.trans E3).trans E4).trans E5).trans E6).wroteAt (((((E1.trans E2).trans E3).trans E4).trans E5).trans E6) E7 K1 hz1 (by omega);have szE8:=E8.size
     have E9:=(((E3.trans E4).trans E5).trans E6).wroteAt (((((E1.trans E2).trans E3).trans E4).trans E5).trans E6) E7 K1 hz1 (by omega);have szE9:=E9.size
     have E10:=((E4.trans E5).trans E6).wroteAt (((((E1.trans E2).trans E3).trans E4).trans E5).trans E6) E7 K1 hz1 (by omega);have szE10:=E10.size
     have E11:=(E5.trans E6).wroteAt (((((E1.trans E2).trans E3).trans E4).trans E5).trans E6) E7 K1 hz1 (by omega);have szE11:=E11.size
     have E12:=E6.wroteAt (((((E1.trans E2).trans E3).trans E4).trans E5).trans E6) E7 K1 hz1 (by omega);have szE12:=E12.size;have hB1:=(hB1.ext ((((E2.trans E3).trans E4).trans E5).trans E6)).of_heap (K1 _ (by omega))
     have hB2:=(hB2.ext (((E3.trans E4).trans E5).trans E6)).of_heap (K1 _ (by omega));have hB3:=(hB3.ext ((E4.trans E5).trans E6)).of_heap (K1 _ (by omega));have hO1:=(hO1.ext E6).wrote K1 (by omega)
     have hQ1:=(hQ1.toB.ext E6).wrote K1 (by omega);refine Wo_nil ?_;refine W_seq ?_;refine W_seq ?_;refine W_region rfl ?_;refine Wo (v:=.agg _) rfl (opv_load3 Tryd.isAgg26 Tryd.sizeOf26 rfl hB2) ?_
     refine Wo rfl (opv_build (ps:=[(0,.int _ _)]) (cs:=[_,_,_]) flat26 rfl rfl) ?_;refine Wo rfl (opv_eqD rfl rfl) ?_;refine Wo_split_dec rfl (opv_move (v:=.bool _) rfl) (fun h4=>?_) (fun h4=>?_)
     refine Wo rfl (opv_fieldAddr Tryd.underlying53 rfl rfl Tryd.sizeOf51 rfl) ?_;refine Wo (v:=u2) rfl (opv_load Tryd.isAgg51 rfl (hB1.cell rfl)) ?_;refine Wo rfl (opv_len Tryd.underlying51 rfl h2) ?_
     refine Wo rfl (opv_gtr rfl rfl) ?_;refine Wo rfl (opv_pick_t (v:=.bool _) rfl rfl) ?_;refine Wo_nil ?_;refine W_cond_dec rfl (fun h5=>?_) (fun h5=>?_);(exfalso;omega);refine W_skip ?_;refine W_seq ?_
     refine W_region rfl ?_;refine Wo rfl (opv_fieldAddr Tryd.underlying53 rfl rfl Tryd.sizeOf49 rfl) ?_;refine Wo (v:=u1) rfl (opv_load Tryd.isAgg49 rfl (hB1.cell rfl)) ?_
     refine Wo (v:=.agg _) rfl (opv_load3 Tryd.isAgg26 Tryd.sizeOf26 rfl hB2) ?_;refine Wo_call rfl (opc2 (a:=u1) (b:=.agg _) Tryd.call98 rfl rfl) (k2 _ ((Mono.mono E7 h1))) ?_;rintro _ w8 ⟨u4,rfl,E13,hO2⟩
     have ichO2:=OwnedB.isC (Owned.toB hO2);have hs7:=E13.size;refine Wo rfl (opv_move (v:=.tuple _) rfl) ?_;refine Wo rfl (opv_extract (v:=u4) rfl rfl) ?_;refine Wo rfl (opv_extract (v:=.bool _) rfl rfl) ?_
     refine Wo rfl (opv_assign (v:=u4) rfl) ?_;refine Wo rfl (opv_assign (v:=.bool _) rfl) ?_;refine Wo_nil ?_;refine W_seq ?_;refine W_seq ?_;refine W_draw mixed (by kernel_rfl) rfl ?_
     refine Wq_o rfl (fun _ _=>opv_move (v:=.bool _) rfl) ?_;refine Wq_o rfl (fun _ _=>opv_not rfl) ?_;refine Wq_split rfl (fun _ _=>opv_move (v:=.bool _) rfl) (fun h6=>?_) (fun h6=>?_);refine Wq_skip rfl ?_
     refine Wq_skip rfl ?_;refine Wq_skip rfl ?_;refine Wq_skip rfl ?_;refine Wq_skip rfl ?_;refine Wq_skip rfl ?_;refine Wq_skip rfl ?_;refine Wq_skip rfl ?_;refine Wq_skip rfl ?_;refine Wq_skip rfl ?_;refine Wq_skip rfl ?_
     refine Wq_skip rfl ?_;refine Wq_skip rfl ?_;refine Wq_skip rfl ?_;refine Wq_o rfl (fun _ _=>opv_pick_t (v:=.bool _) rfl rfl) ?_;refine Wq_nil (fun w9 E14=>?_);have hs8:=E14.size;refine W_cond_true rfl ?_
     refine W_seq ?_;refine W_region rfl ?_;refine Wo (v:=.agg _) rfl (opv_load2 Tryd.isAgg53 Tryd.sizeOf53 rfl (hB4.ext (E13.trans E14))) ?_
     refine Wo_st2 rfl Tryd.sizeOf53 rfl rfl (by first | rfl | assumption) (by first | rfl | assumption) (hB3.ext (E13.trans E14)) (by omega) ((E7.trans E13).trans E14) ?_;rintro w10 E15 hB3 K2 hz2
     have E16:=((E8.trans E13).trans E14).wroteAt ((E7.trans E13).trans E14) E15 K2 hz2 (by omega);have szE16:=E16.size;have E17:=((E9.trans E13).trans E14).wroteAt ((E7.trans E13).trans E14) E15 K2 hz2 (by omega)
     have szE17:=E17.size;have hB4:=(hB4.ext (E13.trans E14)).of_heap (K2 _ (by omega));have hB1:=(hB1.ext (E13.trans E14)).of_heap (K2 _ (by omega));have hB2:=(hB2.ext (E13.trans E14)).of_heap (K2 _ (by omega))
     have hO1:=(hO1.ext (E13.trans E14)).wrote K2 (by omega);have hQ1:=(hQ1.ext (E13.trans E14)).wrote K2 (by omega);have hO2:=(hO2.toB.ext E14).wrote K2 (by omega);refine Wo rfl (opv_assign (v:=.bool _) rfl) ?_
     refine Wo_nil ?_;refine W_ret ?_;rotate_left;contradiction;contradiction
    exact ⟨b3,u3,q1,rfl,hB3,u3,q1,rfl,by exact E15,hO1.above.mono (by omega),hQ1.above.mono (by omega),icu3,icq1,by omega⟩
   ·cases hmv:madeV p ⟨k,t,n⟩ with
    | none =>
      have hnx : nextV p ⟨k, t, n⟩ = none := by unfold nextV; rw [hmv]
      rw [hmv, show og none = [] from rfl, show (none : Option (List (List Int))).isSome = false from rfl] at k2
      rw [hnx]
      simp only
      focus
        refine W_seq ?_; refine W_region rfl ?_; refine Wo_box rfl rfl rfl ?_; rintro b1 w1 hb3 E1 hB1; have hlb1 := hB1.lt; have hs1 := E1.size; refine Wo_box rfl rfl rfl ?_; rintro b2 w2 hb4 E2 hB2; have hlb2 := hB2.lt
        have hs2 := E2.size; refine Wo_alloc2 rfl flat53 ?_; rintro b3 w3 hb5 E3 hB3; have hlb3 := hB3.lt; have hs3 := E3.size; refine Wo rfl (opv_assign (v := .bool _) rfl) ?_; refine Wo_nil ?_; refine W_seq ?_; refine W_seq ?_
        refine W_region rfl ?_; refine Wo (v := .agg _) rfl (opv_load2 Tryd.isAgg53 Tryd.sizeOf53 rfl (hB1.ext (E2.trans E3))) ?_
        refine Wo_call rfl (opc1 (a := .agg _) Tryd.call96 rfl) (k0 _ ((Mono.mono ((E1.trans E2).trans E3) h1)) ((Mono.mono ((E1.trans E2).trans E3) h2))) ?_; rintro _ w4 ⟨rfl, E4⟩; have hs4 := E4.size; refine Wo rfl (opv_not rfl) ?_
        refine Wo_nil ?_; refine W_cond rfl (fun h3 => ?_) (fun h3 => ?_); contradiction; refine W_skip ?_; refine W_seq ?_; refine W_region rfl ?_
        refine Wo (v := .agg _) rfl (opv_load2 Tryd.isAgg53 Tryd.sizeOf53 rfl (hB1.ext ((E2.trans E3).trans E4))) ?_
        refine Wo_call rfl (opc1 (a := .agg _) Tryd.call97 rfl) (k1 _ ((Mono.mono (((E1.trans E2).trans E3).trans E4) h1)) ((Mono.mono (((E1.trans E2).trans E3).trans E4) h2))) ?_; rintro _ w5 ⟨u3, q1, m1, rfl, E5, hO1, hQ1, hm1, hn1⟩
        have icu3 := OwnedB.isC hO1; have cpu3 := OwnedB.capOk hO1; have icq1 := OwnedB.isC (Owned.toB hQ1); have cpq1 := OwnedB.capOk (Owned.toB hQ1); have hs5 := E5.size; refine Wo_alloc2 rfl flat53 ?_; rintro b4 w6 hb6 E6 hB4
        have hlb4 := hB4.lt; have hs6 := E6.size; refine Wo_st2 rfl Tryd.sizeOf53 rfl rfl (by first | rfl | assumption) (by first | rfl | assumption) hB4 (by omega) (((((E1.trans E2).trans E3).trans E4).trans E5).trans E6) ?_
        rintro w7 E7 hB4 K1 hz1; have E8 := ((((E2.trans E3).trans E4).trans E5).trans E6).wroteAt (((((E1.trans E2).trans E3).trans E4).trans E5).trans E6) E7 K1 hz1 (by omega); have szE8 := E8.size
        have E9 := (((E3.trans E4).trans E5).trans E6).wroteAt (((((E1.trans E2).trans E3).trans E4).trans E5).trans E6) E7 K1 hz1 (by omega); have szE9 := E9.size
        have E10 := ((E4.trans E5).trans E6).wroteAt (((((E1.trans E2).trans E3).trans E4).trans E5).trans E6) E7 K1 hz1 (by omega); have szE10 := E10.size
        have E11 := (E5.trans E6).wroteAt (((((E1.trans E2).trans E3).trans E4).trans E5).trans E6) E7 K1 hz1 (by omega); have szE11 := E11.size
        have E12 := E6.wroteAt (((((E1.trans E2).trans E3).trans E4).trans E5).trans E6) E7 K1 hz1 (by omega); have szE12 := E12.size; have hB1 := (hB1.ext ((((E2.trans E3).trans E4).trans E5).trans E6)).of_heap (K1 _ (by omega))
        have hB2 := (hB2.ext (((E3.trans E4).trans E5).trans E6)).of_heap (K1 _ (by omega)); have hB3 := (hB3.ext ((E4.trans E5).trans E6)).of_heap (K1 _ (by omega)); have hO1 := (hO1.ext E6).wrote K1 (by omega)
        have hQ1 := (hQ1.toB.ext E6).wrote K1 (by omega); refine Wo_nil ?_; refine W_seq ?_; refine W_seq ?_; refine W_region rfl ?_; refine Wo (v := .agg _) rfl (opv_load3 Tryd.isAgg26 Tryd.sizeOf26 rfl hB2) ?_
        refine Wo rfl (opv_build (ps := [(0, .int _ _)]) (cs := [_, _, _]) flat26 rfl rfl) ?_; refine Wo rfl (opv_eqD rfl rfl) ?_; refine Wo_split_dec rfl (opv_move (v := .bool _) rfl) (fun h4 => ?_) (fun h4 => ?_); contradiction
        refine Wo_skip rfl ?_; refine Wo_skip rfl ?_; refine Wo_skip rfl ?_; refine Wo_skip rfl ?_; refine Wo rfl (opv_pick_f (v := .bool _) rfl rfl) ?_; refine Wo_nil ?_; refine W_cond_false rfl ?_; refine W_skip ?_; refine W_seq ?_
        refine W_region rfl ?_; refine Wo rfl (opv_fieldAddr Tryd.underlying53 rfl rfl Tryd.sizeOf49 rfl) ?_; refine Wo (v := u1) rfl (opv_load Tryd.isAgg49 rfl (hB1.cell rfl)) ?_
        refine Wo (v := .agg _) rfl (opv_load3 Tryd.isAgg26 Tryd.sizeOf26 rfl hB2) ?_; refine Wo_call rfl (opc2 (a := u1) (b := .agg _) Tryd.call98 rfl rfl) (k2 _ ((Mono.mono E7 h1))) ?_; rintro _ w8 ⟨u4, rfl, E13, hO2⟩
        have ichO2 := OwnedB.isC (Owned.toB hO2); have hs7 := E13.size; refine Wo rfl (opv_move (v := .tuple _) rfl) ?_; refine Wo rfl (opv_extract (v := u4) rfl rfl) ?_; refine Wo rfl (opv_extract (v := .bool _) rfl rfl) ?_
        refine Wo rfl (opv_assign (v := u4) rfl) ?_; refine Wo rfl (opv_assign (v := .bool _) rfl) ?_; refine Wo_nil ?_; refine W_seq ?_; refine W_seq ?_; refine W_draw mixed (by kernel_rfl) rfl ?_
        refine Wq_o rfl (fun _ _ => opv_move (v := .bool _) rfl) ?_; refine Wq_o rfl (fun _ _ => opv_not rfl) ?_; refine Wq_split rfl (fun _ _ => opv_move (v := .bool _) rfl) (fun h5 => ?_) (fun h5 => ?_); refine Wq_skip rfl ?_
        refine Wq_skip rfl ?_; refine Wq_skip rfl ?_; refine Wq_skip rfl ?_; refine Wq_skip rfl ?_; refine Wq_skip rfl ?_; refine Wq_skip rfl ?_; refine Wq_skip rfl ?_; refine Wq_skip rfl ?_; refine Wq_skip rfl ?_; refine Wq_skip rfl ?_
        refine Wq_skip rfl ?_; refine Wq_skip rfl ?_; refine Wq_skip rfl ?_; refine Wq_o rfl (fun _ _ => opv_pick_t (v := .bool _) rfl rfl) ?_; refine Wq_nil (fun w9 E14 => ?_); have hs8 := E14.size; refine W_cond_true rfl ?_
        refine W_seq ?_; refine W_region rfl ?_; refine Wo (v := .agg _) rfl (opv_load2 Tryd.isAgg53 Tryd.sizeOf53 rfl (hB4.ext (E13.trans E14))) ?_
        refine Wo_st2 rfl Tryd.sizeOf53 rfl rfl (by first | rfl | assumption) (by first | rfl | assumption) (hB3.ext (E13.trans E14)) (by omega) ((E7.trans E13).trans E14) ?_; rintro w10 E15 hB3 K2 hz2
        have E16 := ((E8.trans E13).trans E14).wroteAt ((E7.trans E13).trans E14) E15 K2 hz2 (by omega); have szE16 := E16.size; have E17 := ((E9.trans E13).trans E14).wroteAt ((E7.trans E13).trans E14) E15 K2 hz2 (by omega)
        have szE17 := E17.size; have hB4 := (hB4.ext (E13.trans E14)).of_heap (K2 _ (by omega)); have hB1 := (hB1.ext (E13.trans E14)).of_heap (K2 _ (by omega)); have hB2 := (hB2.ext (E13.trans E14)).of_heap (K2 _ (by omega))
        have hO1 := (hO1.ext (E13.trans E14)).wrote K2 (by omega); have hQ1 := (hQ1.ext (E13.trans E14)).wrote K2 (by omega); have hO2 := (hO2.toB.ext E14).wrote K2 (by omega); refine Wo rfl (opv_assign (v := .bool _) rfl) ?_
        refine Wo_nil ?_; refine W_ret ?_; rotate_left; contradiction
      exact ⟨b3, u3, q1, rfl, hB3, u3, q1, rfl, by exact E15, hO1.above.mono (by omega), hQ1.above.mono (by omega), icu3, icq1, by omega⟩
    | some c =>
      rw [hmv, show og (some c) = c from rfl, show (some c).isSome = true from rfl] at k2
      have hc : LeastP c := madeV_least hpp hmv
      have hcp := hc.1
      have k3 : ∀ (w : World) (v : Value), ESl Ints w v c → Does Tryd.prog 71 [v] w (Ret w (str (txt c))) := fun w v h => by
        have := PictureText_ok w v _ h
        rwa [if_pos hcp] at this
      by_cases hcq : c = p
      · subst hcq
        have hnx : nextV c ⟨k, t, n⟩ = none := by unfold nextV; rw [hmv]; simp
        rw [hnx]
        simp only
        focus
          refine W_seq ?_; refine W_region rfl ?_; refine Wo_box rfl rfl rfl ?_; rintro b1 w1 hb3 E1 hB1; have hlb1 := hB1.lt; have hs1 := E1.size; refine Wo_box rfl rfl rfl ?_; rintro b2 w2 hb4 E2 hB2; have hlb2 := hB2.lt
          have hs2 := E2.size; refine Wo_alloc2 rfl flat53 ?_; rintro b3 w3 hb5 E3 hB3; have hlb3 := hB3.lt; have hs3 := E3.size; refine Wo rfl (opv_assign (v := .bool _) rfl) ?_; refine Wo_nil ?_; refine W_seq ?_; refine W_seq ?_
          refine W_region rfl ?_; refine Wo (v := .agg _) rfl (opv_load2 Tryd.isAgg53 Tryd.sizeOf53 rfl (hB1.ext (E2.trans E3))) ?_
          refine Wo_call rfl (opc1 (a := .agg _) Tryd.call96 rfl) (k0 _ ((Mono.mono ((E1.trans E2).trans E3) h1)) ((Mono.mono ((E1.trans E2).trans E3) h2))) ?_; rintro _ w4 ⟨rfl, E4⟩; have hs4 := E4.size; refine Wo rfl (opv_not rfl) ?_
          refine Wo_nil ?_; refine W_cond rfl (fun h3 => ?_) (fun h3 => ?_); contradiction; refine W_skip ?_; refine W_seq ?_; refine W_region rfl ?_
          refine Wo (v := .agg _) rfl (opv_load2 Tryd.isAgg53 Tryd.sizeOf53 rfl (hB1.ext ((E2.trans E3).trans E4))) ?_
          refine Wo_call rfl (opc1 (a := .agg _) Tryd.call97 rfl) (k1 _ ((Mono.mono (((E1.trans E2).trans E3).trans E4) h1)) ((Mono.mono (((E1.trans E2).trans E3).trans E4) h2))) ?_; rintro _ w5 ⟨u3, q1, m1, rfl, E5, hO1, hQ1, hm1, hn1⟩
          have icu3 := OwnedB.isC hO1; have cpu3 := OwnedB.capOk hO1; have icq1 := OwnedB.isC (Owned.toB hQ1); have cpq1 := OwnedB.capOk (Owned.toB hQ1); have hs5 := E5.size; refine Wo_alloc2 rfl flat53 ?_; rintro b4 w6 hb6 E6 hB4
          have hlb4 := hB4.lt; have hs6 := E6.size; refine Wo_st2 rfl Tryd.sizeOf53 rfl rfl (by first | rfl | assumption) (by first | rfl | assumption) hB4 (by omega) (((((E1.trans E2).trans E3).trans E4).trans E5).trans E6) ?_
          rintro w7 E7 hB4 K1 hz1; have E8 := ((((E2.trans E3).trans E4).trans E5).trans E6).wroteAt (((((E1.trans E2).trans E3).trans E4).trans E5).trans E6) E7 K1 hz1 (by omega); have szE8 := E8.size
          have E9 := (((E3.trans E4).trans E5).trans E6).wroteAt (((((E1.trans E2).trans E3).trans E4).trans E5).trans E6) E7 K1 hz1 (by omega); have szE9 := E9.size
          have E10 := ((E4.trans E5).trans E6).wroteAt (((((E1.trans E2).trans E3).trans E4).trans E5).trans E6) E7 K1 hz1 (by omega); have szE10 := E10.size
          have E11 := (E5.trans E6).wroteAt (((((E1.trans E2).trans E3).trans E4).trans E5).trans E6) E7 K1 hz1 (by omega); have szE11 := E11.size
          have E12 := E6.wroteAt (((((E1.trans E2).trans E3).trans E4).trans E5).trans E6) E7 K1 hz1 (by omega); have szE12 := E12.size; have hB1 := (hB1.ext ((((E2.trans E3).trans E4).trans E5).trans E6)).of_heap (K1 _ (by omega))
          have hB2 := (hB2.ext (((E3.trans E4).trans E5).trans E6)).of_heap (K1 _ (by omega)); have hB3 := (hB3.ext ((E4.trans E5).trans E6)).of_heap (K1 _ (by omega)); have hO1 := (hO1.ext E6).wrote K1 (by omega)
          have hQ1 := (hQ1.toB.ext E6).wrote K1 (by omega); refine Wo_nil ?_; refine W_seq ?_; refine W_seq ?_; refine W_region rfl ?_; refine Wo (v := .agg _) rfl (opv_load3 Tryd.isAgg26 Tryd.sizeOf26 rfl hB2) ?_
          refine Wo rfl (opv_build (ps := [(0, .int _ _)]) (cs := [_, _, _]) flat26 rfl rfl) ?_; refine Wo rfl (opv_eqD rfl rfl) ?_; refine Wo_split_dec rfl (opv_move (v := .bool _) rfl) (fun h4 => ?_) (fun h4 => ?_); contradiction
          refine Wo_skip rfl ?_; refine Wo_skip rfl ?_; refine Wo_skip rfl ?_; refine Wo_skip rfl ?_; refine Wo rfl (opv_pick_f (v := .bool _) rfl rfl) ?_; refine Wo_nil ?_; refine W_cond_false rfl ?_; refine W_skip ?_; refine W_seq ?_
          refine W_region rfl ?_; refine Wo rfl (opv_fieldAddr Tryd.underlying53 rfl rfl Tryd.sizeOf49 rfl) ?_; refine Wo (v := u1) rfl (opv_load Tryd.isAgg49 rfl (hB1.cell rfl)) ?_
          refine Wo (v := .agg _) rfl (opv_load3 Tryd.isAgg26 Tryd.sizeOf26 rfl hB2) ?_; refine Wo_call rfl (opc2 (a := u1) (b := .agg _) Tryd.call98 rfl rfl) (k2 _ ((Mono.mono E7 h1))) ?_; rintro _ w8 ⟨u4, rfl, E13, hO2⟩
          have ichO2 := OwnedB.isC (Owned.toB hO2); have hs7 := E13.size; refine Wo rfl (opv_move (v := .tuple _) rfl) ?_; refine Wo rfl (opv_extract (v := u4) rfl rfl) ?_; refine Wo rfl (opv_extract (v := .bool _) rfl rfl) ?_
          refine Wo rfl (opv_assign (v := u4) rfl) ?_; refine Wo rfl (opv_assign (v := .bool _) rfl) ?_; refine Wo_nil ?_; refine W_seq ?_; refine W_seq ?_; refine W_draw mixed (by kernel_rfl) rfl ?_
          refine Wq_o rfl (fun _ _ => opv_move (v := .bool _) rfl) ?_; refine Wq_o rfl (fun _ _ => opv_not rfl) ?_; refine Wq_split rfl (fun _ _ => opv_move (v := .bool _) rfl) (fun h5 => ?_) (fun h5 => ?_); contradiction
          refine Wq_o rfl (fun _ _ => opv_move (v := u4) rfl) ?_; refine Wq_o rfl (fun _ _ => opv_len Tryd.underlying49 rfl (Owned.read hO2)) ?_; refine Wq_o rfl (fun _ _ => opv_fieldAddr Tryd.underlying53 rfl rfl Tryd.sizeOf49 rfl) ?_
          refine Wq_o (v := u1) rfl (fun w' hw' => opv_load Tryd.isAgg49 rfl (((hB1.ext E13).ext hw').cell rfl)) ?_; refine Wq_o rfl (fun _ _ => opv_len Tryd.underlying49 rfl h1) ?_; refine Wq_o rfl (fun _ _ => opv_eql rfl rfl) ?_
          refine Wq_split_dec rfl (fun _ _ => opv_move (v := .bool _) rfl) (fun h6 => ?_) (fun h6 => ?_); refine Wq_o rfl (fun _ _ => opv_move (v := u4) rfl) ?_
          refine Wq_call rfl (fun _ _ => opc1 (a := u4) Tryd.call71 rfl) (fun w' hw' => (k3 _ _ ((Mono.mono hw' (Owned.read hO2))))) ?_; refine Wq_o rfl (fun _ _ => opv_fieldAddr Tryd.underlying53 rfl rfl Tryd.sizeOf49 rfl) ?_
          refine Wq_o (v := u1) rfl (fun w' hw' => opv_load Tryd.isAgg49 rfl (((hB1.ext E13).ext hw').cell rfl)) ?_
          refine Wq_call rfl (fun _ _ => opc1 (a := u1) Tryd.call71 rfl) (fun w' hw' => (k3 _ _ ((Mono.mono ((E7.trans E13).trans hw') h1)))) ?_; refine Wq_o rfl (fun _ _ => opv_eql_str rfl rfl) ?_
          refine Wq_o rfl (fun _ _ => opv_pick_t (v := .bool _) rfl rfl) ?_; refine Wq_o rfl (fun _ _ => opv_pick_f (v := .bool _) rfl rfl) ?_; refine Wq_nil (fun w9 E14 => ?_); have hs8 := E14.size
          refine W_cond_dec rfl (fun h7 => ?_) (fun h7 => ?_); refine W_seq ?_; refine W_region rfl ?_; refine Wo (v := .agg _) rfl (opv_load2 Tryd.isAgg53 Tryd.sizeOf53 rfl (hB4.ext (E13.trans E14))) ?_
          refine Wo_st2 rfl Tryd.sizeOf53 rfl rfl (by first | rfl | assumption) (by first | rfl | assumption) (hB3.ext (E13.trans E14)) (by omega) ((E7.trans E13).trans E14) ?_; rintro w10 E15 hB3 K2 hz2
          have E16 := ((E8.trans E13).trans E14).wroteAt ((E7.trans E13).trans E14) E15 K2 hz2 (by omega); have szE16 := E16.size; have E17 := ((E9.trans E13).trans E14).wroteAt ((E7.trans E13).trans E14) E15 K2 hz2 (by omega)
          have szE17 := E17.size; have hB4 := (hB4.ext (E13.trans E14)).of_heap (K2 _ (by omega)); have hB1 := (hB1.ext (E13.trans E14)).of_heap (K2 _ (by omega)); have hB2 := (hB2.ext (E13.trans E14)).of_heap (K2 _ (by omega))
          have hO1 := (hO1.ext (E13.trans E14)).wrote K2 (by omega); have hQ1 := (hQ1.ext (E13.trans E14)).wrote K2 (by omega); have hO2 := (hO2.toB.ext E14).wrote K2 (by omega); refine Wo rfl (opv_assign (v := .bool _) rfl) ?_
          refine Wo_nil ?_; refine W_ret ?_; rotate_left; contradiction; contradiction
        exact ⟨b3, u3, q1, rfl, hB3, u3, q1, rfl, by exact E15, hO1.above.mono (by omega), hQ1.above.mono (by omega), icu3, icq1, by omega⟩
      · have hnx : nextV p ⟨k, t, n⟩ = some c := by unfold nextV; rw [hmv]; simp [hcq]
        rw [hnx]
        simp only
        have k4 : ∀ (w : World) (v : Value), ESl Ints w v p → Does Tryd.prog 71 [v] w (Ret w (str (txt p))) := fun w v h => by
          have := PictureText_ok w v _ h
          rwa [if_pos hpp] at this
        have htx : txt c ≠ txt p := fun e => hcq (txt_inj hcp.gr hpp.gr e)
        have stop12 : True := trivial
        focus
          refine W_seq ?_; refine W_region rfl ?_; refine Wo_box rfl rfl rfl ?_; rintro b1 w1 hb3 E1 hB1; have hlb1 := hB1.lt; have hs1 := E1.size; refine Wo_box rfl rfl rfl ?_; rintro b2 w2 hb4 E2 hB2; have hlb2 := hB2.lt
          have hs2 := E2.size; refine Wo_alloc2 rfl flat53 ?_; rintro b3 w3 hb5 E3 hB3; have hlb3 := hB3.lt; have hs3 := E3.size; refine Wo rfl (opv_assign (v := .bool _) rfl) ?_; refine Wo_nil ?_; refine W_seq ?_; refine W_seq ?_
          refine W_region rfl ?_; refine Wo (v := .agg _) rfl (opv_load2 Tryd.isAgg53 Tryd.sizeOf53 rfl (hB1.ext (E2.trans E3))) ?_
          refine Wo_call rfl (opc1 (a := .agg _) Tryd.call96 rfl) (k0 _ ((Mono.mono ((E1.trans E2).trans E3) h1)) ((Mono.mono ((E1.trans E2).trans E3) h2))) ?_; rintro _ w4 ⟨rfl, E4⟩; have hs4 := E4.size; refine Wo rfl (opv_not rfl) ?_
          refine Wo_nil ?_; refine W_cond rfl (fun h3 => ?_) (fun h3 => ?_); contradiction; refine W_skip ?_; refine W_seq ?_; refine W_region rfl ?_
          refine Wo (v := .agg _) rfl (opv_load2 Tryd.isAgg53 Tryd.sizeOf53 rfl (hB1.ext ((E2.trans E3).trans E4))) ?_
          refine Wo_call rfl (opc1 (a := .agg _) Tryd.call97 rfl) (k1 _ ((Mono.mono (((E1.trans E2).trans E3).trans E4) h1)) ((Mono.mono (((E1.trans E2).trans E3).trans E4) h2))) ?_; rintro _ w5 ⟨u3, q1, m1, rfl, E5, hO1, hQ1, hm1, hn1⟩
          have icu3 := OwnedB.isC hO1; have cpu3 := OwnedB.capOk hO1; have icq1 := OwnedB.isC (Owned.toB hQ1); have cpq1 := OwnedB.capOk (Owned.toB hQ1); have hs5 := E5.size; refine Wo_alloc2 rfl flat53 ?_; rintro b4 w6 hb6 E6 hB4
          have hlb4 := hB4.lt; have hs6 := E6.size; refine Wo_st2 rfl Tryd.sizeOf53 rfl rfl (by first | rfl | assumption) (by first | rfl | assumption) hB4 (by omega) (((((E1.trans E2).trans E3).trans E4).trans E5).trans E6) ?_
          rintro w7 E7 hB4 K1 hz1; have E8 := ((((E2.trans E3).trans E4).trans E5).trans E6).wroteAt (((((E1.trans E2).trans E3).trans E4).trans E5).trans E6) E7 K1 hz1 (by omega); have szE8 := E8.size
          have E9 := (((E3.trans E4).trans E5).trans E6).wroteAt (((((E1.trans E2).trans E3).trans E4).trans E5).trans E6) E7 K1 hz1 (by omega); have szE9 := E9.size
          have E10 := ((E4.trans E5).trans E6).wroteAt (((((E1.trans E2).trans E3).trans E4).trans E5).trans E6) E7 K1 hz1 (by omega); have szE10 := E10.size
          have E11 := (E5.trans E6).wroteAt (((((E1.trans E2).trans E3).trans E4).trans E5).trans E6) E7 K1 hz1 (by omega); have szE11 := E11.size
          have E12 := E6.wroteAt (((((E1.trans E2).trans E3).trans E4).trans E5).trans E6) E7 K1 hz1 (by omega); have szE12 := E12.size; have hB1 := (hB1.ext ((((E2.trans E3).trans E4).trans E5).trans E6)).of_heap (K1 _ (by omega))
          have hB2 := (hB2.ext (((E3.trans E4).trans E5).trans E6)).of_heap (K1 _ (by omega)); have hB3 := (hB3.ext ((E4.trans E5).trans E6)).of_heap (K1 _ (by omega)); have hO1 := (hO1.ext E6).wrote K1 (by omega)
          have hQ1 := (hQ1.toB.ext E6).wrote K1 (by omega); refine Wo_nil ?_; refine W_seq ?_; refine W_seq ?_; refine W_region rfl ?_; refine Wo (v := .agg _) rfl (opv_load3 Tryd.isAgg26 Tryd.sizeOf26 rfl hB2) ?_
          refine Wo rfl (opv_build (ps := [(0, .int _ _)]) (cs := [_, _, _]) flat26 rfl rfl) ?_; refine Wo rfl (opv_eqD rfl rfl) ?_; refine Wo_split_dec rfl (opv_move (v := .bool _) rfl) (fun h4 => ?_) (fun h4 => ?_); contradiction
          refine Wo_skip rfl ?_; refine Wo_skip rfl ?_; refine Wo_skip rfl ?_; refine Wo_skip rfl ?_; refine Wo rfl (opv_pick_f (v := .bool _) rfl rfl) ?_; refine Wo_nil ?_; refine W_cond_false rfl ?_; refine W_skip ?_; refine W_seq ?_
          refine W_region rfl ?_; refine Wo rfl (opv_fieldAddr Tryd.underlying53 rfl rfl Tryd.sizeOf49 rfl) ?_; refine Wo (v := u1) rfl (opv_load Tryd.isAgg49 rfl (hB1.cell rfl)) ?_
          refine Wo (v := .agg _) rfl (opv_load3 Tryd.isAgg26 Tryd.sizeOf26 rfl hB2) ?_; refine Wo_call rfl (opc2 (a := u1) (b := .agg _) Tryd.call98 rfl rfl) (k2 _ ((Mono.mono E7 h1))) ?_; rintro _ w8 ⟨u4, rfl, E13, hO2⟩
          have ichO2 := OwnedB.isC (Owned.toB hO2); have hs7 := E13.size; refine Wo rfl (opv_move (v := .tuple _) rfl) ?_; refine Wo rfl (opv_extract (v := u4) rfl rfl) ?_; refine Wo rfl (opv_extract (v := .bool _) rfl rfl) ?_
          refine Wo rfl (opv_assign (v := u4) rfl) ?_; refine Wo rfl (opv_assign (v := .bool _) rfl) ?_; refine Wo_nil ?_; refine W_seq ?_; refine W_seq ?_; refine W_draw mixed (by kernel_rfl) rfl ?_
          refine Wq_o rfl (fun _ _ => opv_move (v := .bool _) rfl) ?_; refine Wq_o rfl (fun _ _ => opv_not rfl) ?_; refine Wq_split rfl (fun _ _ => opv_move (v := .bool _) rfl) (fun h5 => ?_) (fun h5 => ?_); contradiction
          refine Wq_o rfl (fun _ _ => opv_move (v := u4) rfl) ?_; refine Wq_o rfl (fun _ _ => opv_len Tryd.underlying49 rfl (Owned.read hO2)) ?_; refine Wq_o rfl (fun _ _ => opv_fieldAddr Tryd.underlying53 rfl rfl Tryd.sizeOf49 rfl) ?_
          refine Wq_o (v := u1) rfl (fun w' hw' => opv_load Tryd.isAgg49 rfl (((hB1.ext E13).ext hw').cell rfl)) ?_; refine Wq_o rfl (fun _ _ => opv_len Tryd.underlying49 rfl h1) ?_; refine Wq_o rfl (fun _ _ => opv_eql rfl rfl) ?_
          refine Wq_split_dec rfl (fun _ _ => opv_move (v := .bool _) rfl) (fun h6 => ?_) (fun h6 => ?_); refine Wq_o rfl (fun _ _ => opv_move (v := u4) rfl) ?_
          refine Wq_call rfl (fun _ _ => opc1 (a := u4) Tryd.call71 rfl) (fun w' hw' => (k3 _ _ ((Mono.mono hw' (Owned.read hO2))))) ?_; refine Wq_o rfl (fun _ _ => opv_fieldAddr Tryd.underlying53 rfl rfl Tryd.sizeOf49 rfl) ?_
          refine Wq_o (v := u1) rfl (fun w' hw' => opv_load Tryd.isAgg49 rfl (((hB1.ext E13).ext hw').cell rfl)) ?_
          refine Wq_call rfl (fun _ _ => opc1 (a := u1) Tryd.call71 rfl) (fun w' hw' => (k4 _ _ ((Mono.mono ((E7.trans E13).trans hw') h1)))) ?_; refine Wq_o rfl (fun _ _ => opv_eql_str rfl rfl) ?_
          refine Wq_o rfl (fun _ _ => opv_pick_t (v := .bool _) rfl rfl) ?_; refine Wq_o rfl (fun _ _ => opv_pick_f (v := .bool _) rfl rfl) ?_; refine Wq_nil (fun w9 E14 => ?_); have hs8 := E14.size
          refine W_cond_dec rfl (fun h7 => ?_) (fun h7 => ?_); contradiction; refine W_skip ?_; refine W_seq ?_; rotate_left; refine Wq_skip rfl ?_; refine Wq_skip rfl ?_; refine Wq_skip rfl ?_; refine Wq_skip rfl ?_; refine Wq_skip rfl ?_
          refine Wq_skip rfl ?_; refine Wq_o rfl (fun _ _ => opv_pick_f (v := .bool _) rfl rfl) ?_; refine Wq_o rfl (fun _ _ => opv_pick_f (v := .bool _) rfl rfl) ?_; refine Wq_nil (fun w9 E14 => ?_); have hs8 := E14.size
          refine W_cond_false rfl ?_; refine W_skip ?_; refine W_seq ?_; rotate_left
        · clear stop12
          have stop13 : True := trivial
          have hQ0 := hQ1
          focus
            have szE14 := E14.size; have szE13 := E13.size; have szE12 := E12.size; have szE11 := E11.size; have szE10 := E10.size; have szE9 := E9.size; have szE8 := E8.size; have szE7 := E7.size; have szE6 := E6.size; have szE5 := E5.size
            have szE4 := E4.size; have szE3 := E3.size; have szE2 := E2.size; have szE1 := E1.size; refine W_region rfl ?_; refine Wo rfl (opv_fieldAddr Tryd.underlying53 rfl rfl Tryd.sizeOf51 rfl) ?_
            refine Wo (v := q1) rfl (opv_load Tryd.isAgg51 rfl ((hB4.ext (E13.trans E14)).cell rfl)) ?_; refine Wo rfl (opv_fieldAddr Tryd.underlying53 rfl rfl Tryd.sizeOf49 rfl) ?_
            refine Wo (v := u3) rfl (opv_load Tryd.isAgg49 rfl ((hB4.ext (E13.trans E14)).cell rfl)) ?_; refine Wo_buildSlice1 rfl Tryd.underlying51 Tryd.sizeOf49 Tryd.zeroValue49 rfl (OwnedB.isC (hO1.ext (E13.trans E14))) rfl ?_
            rintro b5 w10 hb7 E15 hB5 hHb5; have hlb5 := hB5.lt; have hs9 := E15.size
            refine Wo_app1r rfl el51 rfl rfl hB5 (hQ0.ext ((E13.trans E14).trans E15)) (hO1.ext ((E13.trans E14).trans E15)) (by first | omega | (simp <;> omega)) (by omega) (by omega) (((E7.trans E13).trans E14).trans E15) (by omega) ?_
            have hT1 := (hQ0.ext ((E13.trans E14).trans E15)); rintro v1 w11 hQ0 E16 M1; have E17 := M1.ext hT1 (((E8.trans E13).trans E14).trans E15) (by omega); have szE17 := E17.size
            have E18 := M1.ext hT1 (((E9.trans E13).trans E14).trans E15) (by omega); have szE18 := E18.size; have E19 := M1.ext hT1 (((E10.trans E13).trans E14).trans E15) (by omega); have szE19 := E19.size
            have E20 := M1.ext hT1 (((E11.trans E13).trans E14).trans E15) (by omega); have szE20 := E20.size; have hB4 := (hB4.ext ((E13.trans E14).trans E15)).moves M1 hT1 (by omega)
            have hB1 := (hB1.ext ((E13.trans E14).trans E15)).moves M1 hT1 (by omega); have hB2 := (hB2.ext ((E13.trans E14).trans E15)).moves M1 hT1 (by omega); have hB3 := (hB3.ext ((E13.trans E14).trans E15)).moves M1 hT1 (by omega)
            have hO1 := (hO1.ext ((E13.trans E14).trans E15)).moves M1 hT1 (by omega); have hO2 := (hO2.toB.ext (E14.trans E15)).moves M1 hT1 (by omega); have hB5 := hB5.moves M1 hT1 (by omega); have hs10 := E16.size; have szM1 := M1.1.size
            have icv1 := OwnedB.isC (Owned.toB hQ0); refine Wo rfl (opv_fieldAddr Tryd.underlying53 rfl rfl Tryd.sizeOf51 rfl) ?_; refine Wo_st (v := v1) rfl Tryd.sizeOf51 rfl rfl (OwnedB.isC hQ0.toB) hB4 (by simp) (by omega) E16 ?_
            rintro w12 E21 hB4 K2 hz2; have E22 := E17.wroteAt E16 E21 K2 hz2 (by omega); have szE22 := E22.size; have E23 := E18.wroteAt E16 E21 K2 hz2 (by omega); have szE23 := E23.size; have E24 := E19.wroteAt E16 E21 K2 hz2 (by omega)
            have szE24 := E24.size; have E25 := E20.wroteAt E16 E21 K2 hz2 (by omega); have szE25 := E25.size; simp only [List.set] at hB4; have hB1 := hB1.of_heap (K2 _ (by omega)); have hB2 := hB2.of_heap (K2 _ (by omega))
            have hB3 := hB3.of_heap (K2 _ (by omega)); have hO1 := hO1.wrote K2 (by omega); have hO2 := hO2.wrote K2 (by omega); have hB5 := hB5.of_heap (K2 _ (by omega)); refine Wo_nil ?_; refine W_seq ?_; refine W_seq ?_
          clear stop13
          have hM : Moves w10 q1 w11 v1 := M1
          have hne := hM.ne hQ1 (b := b4) (by omega) (by omega)
          clear hQ1
          obtain ⟨nb, nc, rfl, hnc⟩ := hQ0.lit (by simp)
          have hnl : (pp ++ [p]).length = pp.length + 1 := by simp
          rw [hnl] at hB4 hQ0 hne hnc
          focus
            have szE25 := E25.size; have szE24 := E24.size; have szE23 := E23.size; have szE22 := E22.size; have szE21 := E21.size; have szE20 := E20.size; have szE19 := E19.size; have szE18 := E18.size; have szE17 := E17.size
            have szE16 := E16.size; have szE15 := E15.size; have szE14 := E14.size; have szE13 := E13.size; have szE12 := E12.size; have szE11 := E11.size; have szE10 := E10.size; have szE9 := E9.size; have szE8 := E8.size; have szE7 := E7.size
            have szE6 := E6.size; have szE5 := E5.size; have szE4 := E4.size; have szE3 := E3.size; have szE2 := E2.size; have szE1 := E1.size; refine W_region rfl ?_; refine Wo rfl (opv_fieldAddr Tryd.underlying53 rfl rfl Tryd.sizeOf51 rfl) ?_
            refine Wo (v := .slice _ _ _) rfl (opv_load Tryd.isAgg51 rfl (hB4.cell rfl)) ?_; refine Wo rfl (opv_len Tryd.underlying51 rfl (Owned.read hQ0)) ?_; refine Wo rfl (opv_gtr rfl rfl) ?_; refine Wo_nil ?_
            refine W_cond_dec rfl (fun h8 => ?_) (fun h8 => ?_); refine W_region rfl ?_; refine Wo rfl (opv_fieldAddr Tryd.underlying53 rfl rfl Tryd.sizeOf51 rfl) ?_
            refine Wo (v := .slice _ _ _) rfl (opv_load Tryd.isAgg51 rfl (hB4.cell rfl)) ?_; refine Wo rfl (opv_slice_sl_lo Tryd.underlying51 Tryd.sizeOf49 rfl rfl (by omega)) ?_
            refine Wo rfl (opv_fieldAddr Tryd.underlying53 rfl rfl Tryd.sizeOf51 rfl) ?_; refine Wo_st (v := .slice _ _ _) rfl Tryd.sizeOf51 rfl rfl rfl hB4 (by simp) (by omega) E21 ?_; rintro w13 E26 hB4 K3 hz3
            have E27 := E22.wroteAt E21 E26 K3 hz3 (by omega); have szE27 := E27.size; have E28 := E23.wroteAt E21 E26 K3 hz3 (by omega); have szE28 := E28.size; have E29 := E24.wroteAt E21 E26 K3 hz3 (by omega); have szE29 := E29.size
            have E30 := E25.wroteAt E21 E26 K3 hz3 (by omega); have szE30 := E30.size; simp only [List.set] at hB4; have hB1 := hB1.of_heap (K3 _ (by omega)); have hB2 := hB2.of_heap (K3 _ (by omega)); have hB3 := hB3.of_heap (K3 _ (by omega))
            have hO1 := hO1.wrote K3 (by omega); have hO2 := hO2.wrote K3 (by omega); have hB5 := hB5.of_heap (K3 _ (by omega)); refine Wo_nil ?_; refine W_seq ?_; refine W_region rfl ?_; refine Wo rfl (opv_move (v := u4) rfl) ?_
            refine Wo rfl (opv_fieldAddr Tryd.underlying53 rfl rfl Tryd.sizeOf49 rfl) ?_; refine Wo_st (v := u4) rfl Tryd.sizeOf49 rfl rfl (OwnedB.isC hO2) hB4 (by simp) (by omega) E26 ?_; rintro w14 E31 hB4 K4 hz4
            have E32 := E27.wroteAt E26 E31 K4 hz4 (by omega); have szE32 := E32.size; have E33 := E28.wroteAt E26 E31 K4 hz4 (by omega); have szE33 := E33.size; have E34 := E29.wroteAt E26 E31 K4 hz4 (by omega); have szE34 := E34.size
            have E35 := E30.wroteAt E26 E31 K4 hz4 (by omega); have szE35 := E35.size; simp only [List.set] at hB4; have hB1 := hB1.of_heap (K4 _ (by omega)); have hB2 := hB2.of_heap (K4 _ (by omega)); have hB3 := hB3.of_heap (K4 _ (by omega))
            have hO1 := hO1.wrote K4 (by omega); have hO2 := hO2.wrote K4 (by omega); have hB5 := hB5.of_heap (K4 _ (by omega)); refine Wo_nil ?_; refine W_seq ?_; refine W_region rfl ?_
            refine Wo (v := .agg _) rfl (opv_load2 Tryd.isAgg53 Tryd.sizeOf53 rfl hB4) ?_; refine Wo_st2 rfl Tryd.sizeOf53 rfl rfl (by first | rfl | assumption) (by first | rfl | assumption) hB3 (by omega) E31 ?_; rintro w15 E36 hB3 K5 hz5
            have E37 := E32.wroteAt E31 E36 K5 hz5 (by omega); have szE37 := E37.size; have E38 := E33.wroteAt E31 E36 K5 hz5 (by omega); have szE38 := E38.size; have hB4 := hB4.of_heap (K5 _ (by omega))
            have hB1 := hB1.of_heap (K5 _ (by omega)); have hB2 := hB2.of_heap (K5 _ (by omega)); have hO1 := hO1.wrote K5 (by omega); have hO2 := hO2.wrote K5 (by omega); have hB5 := hB5.of_heap (K5 _ (by omega))
            refine Wo rfl (opv_assign (v := .bool _) rfl) ?_; refine Wo_nil ?_; refine W_ret ?_; rotate_left; refine W_skip ?_; refine W_seq ?_; refine W_region rfl ?_; refine Wo rfl (opv_move (v := u4) rfl) ?_
            refine Wo rfl (opv_fieldAddr Tryd.underlying53 rfl rfl Tryd.sizeOf49 rfl) ?_; refine Wo_st (v := u4) rfl Tryd.sizeOf49 rfl rfl (OwnedB.isC hO2) hB4 (by simp) (by omega) E21 ?_; rintro w13 E26 hB4 K3 hz3
            have E27 := E22.wroteAt E21 E26 K3 hz3 (by omega); have szE27 := E27.size; have E28 := E23.wroteAt E21 E26 K3 hz3 (by omega); have szE28 := E28.size; have E29 := E24.wroteAt E21 E26 K3 hz3 (by omega); have szE29 := E29.size
            have E30 := E25.wroteAt E21 E26 K3 hz3 (by omega); have szE30 := E30.size; simp only [List.set] at hB4; have hB1 := hB1.of_heap (K3 _ (by omega)); have hB2 := hB2.of_heap (K3 _ (by omega)); have hB3 := hB3.of_heap (K3 _ (by omega))
            have hO1 := hO1.wrote K3 (by omega); have hO2 := hO2.wrote K3 (by omega); have hB5 := hB5.of_heap (K3 _ (by omega)); refine Wo_nil ?_; refine W_seq ?_; refine W_region rfl ?_
            refine Wo (v := .agg _) rfl (opv_load2 Tryd.isAgg53 Tryd.sizeOf53 rfl hB4) ?_; refine Wo_st2 rfl Tryd.sizeOf53 rfl rfl (by first | rfl | assumption) (by first | rfl | assumption) hB3 (by omega) E26 ?_; rintro w14 E31 hB3 K4 hz4
            have E32 := E27.wroteAt E26 E31 K4 hz4 (by omega); have szE32 := E32.size; have E33 := E28.wroteAt E26 E31 K4 hz4 (by omega); have szE33 := E33.size; have hB4 := hB4.of_heap (K4 _ (by omega))
            have hB1 := hB1.of_heap (K4 _ (by omega)); have hB2 := hB2.of_heap (K4 _ (by omega)); have hO1 := hO1.wrote K4 (by omega); have hO2 := hO2.wrote K4 (by omega); have hB5 := hB5.of_heap (K4 _ (by omega))
            refine Wo rfl (opv_assign (v := .bool _) rfl) ?_; refine Wo_nil ?_; refine W_ret ?_; rotate_left
          · have hQ3 := (hQ0.wroteLt (w' := w15) (fun k h1 h2 => (K5 k (by omega)).trans ((K4 k h2).trans ((K3 k h2).trans (K2 k h2)))) (by omega) hne).above.mono (show w.heap.size ≤ w4.heap.size by omega)
            refine ⟨b3, u4, _, rfl, hB3, u4, _, rfl, by exact E36, hO2.above.mono (by omega), ?_, by assumption, rfl, by omega⟩
            rw [show last8 (pp ++ [p]) = (pp ++ [p]).drop 1 from if_pos (by omega)]
            exact hQ3.dropS (by omega)
          · have hQ3 := (hQ0.wroteLt (w' := w14) (fun k h1 h2 => (K4 k (by omega)).trans ((K3 k h2).trans (K2 k h2))) (by omega) hne).above.mono (show w.heap.size ≤ w4.heap.size by omega)
            refine ⟨b3, u4, _, rfl, hB3, u4, _, rfl, by exact E31, hO2.above.mono (by omega), ?_, by assumption, rfl, by omega⟩
            rw [show last8 (pp ++ [p]) = pp ++ [p] from if_neg (by omega)]
            exact hQ3
        · clear stop12
          have stop13 : True := trivial
          have hQ0 := hQ1
          focus
            have szE14 := E14.size; have szE13 := E13.size; have szE12 := E12.size; have szE11 := E11.size; have szE10 := E10.size; have szE9 := E9.size; have szE8 := E8.size; have szE7 := E7.size; have szE6 := E6.size; have szE5 := E5.size
            have szE4 := E4.size; have szE3 := E3.size; have szE2 := E2.size; have szE1 := E1.size; refine W_region rfl ?_; refine Wo rfl (opv_fieldAddr Tryd.underlying53 rfl rfl Tryd.sizeOf51 rfl) ?_
            refine Wo (v := q1) rfl (opv_load Tryd.isAgg51 rfl ((hB4.ext (E13.trans E14)).cell rfl)) ?_; refine Wo rfl (opv_fieldAddr Tryd.underlying53 rfl rfl Tryd.sizeOf49 rfl) ?_
            refine Wo (v := u3) rfl (opv_load Tryd.isAgg49 rfl ((hB4.ext (E13.trans E14)).cell rfl)) ?_; refine Wo_buildSlice1 rfl Tryd.underlying51 Tryd.sizeOf49 Tryd.zeroValue49 rfl (OwnedB.isC (hO1.ext (E13.trans E14))) rfl ?_
            rintro b5 w10 hb7 E15 hB5 hHb5; have hlb5 := hB5.lt; have hs9 := E15.size
            refine Wo_app1r rfl el51 rfl rfl hB5 (hQ0.ext ((E13.trans E14).trans E15)) (hO1.ext ((E13.trans E14).trans E15)) (by first | omega | (simp <;> omega)) (by omega) (by omega) (((E7.trans E13).trans E14).trans E15) (by omega) ?_
            have hT1 := (hQ0.ext ((E13.trans E14).trans E15)); rintro v1 w11 hQ0 E16 M1; have E17 := M1.ext hT1 (((E8.trans E13).trans E14).trans E15) (by omega); have szE17 := E17.size
            have E18 := M1.ext hT1 (((E9.trans E13).trans E14).trans E15) (by omega); have szE18 := E18.size; have E19 := M1.ext hT1 (((E10.trans E13).trans E14).trans E15) (by omega); have szE19 := E19.size
            have E20 := M1.ext hT1 (((E11.trans E13).trans E14).trans E15) (by omega); have szE20 := E20.size; have hB4 := (hB4.ext ((E13.trans E14).trans E15)).moves M1 hT1 (by omega)
            have hB1 := (hB1.ext ((E13.trans E14).trans E15)).moves M1 hT1 (by omega); have hB2 := (hB2.ext ((E13.trans E14).trans E15)).moves M1 hT1 (by omega); have hB3 := (hB3.ext ((E13.trans E14).trans E15)).moves M1 hT1 (by omega)
            have hO1 := (hO1.ext ((E13.trans E14).trans E15)).moves M1 hT1 (by omega); have hO2 := (hO2.toB.ext (E14.trans E15)).moves M1 hT1 (by omega); have hB5 := hB5.moves M1 hT1 (by omega); have hs10 := E16.size; have szM1 := M1.1.size
            have icv1 := OwnedB.isC (Owned.toB hQ0); refine Wo rfl (opv_fieldAddr Tryd.underlying53 rfl rfl Tryd.sizeOf51 rfl) ?_; refine Wo_st (v := v1) rfl Tryd.sizeOf51 rfl rfl (OwnedB.isC hQ0.toB) hB4 (by simp) (by omega) E16 ?_
            rintro w12 E21 hB4 K2 hz2; have E22 := E17.wroteAt E16 E21 K2 hz2 (by omega); have szE22 := E22.size; have E23 := E18.wroteAt E16 E21 K2 hz2 (by omega); have szE23 := E23.size; have E24 := E19.wroteAt E16 E21 K2 hz2 (by omega)
            have szE24 := E24.size; have E25 := E20.wroteAt E16 E21 K2 hz2 (by omega); have szE25 := E25.size; simp only [List.set] at hB4; have hB1 := hB1.of_heap (K2 _ (by omega)); have hB2 := hB2.of_heap (K2 _ (by omega))
            have hB3 := hB3.of_heap (K2 _ (by omega)); have hO1 := hO1.wrote K2 (by omega); have hO2 := hO2.wrote K2 (by omega); have hB5 := hB5.of_heap (K2 _ (by omega)); refine Wo_nil ?_; refine W_seq ?_; refine W_seq ?_
          clear stop13
          have hM : Moves w10 q1 w11 v1 := M1
          have hne := hM.ne hQ1 (b := b4) (by omega) (by omega)
          clear hQ1
          obtain ⟨nb, nc, rfl, hnc⟩ := hQ0.lit (by simp)
          have hnl : (pp ++ [p]).length = pp.length + 1 := by simp
          rw [hnl] at hB4 hQ0 hne hnc
          focus
            have szE25 := E25.size; have szE24 := E24.size; have szE23 := E23.size; have szE22 := E22.size; have szE21 := E21.size; have szE20 := E20.size; have szE19 := E19.size; have szE18 := E18.size; have szE17 := E17.size
            have szE16 := E16.size; have szE15 := E15.size; have szE14 := E14.size; have szE13 := E13.size; have szE12 := E12.size; have szE11 := E11.size; have szE10 := E10.size; have szE9 := E9.size; have szE8 := E8.size; have szE7 := E7.size
            have szE6 := E6.size; have szE5 := E5.size; have szE4 := E4.size; have szE3 := E3.size; have szE2 := E2.size; have szE1 := E1.size; refine W_region rfl ?_; refine Wo rfl (opv_fieldAddr Tryd.underlying53 rfl rfl Tryd.sizeOf51 rfl) ?_
            refine Wo (v := .slice _ _ _) rfl (opv_load Tryd.isAgg51 rfl (hB4.cell rfl)) ?_; refine Wo rfl (opv_len Tryd.underlying51 rfl (Owned.read hQ0)) ?_; refine Wo rfl (opv_gtr rfl rfl) ?_; refine Wo_nil ?_
            refine W_cond_dec rfl (fun h7 => ?_) (fun h7 => ?_); refine W_region rfl ?_; refine Wo rfl (opv_fieldAddr Tryd.underlying53 rfl rfl Tryd.sizeOf51 rfl) ?_
            refine Wo (v := .slice _ _ _) rfl (opv_load Tryd.isAgg51 rfl (hB4.cell rfl)) ?_; refine Wo rfl (opv_slice_sl_lo Tryd.underlying51 Tryd.sizeOf49 rfl rfl (by omega)) ?_
            refine Wo rfl (opv_fieldAddr Tryd.underlying53 rfl rfl Tryd.sizeOf51 rfl) ?_; refine Wo_st (v := .slice _ _ _) rfl Tryd.sizeOf51 rfl rfl rfl hB4 (by simp) (by omega) E21 ?_; rintro w13 E26 hB4 K3 hz3
            have E27 := E22.wroteAt E21 E26 K3 hz3 (by omega); have szE27 := E27.size; have E28 := E23.wroteAt E21 E26 K3 hz3 (by omega); have szE28 := E28.size; have E29 := E24.wroteAt E21 E26 K3 hz3 (by omega); have szE29 := E29.size
            have E30 := E25.wroteAt E21 E26 K3 hz3 (by omega); have szE30 := E30.size; simp only [List.set] at hB4; have hB1 := hB1.of_heap (K3 _ (by omega)); have hB2 := hB2.of_heap (K3 _ (by omega)); have hB3 := hB3.of_heap (K3 _ (by omega))
            have hO1 := hO1.wrote K3 (by omega); have hO2 := hO2.wrote K3 (by omega); have hB5 := hB5.of_heap (K3 _ (by omega)); refine Wo_nil ?_; refine W_seq ?_; refine W_region rfl ?_; refine Wo rfl (opv_move (v := u4) rfl) ?_
            refine Wo rfl (opv_fieldAddr Tryd.underlying53 rfl rfl Tryd.sizeOf49 rfl) ?_; refine Wo_st (v := u4) rfl Tryd.sizeOf49 rfl rfl (OwnedB.isC hO2) hB4 (by simp) (by omega) E26 ?_; rintro w14 E31 hB4 K4 hz4
            have E32 := E27.wroteAt E26 E31 K4 hz4 (by omega); have szE32 := E32.size; have E33 := E28.wroteAt E26 E31 K4 hz4 (by omega); have szE33 := E33.size; have E34 := E29.wroteAt E26 E31 K4 hz4 (by omega); have szE34 := E34.size
            have E35 := E30.wroteAt E26 E31 K4 hz4 (by omega); have szE35 := E35.size; simp only [List.set] at hB4; have hB1 := hB1.of_heap (K4 _ (by omega)); have hB2 := hB2.of_heap (K4 _ (by omega)); have hB3 := hB3.of_heap (K4 _ (by omega))
            have hO1 := hO1.wrote K4 (by omega); have hO2 := hO2.wrote K4 (by omega); have hB5 := hB5.of_heap (K4 _ (by omega)); refine Wo_nil ?_; refine W_seq ?_; refine W_region rfl ?_
            refine Wo (v := .agg _) rfl (opv_load2 Tryd.isAgg53 Tryd.sizeOf53 rfl hB4) ?_; refine Wo_st2 rfl Tryd.sizeOf53 rfl rfl (by first | rfl | assumption) (by first | rfl | assumption) hB3 (by omega) E31 ?_; rintro w15 E36 hB3 K5 hz5
            have E37 := E32.wroteAt E31 E36 K5 hz5 (by omega); have szE37 := E37.size; have E38 := E33.wroteAt E31 E36 K5 hz5 (by omega); have szE38 := E38.size; have hB4 := hB4.of_heap (K5 _ (by omega))
            have hB1 := hB1.of_heap (K5 _ (by omega)); have hB2 := hB2.of_heap (K5 _ (by omega)); have hO1 := hO1.wrote K5 (by omega); have hO2 := hO2.wrote K5 (by omega); have hB5 := hB5.of_heap (K5 _ (by omega))
            refine Wo rfl (opv_assign (v := .bool _) rfl) ?_; refine Wo_nil ?_; refine W_ret ?_; rotate_left; refine W_skip ?_; refine W_seq ?_; refine W_region rfl ?_; refine Wo rfl (opv_move (v := u4) rfl) ?_
            refine Wo rfl (opv_fieldAddr Tryd.underlying53 rfl rfl Tryd.sizeOf49 rfl) ?_; refine Wo_st (v := u4) rfl Tryd.sizeOf49 rfl rfl (OwnedB.isC hO2) hB4 (by simp) (by omega) E21 ?_; rintro w13 E26 hB4 K3 hz3
            have E27 := E22.wroteAt E21 E26 K3 hz3 (by omega); have szE27 := E27.size; have E28 := E23.wroteAt E21 E26 K3 hz3 (by omega); have szE28 := E28.size; have E29 := E24.wroteAt E21 E26 K3 hz3 (by omega); have szE29 := E29.size
            have E30 := E25.wroteAt E21 E26 K3 hz3 (by omega); have szE30 := E30.size; simp only [List.set] at hB4; have hB1 := hB1.of_heap (K3 _ (by omega)); have hB2 := hB2.of_heap (K3 _ (by omega)); have hB3 := hB3.of_heap (K3 _ (by omega))
            have hO1 := hO1.wrote K3 (by omega); have hO2 := hO2.wrote K3 (by omega); have hB5 := hB5.of_heap (K3 _ (by omega)); refine Wo_nil ?_; refine W_seq ?_; refine W_region rfl ?_
            refine Wo (v := .agg _) rfl (opv_load2 Tryd.isAgg53 Tryd.sizeOf53 rfl hB4) ?_; refine Wo_st2 rfl Tryd.sizeOf53 rfl rfl (by first | rfl | assumption) (by first | rfl | assumption) hB3 (by omega) E26 ?_; rintro w14 E31 hB3 K4 hz4
            have E32 := E27.wroteAt E26 E31 K4 hz4 (by omega); have szE32 := E32.size; have E33 := E28.wroteAt E26 E31 K4 hz4 (by omega); have szE33 := E33.size; have hB4 := hB4.of_heap (K4 _ (by omega))
            have hB1 := hB1.of_heap (K4 _ (by omega)); have hB2 := hB2.of_heap (K4 _ (by omega)); have hO1 := hO1.wrote K4 (by omega); have hO2 := hO2.wrote K4 (by omega); have hB5 := hB5.of_heap (K4 _ (by omega))
            refine Wo rfl (opv_assign (v := .bool _) rfl) ?_; refine Wo_nil ?_; refine W_ret ?_; rotate_left
          · have hQ3 := (hQ0.wroteLt (w' := w15) (fun k h1 h2 => (K5 k (by omega)).trans ((K4 k h2).trans ((K3 k h2).trans (K2 k h2)))) (by omega) hne).above.mono (show w.heap.size ≤ w4.heap.size by omega)
            refine ⟨b3, u4, _, rfl, hB3, u4, _, rfl, by exact E36, hO2.above.mono (by omega), ?_, by assumption, rfl, by omega⟩
            rw [show last8 (pp ++ [p]) = (pp ++ [p]).drop 1 from if_pos (by omega)]
            exact hQ3.dropS (by omega)
          · have hQ3 := (hQ0.wroteLt (w' := w14) (fun k h1 h2 => (K4 k (by omega)).trans ((K3 k h2).trans (K2 k h2))) (by omega) hne).above.mono (show w.heap.size ≤ w4.heap.size by omega)
            refine ⟨b3, u4, _, rfl, hB3, u4, _, rfl, by exact E31, hO2.above.mono (by omega), ?_, by assumption, rfl, by omega⟩
            rw [show last8 (pp ++ [p]) = pp ++ [p] from if_neg (by omega)]
            exact hQ3
 ·have k0 : ∀ w,ESl Ints w u1 p→ESl (ESl Ints) w u2 pp→Does Tryd.prog 96 [.agg #[u1,u2]] w (Ret w (.bool false)):=fun w h1 h2=>by
   have:=spec_DeskOk_ok w u1 u2 ⟨p,pp⟩ h1 h2;rwa [decide_eq_false hd] at this
  rw [if_neg hd,if_neg hd,decide_eq_false hd,Bool.false_and]
  focus
   refine W_seq ?_;refine W_region rfl ?_;refine Wo_box rfl rfl rfl ?_;rintro b1 w1 hb1 E1 hB1;have hlb1:=hB1.lt;have hs1:=E1.size;refine Wo_box rfl rfl rfl ?_;rintro b2 w2 hb2 E2 hB2;have hlb2:=hB2.lt
   have hs2:=E2.size;refine Wo_alloc2 rfl flat53 ?_;rintro b3 w3 hb3 E3 hB3;have hlb3:=hB3.lt;have hs3:=E3.size;refine Wo rfl (opv_assign (v:=.bool _) rfl) ?_;refine Wo_nil ?_;refine W_seq ?_;refine W_seq ?_
   refine W_region rfl ?_;refine Wo (v:=.agg _) rfl (opv_load2 Tryd.isAgg53 Tryd.sizeOf53 rfl (hB1.ext (E2.trans E3))) ?_
   refine Wo_call rfl (opc1 (a:=.agg _) Tryd.call96 rfl) (k0 _ ((Mono.mono ((E1.trans E2).trans E3) h1)) ((Mono.mono ((E1.trans E2).trans E3) h2))) ?_;rintro _ w4 ⟨rfl,E4⟩;have hs4:=E4.size;refine Wo rfl (opv_not rfl) ?_
   refine Wo_nil ?_;refine W_cond rfl (fun h3=>?_) (fun h3=>?_);refine W_seq ?_;refine W_region rfl ?_;refine Wo rfl (opv_build (ps:=[]) (cs:=[_,_]) flat53 rfl rfl) ?_
   refine Wo_st2 rfl Tryd.sizeOf53 rfl rfl (by first | rfl | assumption) (by first | rfl | assumption) (hB3.ext E4) (by omega) (((E1.trans E2).trans E3).trans E4) ?_;rintro w5 E5 hB3 K1 hz1
   have E6:=((E2.trans E3).trans E4).wroteAt (((E1.trans E2).trans E3).trans E4) E5 K1 hz1 (by omega);have szE6:=E6.size;have E7:=(E3.trans E4).wroteAt (((E1.trans E2).trans E3).trans E4) E5 K1 hz1 (by omega)
   have szE7:=E7.size;have hB1:=(hB1.ext ((E2.trans E3).trans E4)).of_heap (K1 _ (by omega));have hB2:=(hB2.ext (E3.trans E4)).of_heap (K1 _ (by omega));refine Wo rfl (opv_assign (v:=.bool _) rfl) ?_;refine Wo_nil ?_
   refine W_ret ?_;rotate_left;contradiction
  exact ⟨b3,_,_,rfl,hB3,_,_,rfl,by exact E5,(Owned.nil (e:=0) (X:=XSl 0 XInt)).above,(Owned.nil (e:=0) (X:=XSl 0 (XSl 0 XInt))).above,rfl,rfl,by omega⟩
theorem pick_ok {w0:World} (w:World) {br m:Nat} (n:Int) (hr:Rdr w0 w br m) (hm:m≤1000000000) :
  Does Tryd.prog 54 [.pointer (some ⟨br,0,none⟩),.int .i64 n] w (RetD w0 w br (m+1) (fun x:Nat=>.int .i64 (x:Int)) (fun x _=>1≤n→(x:Int) < n)):=by
 obtain ⟨E0,hge,hlt,vb,bs,p,hb,hlen,hB,hp⟩:=hr
 have hbs:=hb.le
 refine fn_of_W1 Tryd.func54 rfl Tryd.results54 Tryd.ntmps54 rfl ?_
 have hG:w.grownBy w (some br):=grownBy_refl _ _
 have hp1:(p:Int)+1 - 1=p:=by omega
 rcases Nat.eq_zero_or_pos bs.length with h0 | h0
 ·have e0:bs=[]:=List.eq_nil_of_length_eq_zero h0
  focus
   have szE0:=E0.size;refine W_seq ?_;refine W_region rfl ?_;refine Wo rfl (opv_assign (v:=.int _ _) rfl) ?_;refine Wo_nil ?_;refine W_seq ?_;refine W_region rfl ?_;refine Wo rfl (opv_move (v:=.pointer _) rfl) ?_
   refine Wo rfl (opv_move (v:=.pointer _) rfl) ?_;refine Wo rfl (opv_nilCheck rfl) ?_;refine Wo rfl (opv_fieldAddr Tryd.underlying90 rfl rfl Tryd.sizeOf3 rfl) ?_
   refine Wo (v:=.int _ _) rfl (opv_load Tryd.isAgg3 rfl (hB.cell rfl)) ?_;refine Wo rfl (opv_add rfl rfl (by omega)) ?_;refine Wo rfl (opv_nilCheck rfl) ?_
   refine Wo rfl (opv_fieldAddr Tryd.underlying90 rfl rfl Tryd.sizeOf3 rfl) ?_;refine Wo_st (v:=.int _ _) rfl Tryd.sizeOf3 rfl rfl rfl hB (by simp) (by omega) E0 ?_;rintro w1 E1 hB K1 hz1;simp only [List.set] at hB
   have hG:=grownBy_wrote hG E0 E1 K1 hz1 (by first | exact .inr rfl | omega);refine Wo_nil ?_;refine W_seq ?_;refine W_seq ?_;refine W_region rfl ?_;refine Wo rfl (opv_move (v:=.int _ _) rfl) ?_
   refine Wo rfl (opv_lss rfl rfl) ?_;refine Wo_split_dec rfl (opv_move (v:=.bool _) rfl) (fun h1=>?_) (fun h1=>?_);refine Wo_skip rfl ?_;refine Wo_skip rfl ?_;refine Wo_skip rfl ?_;refine Wo_skip rfl ?_
   refine Wo_skip rfl ?_;refine Wo_skip rfl ?_;refine Wo rfl (opv_pick_t (v:=.bool _) rfl rfl) ?_;refine Wo_nil ?_;refine W_cond_true rfl ?_;refine W_seq ?_;refine W_region rfl ?_
   refine Wo rfl (opv_assign (v:=.int _ _) rfl) ?_;refine Wo_nil ?_;refine W_ret ?_;refine at_ret (v:=.int _ _) rfl ?_;rotate_left;refine Wo rfl (opv_move (v:=.pointer _) rfl) ?_;refine Wo rfl (opv_nilCheck rfl) ?_
   refine Wo rfl (opv_fieldAddr Tryd.underlying90 rfl rfl Tryd.sizeOf43 rfl) ?_;refine Wo (v:=vb) rfl (opv_load Tryd.isAgg43 rfl (hB.cell rfl)) ?_;refine Wo rfl (opv_len Tryd.underlying43 rfl hb) ?_
   refine Wo rfl (opv_eql rfl rfl) ?_;refine Wo rfl (opv_pick_f (v:=.bool _) rfl rfl) ?_;refine Wo_nil ?_;refine W_cond_dec rfl (fun h2=>?_) (fun h2=>?_);refine W_seq ?_;refine W_region rfl ?_
   refine Wo rfl (opv_assign (v:=.int _ _) rfl) ?_;refine Wo_nil ?_;refine W_ret ?_;refine at_ret (v:=.int _ _) rfl ?_;rotate_left;(exfalso;omega)
  all_goals exact ⟨0,rfl,hG,⟨by assumption,hge,hB.lt,vb,bs,p+1,hb,hlen,hB,by omega⟩,fun h=>by omega⟩
 have hL:(0:Int) < (bs.length:Int):=by omega
 have hm1:=Int.emod_lt_of_pos (p:Int) hL
 have hm2:=Int.emod_nonneg (p:Int) (show (bs.length:Int)≠0 by omega)
 have hm3:=Int.emod_lt_of_pos ((p:Int)*7+3) hL
 have hm4:=Int.emod_nonneg ((p:Int)*7+3) (show (bs.length:Int)≠0 by omega)
 have hm5:(p:Int) / (bs.length:Int)≤p:=Int.ediv_le_self _ (by omega)
 have hm6:0≤(p:Int) / (bs.length:Int):=Int.ediv_nonneg (by omega) (by omega)
 have hm1:=Int.emod_lt_of_pos ((p:Int)+1 - 1) hL
 have hm2:=Int.emod_nonneg ((p:Int)+1 - 1) (show (bs.length:Int)≠0 by omega)
 have hm3:=Int.emod_lt_of_pos (((p:Int)+1 - 1)*7+3) hL
 have hm4:=Int.emod_nonneg (((p:Int)+1 - 1)*7+3) (show (bs.length:Int)≠0 by omega)
 have hm5:((p:Int)+1 - 1) / (bs.length:Int)≤p:=by rw [hp1];exact hm5
 have hm6:0≤((p:Int)+1 - 1) / (bs.length:Int):=by rw [hp1];exact hm6
 focus
  have szE0:=E0.size;refine W_seq ?_;refine W_region rfl ?_;refine Wo rfl (opv_assign (v:=.int _ _) rfl) ?_;refine Wo_nil ?_;refine W_seq ?_;refine W_region rfl ?_;refine Wo rfl (opv_move (v:=.pointer _) rfl) ?_
  refine Wo rfl (opv_move (v:=.pointer _) rfl) ?_;refine Wo rfl (opv_nilCheck rfl) ?_;refine Wo rfl (opv_fieldAddr Tryd.underlying90 rfl rfl Tryd.sizeOf3 rfl) ?_
  refine Wo (v:=.int _ _) rfl (opv_load Tryd.isAgg3 rfl (hB.cell rfl)) ?_;refine Wo rfl (opv_add rfl rfl (by omega)) ?_;refine Wo rfl (opv_nilCheck rfl) ?_
  refine Wo rfl (opv_fieldAddr Tryd.underlying90 rfl rfl Tryd.sizeOf3 rfl) ?_;refine Wo_st (v:=.int _ _) rfl Tryd.sizeOf3 rfl rfl rfl hB (by simp) (by omega) E0 ?_;rintro w1 E1 hB K1 hz1;simp only [List.set] at hB
  have hG:=grownBy_wrote hG E0 E1 K1 hz1 (by first | exact .inr rfl | omega);refine Wo_nil ?_;refine W_seq ?_;refine W_seq ?_;refine W_region rfl ?_;refine Wo rfl (opv_move (v:=.int _ _) rfl) ?_
  refine Wo rfl (opv_lss rfl rfl) ?_;refine Wo_split_dec rfl (opv_move (v:=.bool _) rfl) (fun h1=>?_) (fun h1=>?_);refine Wo_skip rfl ?_;refine Wo_skip rfl ?_;refine Wo_skip rfl ?_;refine Wo_skip rfl ?_
  refine Wo_skip rfl ?_;refine Wo_skip rfl ?_;refine Wo rfl (opv_pick_t (v:=.bool _) rfl rfl) ?_;refine Wo_nil ?_;refine W_cond_true rfl ?_;refine W_seq ?_;refine W_region rfl ?_
  refine Wo rfl (opv_assign (v:=.int _ _) rfl) ?_;refine Wo_nil ?_;refine W_ret ?_;refine at_ret (v:=.int _ _) rfl ?_;rotate_left;refine Wo rfl (opv_move (v:=.pointer _) rfl) ?_;refine Wo rfl (opv_nilCheck rfl) ?_
  refine Wo rfl (opv_fieldAddr Tryd.underlying90 rfl rfl Tryd.sizeOf43 rfl) ?_;refine Wo (v:=vb) rfl (opv_load Tryd.isAgg43 rfl (hB.cell rfl)) ?_;refine Wo rfl (opv_len Tryd.underlying43 rfl hb) ?_
  refine Wo rfl (opv_eql rfl rfl) ?_;refine Wo rfl (opv_pick_f (v:=.bool _) rfl rfl) ?_;refine Wo_nil ?_;refine W_cond_dec rfl (fun h2=>?_) (fun h2=>?_);(exfalso;omega);refine W_skip ?_;refine W_seq ?_
  refine W_region rfl ?_;refine Wo rfl (opv_move (v:=.pointer _) rfl) ?_;refine Wo rfl (opv_nilCheck rfl) ?_;refine Wo rfl (opv_fieldAddr Tryd.underlying90 rfl rfl Tryd.sizeOf3 rfl) ?_
  refine Wo (v:=.int _ _) rfl (opv_load Tryd.isAgg3 rfl (hB.cell rfl)) ?_;refine Wo rfl (opv_sub rfl rfl (by omega)) ?_;refine Wo rfl (opv_assign (v:=.int _ _) rfl) ?_;refine Wo_nil ?_;refine W_seq ?_;refine W_seq ?_
  refine W_region rfl ?_;refine Wo rfl (opv_move (v:=.int _ _) rfl) ?_;refine Wo rfl (opv_move (v:=.pointer _) rfl) ?_;refine Wo rfl (opv_nilCheck rfl) ?_
  refine Wo rfl (opv_fieldAddr Tryd.underlying90 rfl rfl Tryd.sizeOf43 rfl) ?_;refine Wo (v:=vb) rfl (opv_load Tryd.isAgg43 rfl (hB.cell rfl)) ?_;refine Wo rfl (opv_len Tryd.underlying43 rfl hb) ?_
  refine Wo rfl (opv_lss rfl rfl) ?_;refine Wo_nil ?_;refine W_cond_dec rfl (fun h3=>?_) (fun h3=>?_);refine W_seq ?_;refine W_region rfl ?_;refine Wo rfl (opv_move (v:=.pointer _) rfl) ?_
  refine Wo rfl (opv_nilCheck rfl) ?_;refine Wo rfl (opv_fieldAddr Tryd.underlying90 rfl rfl Tryd.sizeOf43 rfl) ?_;refine Wo (v:=vb) rfl (opv_load Tryd.isAgg43 rfl (hB.cell rfl)) ?_;refine Wo rfl (opv_move (v:=.int _ _) rfl) ?_
  refine Wo_getB_z Tryd.underlying43 Tryd.sizeOf5 Tryd.isAgg5 rfl (fun _=>rfl) rfl hb E1 rfl (by first | omega | (simp <;> omega)) ?_;rintro _ n1 hn1 hn1'
  refine Wo rfl (opv_conv_int Tryd.underlying5 Tryd.underlying3 rfl (by omega)) ?_;refine Wo rfl (opv_move (v:=.int _ _) rfl) ?_;refine Wo rfl (opv_rem rfl rfl (by omega)) ?_;refine Wo rfl (opv_assign (v:=.int _ _) rfl) ?_
  refine Wo_nil ?_;refine W_ret ?_;refine at_ret (v:=.int _ _) rfl ?_;rotate_left;refine W_skip ?_;refine W_seq ?_;refine W_draw mixed (by kernel_rfl) rfl ?_;refine Wq_o rfl (fun _ _=>opv_move (v:=.pointer _) rfl) ?_
  refine Wq_o rfl (fun _ _=>opv_nilCheck rfl) ?_;refine Wq_o rfl (fun _ _=>opv_fieldAddr Tryd.underlying90 rfl rfl Tryd.sizeOf43 rfl) ?_
  refine Wq_o (v:=vb) rfl (fun w' hw'=>opv_load Tryd.isAgg43 rfl ((hB.ext hw').cell rfl)) ?_;refine Wq_o rfl (fun _ _=>opv_move (v:=.int _ _) rfl) ?_;refine Wq_o rfl (fun _ _=>opv_move (v:=.pointer _) rfl) ?_
  refine Wq_o rfl (fun _ _=>opv_nilCheck rfl) ?_;refine Wq_o rfl (fun _ _=>opv_fieldAddr Tryd.underlying90 rfl rfl Tryd.sizeOf43 rfl) ?_
  refine Wq_o (v:=vb) rfl (fun w' hw'=>opv_load Tryd.isAgg43 rfl ((hB.ext hw').cell rfl)) ?_;refine Wq_o rfl (fun _ _=>opv_len Tryd.underlying43 rfl hb) ?_;refine Wq_o rfl (fun _ _=>opv_rem rfl rfl (by omega)) ?_
  refine Wq_getB_z Tryd.underlying43 Tryd.sizeOf5 Tryd.isAgg5 rfl (fun _=>rfl) rfl hb E1 rfl (by first | omega | (simp <;> omega)) ?_;rintro _ n1 hn1 hn1'
  refine Wq_o rfl (fun _ _=>opv_conv_int Tryd.underlying5 Tryd.underlying3 rfl (by omega)) ?_;refine Wq_o rfl (fun _ _=>opv_mul rfl rfl (by omega)) ?_;refine Wq_o rfl (fun _ _=>opv_move (v:=.pointer _) rfl) ?_
  refine Wq_o rfl (fun _ _=>opv_nilCheck rfl) ?_;refine Wq_o rfl (fun _ _=>opv_fieldAddr Tryd.underlying90 rfl rfl Tryd.sizeOf43 rfl) ?_
  refine Wq_o (v:=vb) rfl (fun w' hw'=>opv_load Tryd.isAgg43 rfl ((hB.ext hw').cell rfl)) ?_;refine Wq_o rfl (fun _ _=>opv_move (v:=.int _ _) rfl) ?_;refine Wq_o rfl (fun _ _=>opv_mul rfl rfl (by omega)) ?_
  refine Wq_o rfl (fun _ _=>opv_add rfl rfl (by omega)) ?_;refine Wq_o rfl (fun _ _=>opv_move (v:=.pointer _) rfl) ?_;refine Wq_o rfl (fun _ _=>opv_nilCheck rfl) ?_
  refine Wq_o rfl (fun _ _=>opv_fieldAddr Tryd.underlying90 rfl rfl Tryd.sizeOf43 rfl) ?_;refine Wq_o (v:=vb) rfl (fun w' hw'=>opv_load Tryd.isAgg43 rfl ((hB.ext hw').cell rfl)) ?_
  refine Wq_o rfl (fun _ _=>opv_len Tryd.underlying43 rfl hb) ?_;refine Wq_o rfl (fun _ _=>opv_rem rfl rfl (by omega)) ?_
  refine Wq_getB_z Tryd.underlying43 Tryd.sizeOf5 Tryd.isAgg5 rfl (fun _=>rfl) rfl hb E1 rfl (by first | omega | (simp <;> omega)) ?_;rintro _ n2 hn2 hn2'
  refine Wq_o rfl (fun _ _=>opv_conv_int Tryd.underlying5 Tryd.underlying3 rfl (by omega)) ?_;refine Wq_o rfl (fun _ _=>opv_mul rfl rfl (by omega)) ?_;refine Wq_o rfl (fun _ _=>opv_add rfl rfl (by omega)) ?_
  refine Wq_o rfl (fun _ _=>opv_move (v:=.int _ _) rfl) ?_;refine Wq_o rfl (fun _ _=>opv_mul rfl rfl (by omega)) ?_;refine Wq_o rfl (fun _ _=>opv_add rfl rfl (by omega)) ?_
  refine Wq_o rfl (fun _ _=>opv_move (v:=.int _ _) rfl) ?_;refine Wq_o rfl (fun _ _=>opv_move (v:=.pointer _) rfl) ?_;refine Wq_o rfl (fun _ _=>opv_nilCheck rfl) ?_
  refine Wq_o rfl (fun _ _=>opv_fieldAddr Tryd.underlying90 rfl rfl Tryd.sizeOf43 rfl) ?_;refine Wq_o (v:=vb) rfl (fun w' hw'=>opv_load Tryd.isAgg43 rfl ((hB.ext hw').cell rfl)) ?_
  refine Wq_o rfl (fun _ _=>opv_len Tryd.underlying43 rfl hb) ?_;refine Wq_o rfl (fun _ _=>opv_quo rfl rfl (by omega)) ?_;refine Wq_o rfl (fun _ _=>opv_mul rfl rfl (by omega)) ?_
  refine Wq_o rfl (fun _ _=>opv_add rfl rfl (by omega)) ?_;refine Wq_o rfl (fun _ _=>opv_assign (v:=.int _ _) rfl) ?_;refine Wq_nil (fun w2 E2=>?_);have hG:=grownBy_ext hG E2;have hs1:=E2.size;refine W_seq ?_
  refine W_region rfl ?_;refine Wo rfl (opv_move (v:=.int _ _) rfl) ?_;refine Wo rfl (opv_move (v:=.int _ _) rfl) ?_;refine Wo rfl (opv_quo rfl rfl (by omega)) ?_;refine Wo rfl (opv_xor rfl rfl (by omega)) ?_
  refine Wo rfl (opv_assign (v:=.int _ _) rfl) ?_;refine Wo_nil ?_;refine W_seq ?_;refine W_region rfl ?_;refine Wo rfl (opv_move (v:=.int _ _) rfl) ?_;refine Wo rfl (opv_move (v:=.int _ _) rfl) ?_
  refine Wo rfl (opv_rem rfl rfl (by omega)) ?_;refine Wo rfl (opv_assign (v:=.int _ _) rfl) ?_;refine Wo_nil ?_;refine W_ret ?_;refine at_ret (v:=.int _ _) rfl ?_;rotate_left
 ·exact ⟨0,rfl,hG,⟨by assumption,hge,hB.lt,vb,bs,p+1,hb,hlen,hB,by omega⟩,fun h=>by omega⟩
 ·have e:=Int.emod_nonneg (n1:Int) (show n≠0 by omega)
  refine ⟨((n1:Int) % n).toNat,by simp only [Int.toNat_of_nonneg e],hG,⟨by assumption,hge,hB.lt,vb,bs,p+1,hb,hlen,hB,by omega⟩,fun h=>?_⟩
  simp only [Int.toNat_of_nonneg e]
  exact Int.emod_lt_of_pos _ (by omega)
 ·refine at_ret (v:=.int .i64 _) rfl ?_
  generalize hz:((((n1*131:Int)+n2*1117+((p:Int)+1 - 1)*29+((p:Int)+1 - 1) / (bs.length:Int)*53).toNat ^^^ (((n1*131:Int)+n2*1117+((p:Int)+1 - 1)*29+((p:Int)+1 - 1) / (bs.length:Int)*53) / 64).toNat:Nat):Int)=z
  have hz0:0≤z:=by rw [← hz];omega
  have hB:=hB.ext (show Ext w1 w2 by assumption)
  have e:=Int.emod_nonneg z (show n≠0 by omega)
  refine ⟨(z % n).toNat,by simp only [Int.toNat_of_nonneg e],hG,⟨E1.trans (by assumption),hge,hB.lt,vb,bs,p+1,hb,hlen,hB,by omega⟩,fun h=>?_⟩
  simp only [Int.toNat_of_nonneg e]
  exact Int.emod_lt_of_pos _ (by omega)
theorem odd_ok {w0:World} (w:World) {br m:Nat} (n:Int) (hr:Rdr w0 w br m) (hm:m≤1000000000) (hn : -1000000≤n∧n≤1000000) :
  Does Tryd.prog 57 [.pointer (some ⟨br,0,none⟩),.int .i64 n] w (RetD w0 w br (m+1) Value.bool (fun _ _=>True)):=by
 refine fn_of_W1 Tryd.func57 rfl Tryd.results57 Tryd.ntmps57 rfl ?_
 have hG:w.grownBy w (some br):=grownBy_refl _ _
 focus
  refine W_seq ?_;refine W_region rfl ?_;refine Wo rfl (opv_assign (v:=.bool _) rfl) ?_;refine Wo_nil ?_;refine W_seq ?_;refine W_region rfl ?_;refine Wo rfl (opv_move (v:=.int _ _) rfl) ?_
  refine Wo rfl (opv_gtr rfl rfl) ?_;refine Wo_split_dec rfl (opv_move (v:=.bool _) rfl) (fun h1=>?_) (fun h1=>?_);refine Wo rfl (opv_move (v:=.pointer _) rfl) ?_;refine Wo rfl (opv_move (v:=.int _ _) rfl) ?_
  refine Wo_call rfl (opc2 (a:=.pointer _) (b:=.int _ _) Tryd.call54 rfl rfl) (pick_ok _ _ (by assumption) (by assumption)) ?_;rintro _ w1 ⟨y1,rfl,E1,hr1,hy1⟩;(try dsimp only at hy1);have hlhr1:=hr1.lt
  have Ehr1:=hr1.old;have hG:=grownBy_trans hG E1;have hs1:=E1.size;refine Wo rfl (opv_move (v:=.int _ _) rfl) ?_;refine Wo rfl (opv_sub rfl rfl (by omega)) ?_;refine Wo rfl (opv_eql rfl rfl) ?_
  refine Wo rfl (opv_pick_t (v:=.bool _) rfl rfl) ?_;refine Wo rfl (opv_assign (v:=.bool _) rfl) ?_;refine Wo_nil ?_;refine W_ret ?_;refine at_ret (v:=.bool _) rfl ?_;rotate_left;refine Wo_skip rfl ?_
  refine Wo_skip rfl ?_;refine Wo_skip rfl ?_;refine Wo_skip rfl ?_;refine Wo_skip rfl ?_;refine Wo_skip rfl ?_;refine Wo rfl (opv_pick_f (v:=.bool _) rfl rfl) ?_;refine Wo rfl (opv_assign (v:=.bool _) rfl) ?_
  refine Wo_nil ?_;refine W_ret ?_;refine at_ret (v:=.bool _) rfl ?_;rotate_left
 all_goals first | exact ⟨_,rfl,hG,hr1,trivial⟩ | exact ⟨_,rfl,hG,hr.le (by omega),trivial⟩
theorem flat90:Flat Tryd.prog 90 [.slice none 0 0,.int .i64 0]:=⟨_,Tryd.underlying90,fun _=>by kernel_rfl,fun _=>by kernel_rfl⟩
theorem open_ok (w:World) (v:Value) (xs:List UInt8) (h:Bytes w v xs) (hc:CapOk v) :
  Does Tryd.prog 50 [v] w (RetX w (fun br:Nat=>.pointer (some ⟨br,0,none⟩)) (fun br w'=>Rdr w w' br 0)):=by
 refine fn_of_W1 Tryd.func50 rfl Tryd.results50 Tryd.ntmps50 rfl ?_
 have hl:=h.le
 obtain ⟨a,c,rfl,hR⟩:=id h
 obtain ⟨a',l',c',e,hcap⟩:=hc
 cases e
 by_cases h2:2000 < xs.length
 ·obtain ⟨b,o,u,rfl,_⟩:=hR.at (show 0 < xs.length by omega)
  have hT:=h.take (cap':=c) 2000 (by omega)
  focus
   refine W_seq ?_;refine W_region rfl ?_;refine Wo rfl (opv_assign (v:=.pointer _) rfl) ?_;refine Wo_nil ?_;refine W_seq ?_;refine W_seq ?_;refine W_region rfl ?_;refine Wo rfl (opv_move (v:=.slice _ _ _) rfl) ?_
   refine Wo rfl (opv_len Tryd.underlying43 rfl h) ?_;refine Wo rfl (opv_gtr rfl rfl) ?_;refine Wo_nil ?_;refine W_cond_dec rfl (fun h1=>?_) (fun h1=>?_);refine W_region rfl ?_
   refine Wo rfl (opv_move (v:=.slice _ _ _) rfl) ?_;refine Wo rfl (opv_slice_sl_hi Tryd.underlying43 Tryd.sizeOf5 rfl rfl (by omega)) ?_;refine Wo rfl (opv_assign (v:=.slice _ _ _) rfl) ?_;refine Wo_nil ?_;refine W_seq ?_
   refine W_region rfl ?_;refine Wo rfl (opv_move (v:=.slice _ _ _) rfl) ?_;refine Wo rfl (opv_build (ps:=[(0,.slice _ _ _)]) (cs:=[_,_]) flat90 rfl rfl) ?_;refine Wo_box rfl rfl rfl ?_;rintro b1 w1 hb1 E1 hB1
   have hlb1:=hB1.lt;have hs1:=E1.size;refine Wo rfl (opv_assign (v:=.pointer _) rfl) ?_;refine Wo_nil ?_;refine W_ret ?_;refine at_ret (v:=.pointer _) rfl ?_;refine ⟨E1,_,rfl,?_⟩;(try dsimp only);rotate_left
   (exfalso;omega)
  all_goals exact ⟨by assumption,by assumption,by assumption,_,_,0,hT,by simp;omega,by assumption,by omega⟩
 ·focus
   refine W_seq ?_;refine W_region rfl ?_;refine Wo rfl (opv_assign (v:=.pointer _) rfl) ?_;refine Wo_nil ?_;refine W_seq ?_;refine W_seq ?_;refine W_region rfl ?_;refine Wo rfl (opv_move (v:=.slice _ _ _) rfl) ?_
   refine Wo rfl (opv_len Tryd.underlying43 rfl h) ?_;refine Wo rfl (opv_gtr rfl rfl) ?_;refine Wo_nil ?_;refine W_cond_dec rfl (fun h1=>?_) (fun h1=>?_);(exfalso;omega);refine W_skip ?_;refine W_seq ?_
   refine W_region rfl ?_;refine Wo rfl (opv_move (v:=.slice _ _ _) rfl) ?_;refine Wo rfl (opv_build (ps:=[(0,.slice _ _ _)]) (cs:=[_,_]) flat90 rfl rfl) ?_;refine Wo_box rfl rfl rfl ?_;rintro b1 w1 hb1 E1 hB1
   have hlb1:=hB1.lt;have hs1:=E1.size;refine Wo rfl (opv_assign (v:=.pointer _) rfl) ?_;refine Wo_nil ?_;refine W_ret ?_;refine at_ret (v:=.pointer _) rfl ?_;refine ⟨E1,_,rfl,?_⟩;(try dsimp only)
  all_goals exact ⟨by assumption,by assumption,by assumption,_,_,0,h,by omega,by assumption,by omega⟩
theorem Picture_ok {w0:World} (w:World) {br m:Nat} (n:Int) (hr:Rdr w0 w br m) (hm:m≤100000000) (hn:0≤n∧n≤1000) :
  Does Tryd.prog 95 [.pointer (some ⟨br,0,none⟩),.int .i64 n] w (RetDO w0 w br (m+60) XR (fun p=>p.length≤5∧∀ r ∈ p,r.length≤6)):=by
 refine fn_of_W1 Tryd.func95 rfl Tryd.results95 Tryd.ntmps95 rfl ?_
 have hG:w.grownBy w (some br):=grownBy_refl _ _
 have hlr:=hr.lt
 have hgr:=hr.ge
 have E0:=hr.old
 focus
  have szE0:=E0.size;refine W_seq ?_;refine W_region rfl ?_;refine Wo rfl (opv_assign (v:=.slice _ _ _) rfl) ?_;refine Wo_nil ?_;refine W_seq ?_;refine W_region rfl ?_;refine Wo rfl (opv_move (v:=.pointer _) rfl) ?_
  refine Wo_call rfl (opc2 (a:=.pointer _) (b:=.int _ _) Tryd.call54 rfl rfl) (pick_ok _ _ (by assumption) (by omega)) ?_;rintro _ w1 ⟨y1,rfl,E1,hr1,hy1⟩;(try dsimp only at hy1);have hlhr1:=hr1.lt;have Ehr1:=hr1.old
  have hG:=grownBy_trans hG E1;have hs1:=E1.size;refine Wo rfl (opv_add rfl rfl (by omega)) ?_;refine Wo rfl (opv_assign (v:=.int _ _) rfl) ?_;refine Wo_nil ?_;refine W_seq ?_;refine W_region rfl ?_
  refine Wo_lit0 (XSl 3 XInt) rfl el49 Tryd.sizeOf80 ?_;rintro b1 w2 hb1 b1lt E2 hO1;have hr1:=hr1.ext E2;have hG:=grownBy_ext hG E2;have hs2:=E2.size;refine Wo rfl (opv_assign (v:=.slice _ _ _) rfl) ?_;refine Wo_nil ?_
  refine W_seq ?_;refine W_region rfl ?_;refine Wo rfl (opv_move (v:=.pointer _) rfl) ?_;refine Wo_call rfl (opc2 (a:=.pointer _) (b:=.int _ _) Tryd.call54 rfl rfl) (pick_ok _ _ (by assumption) (by omega)) ?_
  rintro _ w3 ⟨y2,rfl,E3,hr2,hy2⟩;(try dsimp only at hy2);have hlhr2:=hr2.lt;have Ehr2:=hr2.old;have hO1:=hO1.toB.grown E3 (by omega);have hG:=grownBy_trans hG E3;have hs3:=E3.size
  refine Wo rfl (opv_assign (v:=.int _ _) rfl) ?_;refine Wo_nil ?_;refine W_seq ?_;refine W_seq ?_;refine W_region rfl ?_;refine Wo rfl (opv_assign (v:=.int _ _) rfl) ?_;refine Wo_nil ?_;refine W_block ?_
 have hy1':=hy1 (by omega)
 have hn5:(1+(y1:Int)).toNat=1+y1:=by omega
 refine W_loop [6,8,9,10,17,18,19,20,21,22,23,24,25,26,27,28,29,30,31,32,33,34,35,36,37,38,39,40,41,42,43,44,45,46,47,48,49,50,51,52,53,54,55,56,57,58,59,60,61,62] (fun (k,u,rows)=>[(8,.int .i64 (k:Nat)),(6,u)]) (fun (k,u,rows) w'=>w.grownBy w' (some br)∧Rdr w0 w' br (m+2+6*k)∧k≤1+y1∧Owned w.heap.size XR w' u rows∧rows.length=k∧∀ r ∈ rows,r.length=1+y1) (fun x=>1+y1 - x.1) (0,.slice (some ⟨b1,0,none⟩) 0 0,[]) (by repeat (first | exact trivial | refine And.intro rfl ?_)) ?_ ?_
 ·exact ⟨hG,hr2,Nat.zero_le _,hO1.o.mono (by omega),rfl,by simp⟩
 rintro ⟨k,u,rows⟩ ρj w4 ⟨hG4,hr4,hk,hO4,hrl,hrr⟩
 have E4:=hr4.old
 have hg4:=hG4.size
 by_cases hlt:k < 1+y1
 ·focus
   have szE4:=E4.size;have szEhr2:=Ehr2.size;have szE2:=E2.size;have szEhr1:=Ehr1.size;have szE0:=E0.size;refine W_seq ?_;refine W_seq ?_;refine W_region rfl ?_;refine Wo rfl (opv_move (v:=.int _ _) rfl) ?_
   refine Wo rfl (opv_move (v:=.int _ _) rfl) ?_;refine Wo rfl (opv_lss rfl rfl) ?_;refine Wo_nil ?_;refine W_cond_dec rfl (fun h1=>?_) (fun h1=>?_);refine W_skip ?_;refine W_seq ?_;refine W_block ?_;refine W_seq ?_
   refine W_region rfl ?_;refine Wo rfl (opv_move (v:=.int _ _) rfl) ?_;refine Wo_makeI rfl el80 (int_z (by omega) rfl) (by omega) ?_;rintro b2 w5 hb2 b2lt E5 hO2;have hG4:=grownBy_ext hG4 E5;have hr4:=hr4.ext E5
   have hs4:=E5.size;refine Wo rfl (opv_assign (v:=.slice _ _ _) rfl) ?_;refine Wo_nil ?_;refine W_seq ?_;refine W_seq ?_;refine W_region rfl ?_;refine Wo rfl (opv_assign (v:=.int _ _) rfl) ?_;refine Wo_nil ?_
   refine W_block ?_;rotate_left;(exfalso;omega)
  refine W_loop [10,24,25,26,27,28,29,30,31,32,33,34,35,36,37,38,39,40,41,42,43,44,45] (fun (j,row)=>[(10,.int .i64 (j:Nat))]) (fun (j,row) w'=>w.grownBy w' (some br)∧Rdr w0 w' br (m+2+6*k+j)∧j≤1+y1∧OwnedB w.heap.size w4.heap.size XR w' u rows∧Owned w4.heap.size XI w' (.slice (some ⟨b2,0,none⟩) (1+(y1:Int)).toNat (1+(y1:Int)).toNat) row∧row.length=1+y1) (fun x=>1+y1 - x.1) (0,List.replicate (1+(y1:Int)).toNat 0) (by repeat (first | exact trivial | refine And.intro rfl ?_)) ?_ ?_
  ·exact ⟨hG4,hr4,Nat.zero_le _,hO4.toB.ext E5,hO2,by simp;omega⟩
  rintro ⟨j,row⟩ ρi w6 ⟨hG6,hr6,hj,hO6,hR6,hrow⟩
  have E6:=hr6.old
  have hg6:=hG6.size
  have hb6:=hR6.lt_own (k:=b2) rfl
  have hs6:w4.heap.size≤w6.heap.size:=by omega
  by_cases hjl:j < 1+y1
  ·focus
    have szE6:=E6.size;have szE5:=E5.size;have szE4:=E4.size;have szEhr2:=Ehr2.size;have szE2:=E2.size;have szEhr1:=Ehr1.size;have szE0:=E0.size;refine W_seq ?_;refine W_seq ?_;refine W_region rfl ?_
    refine Wo rfl (opv_move (v:=.int _ _) rfl) ?_;refine Wo rfl (opv_move (v:=.int _ _) rfl) ?_;refine Wo rfl (opv_lss rfl rfl) ?_;refine Wo_nil ?_;refine W_cond_dec rfl (fun h2=>?_) (fun h2=>?_);refine W_skip ?_
    refine W_seq ?_;refine W_block ?_;refine W_seq ?_;refine W_region rfl ?_;refine Wo rfl (opv_move (v:=.int _ _) rfl) ?_;refine Wo rfl (opv_eql rfl rfl) ?_
    refine Wo_split_dec rfl (opv_move (v:=.bool _) rfl) (fun h3=>?_) (fun h3=>?_);refine Wo rfl (opv_move (v:=.int _ _) rfl) ?_;refine Wo rfl (opv_move (v:=.int _ _) rfl) ?_;refine Wo rfl (opv_gtr rfl rfl) ?_
    refine Wo rfl (opv_pick_t (v:=.bool _) rfl rfl) ?_;refine Wo_split_dec rfl (opv_move (v:=.bool _) rfl) (fun h4=>?_) (fun h4=>?_);refine Wo_skip rfl ?_;refine Wo_skip rfl ?_
    refine Wo rfl (opv_pick_t (v:=.bool _) rfl rfl) ?_;refine Wo_nil ?_;refine W_cond_true rfl ?_;refine W_region rfl ?_;refine Wo rfl (opv_move (v:=.slice _ _ _) rfl) ?_;refine Wo rfl (opv_move (v:=.int _ _) rfl) ?_
    refine Wo rfl (opv_move (v:=.pointer _) rfl) ?_;refine Wo_call rfl (opc2 (a:=.pointer _) (b:=.int _ _) Tryd.call54 rfl rfl) (pick_ok _ _ (by assumption) (by omega)) ?_;rintro _ w7 ⟨y3,rfl,E7,hr3,hy3⟩
    (try dsimp only at hy3);have hlhr3:=hr3.lt;have Ehr3:=hr3.old;have hG6:=grownBy_trans hG6 E7;have hO6:=hO6.grown E7 (by omega);have hR6:=hR6.toB.grown E7 (by omega);have hs5:=E7.size
    refine Wo rfl (opv_quo rfl rfl (by omega)) ?_;refine Wo rfl (opv_indexAddr Tryd.underlying80 Tryd.sizeOf3 rfl rfl (by omega)) ?_
    refine Wo_set rfl Tryd.sizeOf3 rfl rfl hR6 (by first | omega | (simp <;> omega)) Owned.int (Nat.le_refl _) (by omega) ?_;rintro w8 hR6 On1 K1 hz1;have E8:=On1.ext1 Ehr3 (by omega);have hr3:=hr3.wrote E8 (K1 _ (by omega)) hz1
    have hG6:=grownBy_wrote hG6 Ehr3 E8 K1 hz1 (by first | exact .inr rfl | omega);have hO6:=hO6.wrote K1 (by omega);have hs7:=On1.size;refine Wo_nil ?_;refine W_region rfl ?_;refine Wo rfl (opv_move (v:=.int _ _) rfl) ?_
    refine Wo rfl (opv_add rfl rfl (by omega)) ?_;refine Wo rfl (opv_assign (v:=.int _ _) rfl) ?_;refine Wo_nil ?_;rotate_left;refine Wo rfl (opv_move (v:=.int _ _) rfl) ?_;refine Wo rfl (opv_gtr rfl rfl) ?_
    refine Wo rfl (opv_pick_f (v:=.bool _) rfl rfl) ?_;refine Wo_nil ?_;refine W_cond_dec rfl (fun h5=>?_) (fun h5=>?_);(exfalso;omega);refine W_skip ?_;refine W_region rfl ?_;refine Wo rfl (opv_move (v:=.int _ _) rfl) ?_
    refine Wo rfl (opv_add rfl rfl (by omega)) ?_;refine Wo rfl (opv_assign (v:=.int _ _) rfl) ?_;refine Wo_nil ?_;rotate_left;refine Wo_skip rfl ?_;refine Wo_skip rfl ?_;refine Wo_skip rfl ?_
    refine Wo rfl (opv_pick_f (v:=.bool _) rfl rfl) ?_;refine Wo rfl (opv_move (v:=.bool _) rfl) ?_;refine Wo rfl (opv_move (v:=.int _ _) rfl) ?_;refine Wo rfl (opv_gtr rfl rfl) ?_
    refine Wo rfl (opv_pick_f (v:=.bool _) rfl rfl) ?_;refine Wo_nil ?_;refine W_cond_dec rfl (fun h4=>?_) (fun h4=>?_);refine W_region rfl ?_;refine Wo rfl (opv_move (v:=.slice _ _ _) rfl) ?_
    refine Wo rfl (opv_move (v:=.int _ _) rfl) ?_;refine Wo rfl (opv_move (v:=.pointer _) rfl) ?_;refine Wo_call rfl (opc2 (a:=.pointer _) (b:=.int _ _) Tryd.call54 rfl rfl) (pick_ok _ _ (by assumption) (by omega)) ?_
    rintro _ w7 ⟨y3,rfl,E7,hr3,hy3⟩;(try dsimp only at hy3);have hlhr3:=hr3.lt;have Ehr3:=hr3.old;have hG6:=grownBy_trans hG6 E7;have hO6:=hO6.grown E7 (by omega);have hR6:=hR6.toB.grown E7 (by omega)
    have hs5:=E7.size;refine Wo rfl (opv_quo rfl rfl (by omega)) ?_;refine Wo rfl (opv_indexAddr Tryd.underlying80 Tryd.sizeOf3 rfl rfl (by omega)) ?_
    refine Wo_set rfl Tryd.sizeOf3 rfl rfl hR6 (by first | omega | (simp <;> omega)) Owned.int (Nat.le_refl _) (by omega) ?_;rintro w8 hR6 On1 K1 hz1;have E8:=On1.ext1 Ehr3 (by omega);have hr3:=hr3.wrote E8 (K1 _ (by omega)) hz1
    have hG6:=grownBy_wrote hG6 Ehr3 E8 K1 hz1 (by first | exact .inr rfl | omega);have hO6:=hO6.wrote K1 (by omega);have hs7:=On1.size;refine Wo_nil ?_;refine W_region rfl ?_;refine Wo rfl (opv_move (v:=.int _ _) rfl) ?_
    refine Wo rfl (opv_add rfl rfl (by omega)) ?_;refine Wo rfl (opv_assign (v:=.int _ _) rfl) ?_;refine Wo_nil ?_;rotate_left;(exfalso;omega);(exfalso;omega)
   ·refine ⟨((j+1,row.set j ((y3:Int) / 2))),by repeat (first | exact trivial | refine And.intro rfl ?_),by repeat (first | with_reducible exact Same.refl | refine Same.upd rfl ?_ | refine Same.upds rfl ?_ | refine Same.mix rfl ?_),?_,?_⟩
    ·exact ⟨by assumption,Rdr.le (by assumption) (by omega),by omega,by assumption,by assumption,by simp [hrow]⟩
    ·simp only;omega
   ·refine ⟨((j+1,row)),by repeat (first | exact trivial | refine And.intro rfl ?_),by repeat (first | with_reducible exact Same.refl | refine Same.upd rfl ?_ | refine Same.upds rfl ?_ | refine Same.mix rfl ?_),?_,?_⟩
    ·exact ⟨by assumption,Rdr.le (by assumption) (by omega),by omega,by assumption,by assumption,hrow⟩
    ·simp only;omega
   ·refine ⟨((j+1,row.set j ((y3:Int) / 2))),by repeat (first | exact trivial | refine And.intro rfl ?_),by repeat (first | with_reducible exact Same.refl | refine Same.upd rfl ?_ | refine Same.upds rfl ?_ | refine Same.mix rfl ?_),?_,?_⟩
    ·exact ⟨by assumption,Rdr.le (by assumption) (by omega),by omega,by assumption,by assumption,by simp [hrow]⟩
    ·simp only;omega
  ·obtain rfl:j=1+y1:=by omega
   have hrs : ∀ (rw':List Int),rw'.length=1+y1→∀ r ∈ rows++[rw'],r.length=1+y1:=by
    intro rw' h9 r hr9
    rcases List.mem_append.1 hr9 with h | h
    ·exact hrr r h
    ·rw [List.mem_singleton.1 h];exact h9
   focus
    have szE6:=E6.size;have szE5:=E5.size;have szE4:=E4.size;have szEhr2:=Ehr2.size;have szE2:=E2.size;have szEhr1:=Ehr1.size;have szE0:=E0.size;refine W_seq ?_;refine W_seq ?_;refine W_region rfl ?_
    refine Wo rfl (opv_move (v:=.int _ _) rfl) ?_;refine Wo rfl (opv_move (v:=.int _ _) rfl) ?_;refine Wo rfl (opv_lss rfl rfl) ?_;refine Wo_nil ?_;refine W_cond_dec rfl (fun h2=>?_) (fun h2=>?_);(exfalso;omega)
    refine W_exit ?_;refine exitX_same ?_;refine W_seq ?_;refine W_seq ?_;refine W_region rfl ?_;refine Wo rfl (opv_move (v:=.int _ _) rfl) ?_;refine Wo rfl (opv_add rfl rfl (by omega)) ?_
    refine Wo rfl (opv_move (v:=.int _ _) rfl) ?_;refine Wo rfl (opv_lss rfl rfl) ?_;refine Wo_split_dec rfl (opv_move (v:=.bool _) rfl) (fun h3=>?_) (fun h3=>?_);refine Wo rfl (opv_move (v:=.pointer _) rfl) ?_
    refine Wo_call rfl (opc2 (a:=.pointer _) (b:=.int _ _) Tryd.call54 rfl rfl) (pick_ok _ _ (by assumption) (by omega)) ?_;rintro _ w7 ⟨y3,rfl,E7,hr3,hy3⟩;(try dsimp only at hy3);have hlhr3:=hr3.lt;have Ehr3:=hr3.old
    have hG6:=grownBy_trans hG6 E7;have hO6:=hO6.grown E7 (by omega);have hR6:=hR6.toB.grown E7 (by omega);have hs5:=E7.size;refine Wo rfl (opv_gtr rfl rfl) ?_;refine Wo rfl (opv_pick_t (v:=.bool _) rfl rfl) ?_
    refine Wo_nil ?_;refine W_cond_dec rfl (fun h4=>?_) (fun h4=>?_);refine W_region rfl ?_;refine Wo rfl (opv_move (v:=.slice _ _ _) rfl) ?_;refine Wo rfl (opv_move (v:=.int _ _) rfl) ?_
    refine Wo rfl (opv_add rfl rfl (by omega)) ?_;refine Wo rfl (opv_indexAddr_z Tryd.underlying80 Tryd.sizeOf3 rfl rfl (by omega)) ?_
    refine Wo_set rfl Tryd.sizeOf3 rfl rfl hR6 (by first | omega | (simp <;> omega)) Owned.int (Nat.le_refl _) (by omega) ?_;rintro w8 hR6 On1 K1 hz1;have E8:=On1.ext1 Ehr3 (by omega);have hr3:=hr3.wrote E8 (K1 _ (by omega)) hz1
    have hG6:=grownBy_wrote hG6 Ehr3 E8 K1 hz1 (by first | exact .inr rfl | omega);have hO6:=hO6.wrote K1 (by omega);have hs7:=On1.size;refine Wo_nil ?_;refine W_region rfl ?_;refine Wo rfl (opv_move (v:=u) rfl) ?_
    refine Wo rfl (opv_move (v:=.slice _ _ _) rfl) ?_;refine Wo_buildSlice (ps:=[(0,.slice _ _ _)]) (cs:=[_]) rfl Tryd.underlying49 Tryd.sizeOf80 Tryd.zeroValue80 rfl rfl rfl rfl ?_;rintro b3 w9 hb3 E9 hB1;have hlb3:=hB1.lt
    have hr3:=hr3.ext E9;have hG6:=grownBy_ext hG6 E9;have hs8:=E9.size
    refine Wo_app1 rfl el49 rfl rfl hB1 (hO6.ext E9) (hR6.toB.ext E9).o (by omega) (by first | omega | (simp <;> omega)) (by omega) (by omega) (E8.trans E9) (by omega) ?_;have hT1:=(hO6.ext E9);rintro v1 w10 hO6 E10 M1
    have hR6:=(hR6.toB.ext E9).moves M1 hT1 (by omega);have hB1:=hB1.moves M1 hT1 (by omega);have hr3:=hr3.moves E10 M1 hT1 (by omega);have hG6:=grownBy_moves hG6 M1 hT1 (by omega);have hs9:=E10.size
    refine Wo rfl (opv_assign (v:=v1) rfl) ?_;refine Wo_nil ?_;refine W_region rfl ?_;refine Wo rfl (opv_move (v:=.int _ _) rfl) ?_;refine Wo rfl (opv_add rfl rfl (by omega)) ?_;refine Wo rfl (opv_assign (v:=.int _ _) rfl) ?_
    refine Wo_nil ?_;rotate_left;refine W_skip ?_;refine W_region rfl ?_;refine Wo rfl (opv_move (v:=u) rfl) ?_;refine Wo rfl (opv_move (v:=.slice _ _ _) rfl) ?_
    refine Wo_buildSlice (ps:=[(0,.slice _ _ _)]) (cs:=[_]) rfl Tryd.underlying49 Tryd.sizeOf80 Tryd.zeroValue80 rfl rfl rfl rfl ?_;rintro b3 w8 hb3 E8 hB1;have hlb3:=hB1.lt;have hr3:=hr3.ext E8
    have hG6:=grownBy_ext hG6 E8;have hs7:=E8.size;refine Wo_app1 rfl el49 rfl rfl hB1 (hO6.ext E8) (hR6.ext E8).o (by omega) (by first | omega | (simp <;> omega)) (by omega) (by omega) (Ehr3.trans E8) (by omega) ?_
    have hT1:=(hO6.ext E8);rintro v1 w9 hO6 E9 M1;have hR6:=(hR6.ext E8).moves M1 hT1 (by omega);have hB1:=hB1.moves M1 hT1 (by omega);have hr3:=hr3.moves E9 M1 hT1 (by omega);have hG6:=grownBy_moves hG6 M1 hT1 (by omega)
    have hs8:=E9.size;refine Wo rfl (opv_assign (v:=v1) rfl) ?_;refine Wo_nil ?_;refine W_region rfl ?_;refine Wo rfl (opv_move (v:=.int _ _) rfl) ?_;refine Wo rfl (opv_add rfl rfl (by omega)) ?_
    refine Wo rfl (opv_assign (v:=.int _ _) rfl) ?_;refine Wo_nil ?_;rotate_left;refine Wo_skip rfl ?_;refine Wo_skip rfl ?_;refine Wo_skip rfl ?_;refine Wo rfl (opv_pick_f (v:=.bool _) rfl rfl) ?_;refine Wo_nil ?_
    refine W_cond_false rfl ?_;refine W_skip ?_;refine W_region rfl ?_;refine Wo rfl (opv_move (v:=u) rfl) ?_;refine Wo rfl (opv_move (v:=.slice _ _ _) rfl) ?_
    refine Wo_buildSlice (ps:=[(0,.slice _ _ _)]) (cs:=[_]) rfl Tryd.underlying49 Tryd.sizeOf80 Tryd.zeroValue80 rfl rfl rfl rfl ?_;rintro b3 w7 hb3 E7 hB1;have hlb3:=hB1.lt;have hG6:=grownBy_ext hG6 E7
    have hr6:=hr6.ext E7;have hs5:=E7.size;refine Wo_app1 rfl el49 rfl rfl hB1 (hO6.ext E7) (hR6.toB.ext E7).o (by omega) (by first | omega | (simp <;> omega)) (by omega) (by omega) (E6.trans E7) (by omega) ?_
    have hT1:=(hO6.ext E7);rintro v1 w8 hO6 E8 M1;have hR6:=(hR6.toB.ext E7).moves M1 hT1 (by omega);have hB1:=hB1.moves M1 hT1 (by omega);have hG6:=grownBy_moves hG6 M1 hT1 (by omega)
    have hr6:=hr6.moves E8 M1 hT1 (by omega);have hs7:=E8.size;refine Wo rfl (opv_assign (v:=v1) rfl) ?_;refine Wo_nil ?_;refine W_region rfl ?_;refine Wo rfl (opv_move (v:=.int _ _) rfl) ?_
    refine Wo rfl (opv_add rfl rfl (by omega)) ?_;refine Wo rfl (opv_assign (v:=.int _ _) rfl) ?_;refine Wo_nil ?_;rotate_left
   ·refine ⟨((k+1,v1,rows++[row.set ((k:Int)+1).toNat 1])),by repeat (first | exact trivial | refine And.intro rfl ?_),by repeat (first | with_reducible exact Same.refl | refine Same.upd rfl ?_ | refine Same.upds rfl ?_ | refine Same.mix rfl ?_),?_,?_⟩
    ·exact ⟨by assumption,Rdr.le (by assumption) (by omega),by omega,by assumption,by simp [hrl],hrs _ (by simp [hrow])⟩
    ·simp only;omega
   ·refine ⟨((k+1,v1,rows++[row])),by repeat (first | exact trivial | refine And.intro rfl ?_),by repeat (first | with_reducible exact Same.refl | refine Same.upd rfl ?_ | refine Same.upds rfl ?_ | refine Same.mix rfl ?_),?_,?_⟩
    ·exact ⟨by assumption,Rdr.le (by assumption) (by omega),by omega,by assumption,by simp [hrl],hrs _ hrow⟩
    ·simp only;omega
   ·refine ⟨((k+1,v1,rows++[row])),by repeat (first | exact trivial | refine And.intro rfl ?_),by repeat (first | with_reducible exact Same.refl | refine Same.upd rfl ?_ | refine Same.upds rfl ?_ | refine Same.mix rfl ?_),?_,?_⟩
    ·exact ⟨by assumption,Rdr.le (by assumption) (by omega),by omega,by assumption,by simp [hrl],hrs _ hrow⟩
    ·simp only;omega
 ·obtain rfl:k=1+y1:=by omega
  obtain ⟨ub,uc,rfl,_⟩:=hO4.lit (by omega)
  have hub:=hO4.lt_own (k:=ub) rfl
  have hrow:=hrr rows[0] (List.getElem_mem (by omega))
  obtain ⟨brw,crw,hRow,hbw1,hbw2⟩:=hO4.rowAt (i:=0) (by omega) (by omega)
  focus
   have szE4:=E4.size;have szEhr2:=Ehr2.size;have szE2:=E2.size;have szEhr1:=Ehr1.size;have szE0:=E0.size;refine W_seq ?_;refine W_seq ?_;refine W_region rfl ?_;refine Wo rfl (opv_move (v:=.int _ _) rfl) ?_
   refine Wo rfl (opv_move (v:=.int _ _) rfl) ?_;refine Wo rfl (opv_lss rfl rfl) ?_;refine Wo_nil ?_;refine W_cond_dec rfl (fun h1=>?_) (fun h1=>?_);(exfalso;omega);refine W_exit ?_;refine exitX_same ?_;refine W_seq ?_
   refine W_seq ?_;refine W_region rfl ?_;refine Wo rfl (opv_move (v:=.pointer _) rfl) ?_;refine Wo rfl (opv_move (v:=.int _ _) rfl) ?_
   refine Wo_call rfl (opc2 (a:=.pointer _) (b:=.int _ _) Tryd.call57 rfl rfl) (odd_ok _ _ (by assumption) (by omega) (by omega)) ?_;rintro _ w5 ⟨y3,rfl,E5,hr3,hy3⟩;(try dsimp only at hy3);have hlhr3:=hr3.lt
   have Ehr3:=hr3.old;have hG4:=grownBy_trans hG4 E5;have hO4:=hO4.toB.grown E5 (by omega);have hRow:=hRow.grown E5 (by simp [Value.ownBlock];omega);have hs4:=E5.size;refine Wo_nil ?_
   refine W_cond rfl (fun h2=>?_) (fun h2=>?_);refine W_seq ?_;refine W_region rfl ?_;refine Wo rfl (opv_move (v:=.pointer _) rfl) ?_
   refine Wo_call rfl (opc2 (a:=.pointer _) (b:=.int _ _) Tryd.call54 rfl rfl) (pick_ok _ _ (by assumption) (by omega)) ?_;rintro _ w6 ⟨y4,rfl,E6,hr5,hy4⟩;(try dsimp only at hy4);have hlhr5:=hr5.lt;have Ehr5:=hr5.old
   have hG4:=grownBy_trans hG4 E6;have hO4:=hO4.grown E6 (by omega);have hRow:=hRow.grown E6 (by simp [Value.ownBlock];omega);have hs5:=E6.size;refine Wo_nil ?_;refine W_block ?_;refine W_seq ?_;refine W_region rfl ?_
   refine Wo rfl (opv_eql rfl rfl) ?_;refine Wo rfl (opv_assign (v:=.bool _) rfl) ?_;refine Wo_nil ?_;refine W_cond_dec rfl (fun h3=>?_) (fun h3=>?_);refine W_seq ?_;refine W_region rfl ?_
   refine Wo_lit0 (XSl 3 XInt) rfl el49 Tryd.sizeOf80 ?_;rintro b2 w7 hb2 b2lt E7 hO2;have hr5:=hr5.ext E7;have hG4:=grownBy_ext hG4 E7;have hs6:=E7.size;refine Wo rfl (opv_assign (v:=.slice _ _ _) rfl) ?_
   refine Wo_nil ?_;refine W_ret ?_;refine at_ret (v:=.slice _ _ _) rfl ?_;rotate_left;refine W_seq ?_;refine W_region rfl ?_;refine Wo rfl (opv_eql rfl rfl) ?_;refine Wo rfl (opv_assign (v:=.bool _) rfl) ?_
   refine Wo_nil ?_;refine W_cond_dec rfl (fun h4=>?_) (fun h4=>?_);refine W_region rfl ?_;refine Wo rfl (opv_move (v:=.slice _ _ _) rfl) ?_
   refine Wo_rowAt Tryd.underlying49 Tryd.sizeOf80 Tryd.isAgg80 rfl (fun _=>rfl) rfl ⟨_,_,rfl⟩ rfl hRow (by first | omega | (simp <;> omega)) ?_;rintro _
   refine Wo rfl (opv_indexAddr (k:=0) Tryd.underlying80 Tryd.sizeOf3 rfl rfl (by omega)) ?_;refine Wo_gset rfl Tryd.sizeOf3 rfl rfl hO4 hRow (by first | omega | (simp <;> omega)) (by first | omega | (simp <;> omega)) ?_
   rintro w7 hO4 hRow On1 K1 hz1;have E7:=On1.ext1 Ehr5 (by omega);have hr5:=hr5.wrote E7 (K1 _ (by omega)) hz1;have hG4:=grownBy_wrote hG4 Ehr5 E7 K1 hz1 (by first | exact .inr rfl | omega);have hs6:=On1.size
   refine Wo_nil ?_;refine W_seq ?_;refine W_region rfl ?_;refine Wo rfl (opv_move (v:=.slice _ _ _) rfl) ?_;refine Wo rfl (opv_assign (v:=.slice _ _ _) rfl) ?_;refine Wo_nil ?_;refine W_ret ?_
   refine at_ret (v:=.slice _ _ _) rfl ?_;rotate_left;refine W_region rfl ?_;refine Wo rfl (opv_move (v:=.slice _ _ _) rfl) ?_;refine Wo rfl (opv_move (v:=.slice _ _ _) rfl) ?_
   refine Wo_rowAt Tryd.underlying49 Tryd.sizeOf80 Tryd.isAgg80 rfl (fun _=>rfl) rfl ⟨_,_,rfl⟩ rfl hRow (by first | omega | (simp <;> omega)) ?_;rintro _
   refine Wo_buildSlice (ps:=[(0,.int _ _)]) (cs:=[_]) rfl Tryd.underlying80 Tryd.sizeOf3 Tryd.zeroValue3 rfl rfl rfl rfl ?_;rintro b2 w7 hb2 E7 hB1;have hlb2:=hB1.lt;have hr5:=hr5.ext E7;have hG4:=grownBy_ext hG4 E7
   have hs6:=E7.size;rotate_left;refine W_skip ?_;refine W_seq ?_;refine W_region rfl ?_;refine Wo rfl (opv_move (v:=.slice _ _ _) rfl) ?_;refine Wo rfl (opv_assign (v:=.slice _ _ _) rfl) ?_;refine Wo_nil ?_
   refine W_ret ?_;refine at_ret (v:=.slice _ _ _) rfl ?_;rotate_left
  ·exact ⟨by assumption,Rdr.le (by assumption) (by omega),[],Owned.mono (by assumption) (by omega),by simp⟩
  ·refine ⟨by assumption,Rdr.le (by assumption) (by omega),_,by assumption,by simp;omega,fun r hr9=>?_⟩
   rcases List.mem_or_eq_of_mem_set hr9 with h | h
   ·have:=hrr r h;omega
   ·rw [h];simp;omega
  ·have hO7:=hO4.ext (show Ext w6 w7 by assumption)
   have hR7:=hRow.ext (show Ext w6 w7 by assumption)
   obtain ⟨hme,hRO⟩:=hO7.rowOwn hR7 (by omega)
   focus
    have szE7:=E7.size;have szEhr5:=Ehr5.size;have szEhr3:=Ehr3.size;have szE4:=E4.size;have szEhr2:=Ehr2.size;have szE2:=E2.size;have szEhr1:=Ehr1.size;have szE0:=E0.size
    refine Wo_app1 rfl el80 rfl rfl hB1 hRO Owned.int (Nat.le_refl _) (by first | omega | (simp <;> omega)) (by omega) (by omega) (Ehr5.trans E7) (by omega) ?_;have hT1:=hRO;rintro v1 w8 hRO E8 M1
    have hB1:=hB1.moves M1 hT1 (by omega);have hr5:=hr5.moves E8 M1 hT1 (by omega);have hG4:=grownBy_moves hG4 M1 hT1 (by omega);have hs7:=E8.size
    refine Wo rfl (opv_indexAddr (k:=0) Tryd.underlying49 Tryd.sizeOf80 rfl rfl (by omega)) ?_
   obtain ⟨q1,q2,⟨q3,q4⟩,q5⟩:=hO7.rowBack hR7 (by omega) (show Moves w7 (.slice (some ⟨brw,0,none⟩) rows[0].length crw) w8 v1 from M1) hRO (by omega)
   refine Wo_store (w':=w8.setCell ⟨ub,0,none⟩ v1) rfl (ops_store Tryd.sizeOf80 rfl rfl q2 q4 q5) ?_
   have E9:Ext w0 (w8.setCell ⟨ub,0,none⟩ v1):=E8.setCell (by simp only;omega) v1
   have hr9:=hr5.wrote E9 (Hs.heap_setCell_other v1 (show br≠ub by omega)) (size_setCell _ _)
   have hG9:=grownBy_wrote (b:=ub) hG4 E8 E9 (fun k hk=>Hs.heap_setCell_other v1 hk) (size_setCell _ _) (.inl hub.1)
   generalize w8.setCell ⟨ub,0,none⟩ v1=w9 at q1 hr9 hG9 E9
   focus
    have szE9:=E9.size;have szE8:=E8.size;have szE7:=E7.size;have szEhr5:=Ehr5.size;have szEhr3:=Ehr3.size;have szE4:=E4.size;have szEhr2:=Ehr2.size;have szE2:=E2.size;have szEhr1:=Ehr1.size
    have szE0:=E0.size;refine Wo_nil ?_;refine W_seq ?_;refine W_region rfl ?_;refine Wo rfl (opv_move (v:=.slice _ _ _) rfl) ?_;refine Wo rfl (opv_assign (v:=.slice _ _ _) rfl) ?_;refine Wo_nil ?_;refine W_ret ?_
    refine at_ret (v:=.slice _ _ _) rfl ?_
   refine ⟨hG9,hr9.le (by omega),_,q1,by simp;omega,fun r hr'=>?_⟩
   rcases List.mem_or_eq_of_mem_set hr' with h | h
   ·have:=hrr r h;omega
   ·rw [h];simp;omega
  ·refine ⟨by assumption,Rdr.le (by assumption) (by omega),_,OwnedB.o (by assumption),by omega,fun r hr9=>?_⟩
   have:=hrr r hr9;omega
theorem Twin_ok {w0:World} (w:World) {br m:Nat} (n:Int) (hr:Rdr w0 w br m) (hm:m≤10000000) (hn:0≤n∧n≤1000) :
  Does Tryd.prog 77 [.pointer (some ⟨br,0,none⟩),.int .i64 n] w (RetDO w0 w br (m+63) XR (fun p=>p.length≤5∧∀ r ∈ p,r.length≤6)):=by
 refine fn_of_W1 Tryd.func77 rfl Tryd.results77 Tryd.ntmps77 rfl ?_
 have hG:w.grownBy w (some br):=grownBy_refl _ _
 have hlr:=hr.lt
 have hgr:=hr.ge
 have E0:=hr.old
 focus
  have szE0:=E0.size;refine W_seq ?_;refine W_region rfl ?_;refine Wo rfl (opv_assign (v:=.slice _ _ _) rfl) ?_;refine Wo_nil ?_;refine W_seq ?_;refine W_region rfl ?_;refine Wo rfl (opv_move (v:=.pointer _) rfl) ?_
  refine Wo rfl (opv_move (v:=.int _ _) rfl) ?_;refine Wo_call rfl (opc2 (a:=.pointer _) (b:=.int _ _) Tryd.call95 rfl rfl) (Picture_ok _ _ (by assumption) (by omega) (by assumption)) ?_;rintro u1 w1 ⟨E1,hr1,x1,hO1,hy1⟩
  (try dsimp only at hy1);have hlhr1:=hr1.lt;have Ehr1:=hr1.old;have hG:=grownBy_trans hG E1;have hs1:=E1.size;refine Wo rfl (opv_assign (v:=u1) rfl) ?_;refine Wo_nil ?_;refine W_seq ?_;refine W_seq ?_
  refine W_region rfl ?_;refine Wo rfl (opv_move (v:=u1) rfl) ?_
 by_cases hp:Pic x1
 ·have hk : ∀ w u,ESl Ints w u x1→Does Tryd.prog 70 [u] w (Ret w (.bool true)):=fun w u h=>by
   have:=PictureOk_ok w u x1 h
   rw [decide_eq_true hp] at this;exact this
  focus
   have szEhr1:=Ehr1.size;have szE0:=E0.size;refine Wo_call rfl (opc1 (a:=u1) Tryd.call70 rfl) (hk _ _ ((Owned.read hO1))) ?_;rintro _ w2 ⟨rfl,E2⟩;have hr1:=hr1.ext E2;have hG:=grownBy_ext hG E2;have hs2:=E2.size
   refine Wo rfl (opv_move (v:=.bool _) rfl) ?_;refine Wo rfl (opv_move (v:=u1) rfl) ?_;refine Wo rfl (opv_len Tryd.underlying49 rfl (Owned.read hO1)) ?_;refine Wo rfl (opv_gtr rfl rfl) ?_
   refine Wo rfl (opv_pick_t (v:=.bool _) rfl rfl) ?_;refine Wo_split_dec rfl (opv_move (v:=.bool _) rfl) (fun h1=>?_) (fun h1=>?_);refine Wo rfl (opv_move (v:=.pointer _) rfl) ?_
   refine Wo_call rfl (opc2 (a:=.pointer _) (b:=.int _ _) Tryd.call54 rfl rfl) (pick_ok _ _ (by assumption) (by omega)) ?_;rintro _ w3 ⟨y1,rfl,E3,hr2,hy2⟩;(try dsimp only at hy2);have hlhr2:=hr2.lt;have Ehr2:=hr2.old
   have hO1:=(hO1.toB.ext E2).grown E3 (by omega);have hG:=grownBy_trans hG E3;have hs3:=E3.size;refine Wo rfl (opv_eql rfl rfl) ?_;refine Wo rfl (opv_pick_t (v:=.bool _) rfl rfl) ?_;refine Wo_nil ?_
   refine W_cond_dec rfl (fun h2=>?_) (fun h2=>?_);refine W_seq ?_;refine W_region rfl ?_;refine Wo rfl (opv_move (v:=.pointer _) rfl) ?_;refine Wo rfl (opv_move (v:=u1) rfl) ?_
   refine Wo rfl (opv_len Tryd.underlying49 rfl (OwnedB.read hO1)) ?_;refine Wo_call rfl (opc2 (a:=.pointer _) (b:=.int _ _) Tryd.call54 rfl rfl) (pick_ok _ _ (by assumption) (by omega)) ?_;rintro _ w4 ⟨y2,rfl,E4,hr3,hy3⟩
   (try dsimp only at hy3);have hlhr3:=hr3.lt;have Ehr3:=hr3.old;have hO1:=hO1.grown E4 (by omega);have hG:=grownBy_trans hG E4;have hs4:=E4.size;refine Wo rfl (opv_assign (v:=.int _ _) rfl) ?_;refine Wo_nil ?_
   refine W_seq ?_;refine W_region rfl ?_;refine Wo rfl (opv_move (v:=.pointer _) rfl) ?_;refine Wo rfl (opv_move (v:=u1) rfl) ?_;refine Wo rfl (opv_len Tryd.underlying49 rfl (OwnedB.read hO1)) ?_
   refine Wo_call rfl (opc2 (a:=.pointer _) (b:=.int _ _) Tryd.call54 rfl rfl) (pick_ok _ _ (by assumption) (by omega)) ?_;rintro _ w5 ⟨y3,rfl,E5,hr4,hy4⟩;(try dsimp only at hy4);have hlhr4:=hr4.lt;have Ehr4:=hr4.old
   have hO1:=hO1.grown E5 (by omega);have hG:=grownBy_trans hG E5;have hs5:=E5.size;refine Wo rfl (opv_assign (v:=.int _ _) rfl) ?_;refine Wo_nil ?_;refine W_seq ?_;refine W_region rfl ?_
   refine Wo rfl (opv_assign (v:=.int _ _) rfl) ?_;refine Wo_nil ?_;refine W_block ?_;rotate_left;refine W_skip ?_;refine W_seq ?_;refine W_region rfl ?_;refine Wo rfl (opv_move (v:=u1) rfl) ?_
   refine Wo rfl (opv_assign (v:=u1) rfl) ?_;refine Wo_nil ?_;refine W_ret ?_;refine at_ret (v:=u1) rfl ?_;rotate_left;refine Wo_skip rfl ?_;refine Wo_skip rfl ?_;refine Wo_skip rfl ?_
   refine Wo rfl (opv_pick_f (v:=.bool _) rfl rfl) ?_;refine Wo_nil ?_;refine W_cond_false rfl ?_;refine W_skip ?_;refine W_seq ?_;refine W_region rfl ?_;refine Wo rfl (opv_move (v:=u1) rfl) ?_
   refine Wo rfl (opv_assign (v:=u1) rfl) ?_;refine Wo_nil ?_;refine W_ret ?_;refine at_ret (v:=u1) rfl ?_;rotate_left
  ·have hy3':=hy3 (by omega)
   have hy4':=hy4 (by omega)
   have hlen : ∀ r ∈ x1,r.length=x1.length:=fun r hr=>(hp.2.2 r hr).1
   clear hp hk
   refine W_loop [8,32,33,34,35,36,37,38,39,40,41,42,43,44,45,46,47,48,49,50] (fun (j,rows)=>[(8,.int .i64 (j:Nat))]) (fun (j,rows) w'=>w.grownBy w' (some br)∧Rdr w0 w' br (m+63)∧j≤x1.length∧Owned w.heap.size XR w' u1 rows∧rows.length=x1.length∧∀ r ∈ rows,r.length=x1.length) (fun x=>x1.length - x.1) (0,x1) (by repeat (first | exact trivial | refine And.intro rfl ?_)) ?_ ?_
   ·exact ⟨hG,hr4,Nat.zero_le _,hO1.o,rfl,hlen⟩
   rintro ⟨j,rows⟩ ρj w6 ⟨hG6,hr6,hj,hO6,hrl,hrr⟩
   have E6:=hr6.old
   have hg6:=hG6.size
   by_cases hlt:j < x1.length
   ·obtain ⟨ub,uc,rfl,_⟩:=hO6.lit (by omega)
    have hub:=hO6.lt_own (k:=ub) rfl
    have hrb:=hrr rows[y3] (List.getElem_mem (by omega))
    have hra:=hrr rows[y2] (List.getElem_mem (by omega))
    have hset : ∀ r':List Int,r'.length=x1.length→∀ r ∈ rows.set y3 r',r.length=x1.length:=by
     intro r' h9 r hr9
     rcases List.mem_or_eq_of_mem_set hr9 with h | h
     ·exact hrr r h
     ·rw [h];exact h9
    focus
     have szE6:=E6.size;have szEhr4:=Ehr4.size;have szEhr3:=Ehr3.size;have szEhr2:=Ehr2.size;have szE2:=E2.size;have szEhr1:=Ehr1.size;have szE0:=E0.size;refine W_seq ?_;refine W_seq ?_;refine W_region rfl ?_
     refine Wo rfl (opv_move (v:=.int _ _) rfl) ?_;refine Wo rfl (opv_move (v:=.slice _ _ _) rfl) ?_;refine Wo rfl (opv_len Tryd.underlying49 rfl (Owned.read hO6)) ?_;refine Wo rfl (opv_lss rfl rfl) ?_;refine Wo_nil ?_
     refine W_cond_dec rfl (fun h3=>?_) (fun h3=>?_);refine W_skip ?_;refine W_seq ?_;refine W_block ?_;refine W_held (fun _=>True) mixed rfl (by kernel_rfl) ?_;intro w7 E7 K1 hz1;have hG6:=grownBy_ext hG6 E7
     have hr6:=hr6.ext E7;have hs6:=E7.size;refine Wh_take 0 rfl (by kernel_rfl) (by kernel_rfl) rfl (fun _ _=>opv_move (v:=.slice _ _ _) rfl) trivial ?_
     refine Wh_take 1 rfl (by kernel_rfl) (by kernel_rfl) rfl (fun _ _=>opv_move (v:=.int _ _) rfl) trivial ?_
     refine Wh_take 2 rfl (by kernel_rfl) (by kernel_rfl) rfl (fun _ _=>opv_indexAddr Tryd.underlying49 Tryd.sizeOf80 rfl rfl (by omega)) trivial ?_
     refine Wh_take 4 rfl (by kernel_rfl) (by kernel_rfl) rfl (fun _ _=>opv_move (v:=.int _ _) rfl) trivial ?_;refine Wh_take 5 rfl (by kernel_rfl) (by kernel_rfl) rfl (fun _ _=>opv_move (v:=.slice _ _ _) rfl) trivial ?_
     refine Wh_take 6 rfl (by kernel_rfl) (by kernel_rfl) rfl (fun _ _=>opv_move (v:=.int _ _) rfl) trivial ?_
     refine Wh_take 7 rfl (by kernel_rfl) (by kernel_rfl) rfl (fun _ _=>opv_indexAddr Tryd.underlying49 Tryd.sizeOf80 rfl rfl (by omega)) trivial ?_
     refine Wh_take 9 rfl (by kernel_rfl) (by kernel_rfl) rfl (fun _ _=>opv_move (v:=.int _ _) rfl) trivial ?_;refine Wh_all (rs:=[3,8]) (by kernel_rfl) rfl ?_;refine WhAll_cons rfl ?_ ?_;rotate_left
     refine WhAll_cons rfl ?_ ?_;rotate_left;exact WhAll_nil;(exfalso;omega)
    all_goals
     have hO7:=hO6.ext E7
     obtain ⟨bra,cra,hRa,ha1,ha2,ha3,ha4⟩:=rowCell hO7 (i:=y2) (j:=j) (by omega) (by omega)
     obtain ⟨brb,crb,hRb,hb1,hb2,hb3,hb4⟩:=rowCell hO7 (i:=y3) (j:=j) (by omega) (by omega)
    ·focus
      have szE7:=E7.size;have szE6:=E6.size;have szEhr4:=Ehr4.size;have szEhr3:=Ehr3.size;have szEhr2:=Ehr2.size;have szE2:=E2.size;have szEhr1:=Ehr1.size;have szE0:=E0.size
      refine Wo rfl (opv_load Tryd.isAgg80 rfl (by assumption)) ?_;refine Wo_nil ?_;refine ⟨trivial,?_⟩;refine Wh_all (rs:=[8]) (by kernel_rfl) rfl ?_;refine WhAll_cons rfl ?_ ?_
      refine Wo rfl (opv_load Tryd.isAgg80 rfl (by assumption)) ?_;refine Wo_nil ?_;refine ⟨trivial,?_⟩
      refine Wh_take 10 rfl (by kernel_rfl) (by kernel_rfl) rfl (fun _ _=>opv_indexAddr Tryd.underlying80 Tryd.sizeOf3 rfl rfl (by omega)) trivial ?_;refine Wh_all (rs:=[11]) (by kernel_rfl) rfl ?_;refine WhAll_cons rfl ?_ ?_
      refine Wo rfl (opv_load Tryd.isAgg3 rfl (by assumption)) ?_;refine Wo_nil ?_;refine ⟨trivial,?_⟩
      refine Wh_take 12 rfl (by kernel_rfl) (by kernel_rfl) rfl (fun _ _=>opv_indexAddr Tryd.underlying80 Tryd.sizeOf3 rfl rfl (by omega)) trivial ?_;refine Wh_all (rs:=[13]) (by kernel_rfl) rfl ?_;refine WhAll_cons rfl ?_ ?_
      refine Wo_gset rfl Tryd.sizeOf3 rfl rfl (hO6.toB.ext E7) hRb (by first | omega | (simp <;> omega)) (by first | omega | (simp <;> omega)) ?_;rintro w8 hO6 hRb On1 K2 hz2;have E8:=On1.ext1 (E6.trans E7) (by omega)
      have hG6:=grownBy_wrote hG6 (E6.trans E7) E8 K2 hz2 (by first | exact .inr rfl | omega);have hr6:=hr6.wrote E8 (K2 _ (by omega)) hz2;have hs7:=On1.size;refine Wo_nil ?_;refine ⟨trivial,?_⟩
      refine Wh_done (by kernel_rfl) ?_;refine W_region rfl ?_;refine Wo rfl (opv_move (v:=.int _ _) rfl) ?_;refine Wo rfl (opv_add rfl rfl (by omega)) ?_;refine Wo rfl (opv_assign (v:=.int _ _) rfl) ?_;refine Wo_nil ?_
      rotate_left;exact WhAll_nil;exact WhAll_nil;exact WhAll_nil
     refine ⟨((j+1,rows.set y3 (rows[y3].set j rows[y2][j]))),by repeat (first | exact trivial | refine And.intro rfl ?_),by repeat (first | with_reducible exact Same.refl | refine Same.upd rfl ?_ | refine Same.upds rfl ?_ | refine Same.mix rfl ?_),?_,?_⟩
     ·exact ⟨hG6,hr6,by omega,hO6,by simp [hrl],hset _ (by simp [hrb])⟩
     ·simp only;omega
    ·focus
      have szE7:=E7.size;have szE6:=E6.size;have szEhr4:=Ehr4.size;have szEhr3:=Ehr3.size;have szEhr2:=Ehr2.size;have szE2:=E2.size;have szEhr1:=Ehr1.size;have szE0:=E0.size
      refine Wo rfl (opv_load Tryd.isAgg80 rfl (by assumption)) ?_;refine Wo_nil ?_;refine ⟨trivial,?_⟩
      refine Wh_take 10 rfl (by kernel_rfl) (by kernel_rfl) rfl (fun _ _=>opv_indexAddr Tryd.underlying80 Tryd.sizeOf3 rfl rfl (by omega)) trivial ?_;refine Wh_all (rs:=[3,11]) (by kernel_rfl) rfl ?_;refine WhAll_cons rfl ?_ ?_
      refine Wo rfl (opv_load Tryd.isAgg80 rfl (by assumption)) ?_;refine Wo_nil ?_;refine ⟨trivial,?_⟩;refine Wh_all (rs:=[11]) (by kernel_rfl) rfl ?_;refine WhAll_cons rfl ?_ ?_
      refine Wo rfl (opv_load Tryd.isAgg3 rfl (by assumption)) ?_;refine Wo_nil ?_;refine ⟨trivial,?_⟩
      refine Wh_take 12 rfl (by kernel_rfl) (by kernel_rfl) rfl (fun _ _=>opv_indexAddr Tryd.underlying80 Tryd.sizeOf3 rfl rfl (by omega)) trivial ?_;refine Wh_all (rs:=[13]) (by kernel_rfl) rfl ?_;refine WhAll_cons rfl ?_ ?_
      refine Wo_gset rfl Tryd.sizeOf3 rfl rfl (hO6.toB.ext E7) hRb (by first | omega | (simp <;> omega)) (by first | omega | (simp <;> omega)) ?_;rintro w8 hO6 hRb On1 K2 hz2;have E8:=On1.ext1 (E6.trans E7) (by omega)
      have hG6:=grownBy_wrote hG6 (E6.trans E7) E8 K2 hz2 (by first | exact .inr rfl | omega);have hr6:=hr6.wrote E8 (K2 _ (by omega)) hz2;have hs7:=On1.size;refine Wo_nil ?_;refine ⟨trivial,?_⟩
      refine Wh_done (by kernel_rfl) ?_;refine W_region rfl ?_;refine Wo rfl (opv_move (v:=.int _ _) rfl) ?_;refine Wo rfl (opv_add rfl rfl (by omega)) ?_;refine Wo rfl (opv_assign (v:=.int _ _) rfl) ?_;refine Wo_nil ?_
      rotate_left;exact WhAll_nil;exact WhAll_nil;refine WhAll_cons rfl ?_ ?_;refine Wo rfl (opv_load Tryd.isAgg3 rfl (by assumption)) ?_;refine Wo_nil ?_;refine ⟨trivial,?_⟩;refine Wh_all (rs:=[3]) (by kernel_rfl) rfl ?_
      refine WhAll_cons rfl ?_ ?_;refine Wo rfl (opv_load Tryd.isAgg80 rfl (by assumption)) ?_;refine Wo_nil ?_;refine ⟨trivial,?_⟩
      refine Wh_take 12 rfl (by kernel_rfl) (by kernel_rfl) rfl (fun _ _=>opv_indexAddr Tryd.underlying80 Tryd.sizeOf3 rfl rfl (by omega)) trivial ?_;refine Wh_all (rs:=[13]) (by kernel_rfl) rfl ?_;refine WhAll_cons rfl ?_ ?_
      refine Wo_gset rfl Tryd.sizeOf3 rfl rfl (hO6.toB.ext E7) hRb (by first | omega | (simp <;> omega)) (by first | omega | (simp <;> omega)) ?_;rintro w8 hO6 hRb On1 K2 hz2;have E8:=On1.ext1 (E6.trans E7) (by omega)
      have hG6:=grownBy_wrote hG6 (E6.trans E7) E8 K2 hz2 (by first | exact .inr rfl | omega);have hr6:=hr6.wrote E8 (K2 _ (by omega)) hz2;have hs7:=On1.size;refine Wo_nil ?_;refine ⟨trivial,?_⟩
      refine Wh_done (by kernel_rfl) ?_;refine W_region rfl ?_;refine Wo rfl (opv_move (v:=.int _ _) rfl) ?_;refine Wo rfl (opv_add rfl rfl (by omega)) ?_;refine Wo rfl (opv_assign (v:=.int _ _) rfl) ?_;refine Wo_nil ?_
      rotate_left;exact WhAll_nil;exact WhAll_nil;exact WhAll_nil
     ·refine ⟨((j+1,rows.set y3 (rows[y3].set j rows[y2][j]))),by repeat (first | exact trivial | refine And.intro rfl ?_),by repeat (first | with_reducible exact Same.refl | refine Same.upd rfl ?_ | refine Same.upds rfl ?_ | refine Same.mix rfl ?_),?_,?_⟩
      ·exact ⟨hG6,hr6,by omega,hO6,by simp [hrl],hset _ (by simp [hrb])⟩
      ·simp only;omega
     ·refine ⟨((j+1,rows.set y3 (rows[y3].set j rows[y2][j]))),by repeat (first | exact trivial | refine And.intro rfl ?_),by repeat (first | with_reducible exact Same.refl | refine Same.upd rfl ?_ | refine Same.upds rfl ?_ | refine Same.mix rfl ?_),?_,?_⟩
      ·exact ⟨hG6,hr6,by omega,hO6,by simp [hrl],hset _ (by simp [hrb])⟩
      ·simp only;omega
   ·obtain rfl:j=x1.length:=by omega
    focus
     have szE6:=E6.size;have szEhr4:=Ehr4.size;have szEhr3:=Ehr3.size;have szEhr2:=Ehr2.size;have szE2:=E2.size;have szEhr1:=Ehr1.size;have szE0:=E0.size;refine W_seq ?_;refine W_seq ?_;refine W_region rfl ?_
     refine Wo rfl (opv_move (v:=.int _ _) rfl) ?_;refine Wo rfl (opv_move (v:=u1) rfl) ?_;refine Wo rfl (opv_len Tryd.underlying49 rfl (Owned.read hO6)) ?_;refine Wo rfl (opv_lss rfl rfl) ?_;refine Wo_nil ?_
     refine W_cond_dec rfl (fun h3=>?_) (fun h3=>?_);(exfalso;omega);refine W_exit ?_;refine exitX_same ?_;refine W_seq ?_;refine W_region rfl ?_;refine Wo rfl (opv_move (v:=u1) rfl) ?_
     refine Wo rfl (opv_assign (v:=u1) rfl) ?_;refine Wo_nil ?_;refine W_ret ?_;refine at_ret (v:=u1) rfl ?_
    exact ⟨hG6,hr6,_,hO6,by omega,fun r h=>by have:=hrr r h;omega⟩
  ·exact ⟨hG,hr2.le (by omega),_,hO1.o,hy1⟩
  ·exact ⟨hG,hr1.le (by omega),_,hO1.ext E2,hy1⟩
 ·have hk : ∀ w u,ESl Ints w u x1→Does Tryd.prog 70 [u] w (Ret w (.bool false)):=fun w u h=>by
   have:=PictureOk_ok w u x1 h
   rw [decide_eq_false hp] at this;exact this
  focus
   have szEhr1:=Ehr1.size;have szE0:=E0.size;refine Wo_call rfl (opc1 (a:=u1) Tryd.call70 rfl) (hk _ _ ((Owned.read hO1))) ?_;rintro _ w2 ⟨rfl,E2⟩;have hr1:=hr1.ext E2;have hG:=grownBy_ext hG E2;have hs2:=E2.size
   refine Wo rfl (opv_move (v:=.bool _) rfl) ?_;refine Wo_skip rfl ?_;refine Wo_skip rfl ?_;refine Wo_skip rfl ?_;refine Wo rfl (opv_pick_f (v:=.bool _) rfl rfl) ?_;refine Wo rfl (opv_move (v:=.bool _) rfl) ?_
   refine Wo_skip rfl ?_;refine Wo_skip rfl ?_;refine Wo_skip rfl ?_;refine Wo rfl (opv_pick_f (v:=.bool _) rfl rfl) ?_;refine Wo_nil ?_;refine W_cond_false rfl ?_;refine W_skip ?_;refine W_seq ?_;refine W_region rfl ?_
   refine Wo rfl (opv_move (v:=u1) rfl) ?_;refine Wo rfl (opv_assign (v:=u1) rfl) ?_;refine Wo_nil ?_;refine W_ret ?_;refine at_ret (v:=u1) rfl ?_
  exact ⟨hG,hr1.le (by omega),_,hO1.ext E2,hy1⟩
end Go.Proofs.YtgphoihilheoeaaDoor
set_option linter.unusedVariables false
set_option linter.unusedSimpArgs false
namespace Go.Hs
/-- a deed drawn -/
def RetDD (w0 w:World) (br m:Nat) (p:Deed→Prop):Value→World→Prop:=fun v w'=>∃ k t n,v=.agg #[.int .i64 k,str t,.int .i64 n]∧w.grownBy w' (some br)∧Rdr w0 w' br m∧p ⟨k,t,n⟩
/-- a desk drawn -/
def RetDK (w0 w:World) (br m:Nat) (p:Dsk→Prop):Value→World→Prop:=fun v w'=>∃ u1 u2 now past,v=.agg #[u1,u2]∧w.grownBy w' (some br)∧Rdr w0 w' br m∧Above w.heap.size (ESl Ints) w' u1 now∧Above w.heap.size (ESl (ESl Ints)) w' u2 past∧isCell u1=true∧isCell u2=true∧w.heap.size < w'.heap.size∧p ⟨now,past⟩
/-- It reads, by these blocks alone: as if they were its own. -/
def XRd {α : Type} (E:World→Value→α→Prop):World→List Nat→Value→α→Prop:=fun w fp v x=>(∀ w1,(∀ k ∈ fp,w1.heap[k]? = w.heap[k]?)→E w1 v x)∧isCell v=true∧∀ k ∈ fp,k < w.heap.size
instance loc_XRd {α : Type} {E:World→Value→α→Prop} : Loc (XRd E):=⟨fun {w w' fp v x} hk h=>⟨fun w1 h1=>h.1 w1 fun k hm=>(h1 k hm).trans (hk k hm),h.2.1,fun k hm=>by
  have h1:=hk k hm
  have h2:=h.2.2 k hm
  rw [Array.getElem?_eq_getElem h2] at h1
  exact (Array.getElem?_eq_some_iff.1 h1).1⟩,fun h=>h.2.2,fun h=>h.2.1⟩
instance shows_XRd {α : Type} {E:World→Value→α→Prop} : Shows (XRd E) E:=⟨fun h=>h.1 _ fun _ _=>rfl⟩
theorem Above.xrd {α : Type} {E:World→Value→α→Prop} {w:World} {v:Value} {x : α} {lo:Nat} (h:Above lo E w v x) (hl:lo < w.heap.size) (hc:isCell v=true):OwnedB lo w.heap.size (XRd E) w v x:=by
 refine ⟨List.range' lo (w.heap.size - lo),List.nodup_range',fun k hk=>?_,fun w1 h1=>?_,hc,fun k hk=>?_⟩
 ·have:=List.mem_range'_1.1 hk;omega
 ·refine h w1 (fun k h2 h3=>h1 k (List.mem_range'_1.2 (by omega))) ?_
  have h2:=h1 (w.heap.size - 1) (List.mem_range'_1.2 (by omega))
  rw [Array.getElem?_eq_getElem (show w.heap.size - 1 < w.heap.size by omega)] at h2
  have:=(Array.getElem?_eq_some_iff.1 h2).1
  omega
 ·have:=List.mem_range'_1.1 hk;omega
theorem OwnedB.rd {α : Type} {X:World→List Nat→Value→α→Prop} {E:World→Value→α→Prop} [Loc X] [Shows X E] {w:World} {v:Value} {x : α} {lo hi:Nat} (h:OwnedB lo hi X w v x):OwnedB lo hi (XRd E) w v x:=by
 obtain ⟨fp,h1,h2,h3⟩:=h
 exact ⟨fp,h1,h2,fun w1 hk=>Shows.shows (Loc.loc hk h3),Loc.cell h3,Loc.lt h3⟩
/-- A desk and an answer, told by new blocks alone, as if owned. -/
def RetDkRB (w:World) (now:List (List Int)) (past:List (List (List Int))) (b:Bool):Value→World→Prop:=fun v w'=>∃ u1 u2,v=.tuple #[.agg #[u1,u2],.bool b]∧Ext w w'∧OwnedB w.heap.size w'.heap.size (XRd (ESl Ints)) w' u1 now∧OwnedB w.heap.size w'.heap.size (XRd (ESl (ESl Ints))) w' u2 past∧isCell u1=true∧isCell u2=true∧w.heap.size < w'.heap.size
theorem RetDkAB.r {w w':World} {now:List (List Int)} {past:List (List (List Int))} {b:Bool} {v:Value} (h:RetDkAB w now past b v w'):RetDkRB w now past b v w':=by
 obtain ⟨u1,u2,rfl,h1,h2,h3,h4,h5,h6⟩:=h
 exact ⟨u1,u2,rfl,h1,h2.xrd h6 h4,h3.xrd h6 h5,h4,h5,h6⟩
/-- a table of small numbers -/
def Nums:List Value→Prop
 | []=>True
 | v::cs=>(∃ z:Int,v=.int .i64 z∧(0≤z∧z≤9))∧Nums cs
theorem Nums.at : ∀ {cs:List Value} {i:Nat},Nums cs→i < cs.length→∃ z:Int,cs[i]? = some (.int .i64 z)∧(0≤z∧z≤9)
 | [],_,_,h=>by simp at h
 | v :: cs, 0, h, _ => by
   obtain ⟨z, rfl, h2⟩ := h.1
   exact ⟨z, rfl, h2⟩
 | v :: cs, i + 1, h, hi => by
   obtain ⟨z, h1, h2⟩ := Nums.at h.2 (i := i) (by simpa using hi)
   exact ⟨z, by simpa using h1, h2⟩
section
variable {P:Program} {n d i b:Nat} {N:Env→World→Prop} {ρ : Env} {w:World} {all:Array Oper} {rest:List Oper} {tl ty:TypeId} {pos:String} {after:Array Edge} {g:Option (Nat × Bool)} {x:Operand} {cs:List Value}
theorem Wo_tblI (hta : ∀ w,(isAgg tl).run P w=.ok false w) (hw:wantedE all ⟨some d,.load tl x,ty,pos,after,g⟩ ρ = true) (hx:evalE ρ x=.pointer (some ⟨b,i,none⟩))
  (hB:Blk w b cs) (hT:Nums cs) (hi:i < cs.length) (hk : ∀ z:Int,0≤z∧z≤9→Wops P n all rest N (upd ρ d (.int .i64 z)) w) :
  Wops P n all (⟨some d,.load tl x,ty,pos,after,g⟩::rest) N ρ w:=by
 obtain ⟨z,h1,h2⟩:=hT.at hi
 exact Wo hw (opv_load hta hx (hB.cell h1)) (hk z h2)
end
section
variable {α : Type} {E:World→Value→α→Prop} {P:Program} {n d b o k len cap:Nat} {N:Env→World→Prop} {ρ : Env} {w:World} {all:Array Oper} {rest:List Oper} {tl ty:TypeId} {pos:String} {after:Array Edge} {g:Option (Nat × Bool)} {x:Operand} {xs:List α}
/-- an element, its address at hand -/
theorem Wo_ldAt (hta : ∀ w,(isAgg tl).run P w=.ok false w) (hw:wantedE all ⟨some d,.load tl x,ty,pos,after,g⟩ ρ = true) (hx:evalE ρ x=.pointer (some ⟨b,o+k,none⟩))
  (h:ESl E w (.slice (some ⟨b,o,none⟩) len cap) xs) (hk:k < xs.length) (hn : ∀ u,E w u xs[k]→Wops P n all rest N (upd ρ d u) w) :
  Wops P n all (⟨some d,.load tl x,ty,pos,after,g⟩::rest) N ρ w:=by
 obtain ⟨a,c1,e1,hle,hr⟩:=h
 injection e1 with e1 e2 e3
 subst e1
 rcases hr with rfl | ⟨b',o',e4,hr⟩
 ·cases hk
 ·injection e4 with e4
  injection e4 with e4 e5 _
  subst e4 e5
  obtain ⟨u,h1,h2⟩:=hr k hk
  exact Wo hw (opv_load hta hx h1) (hn u h2)
end
/-- what is drawn as a desk's set -/
def NowP (p:List (List Int)):Prop:=p=[]∨Gr p
/-- what is drawn as a deed -/
def DrP (a:Deed):Prop:=0≤a.kind∧a.kind≤20∧a.text.length≤1000∧0≤a.node∧a.node≤11
end Go.Hs
