/- Lemmas for FnReadDeed. -/
import Derived.Test.YtgphoihilheoeaaDoorMFnReadDeed5
namespace Go.Proofs.YtgphoihilheoeaaDoor
open Go.Hs
set_option maxRecDepth 10000
set_option maxHeartbeats 4000000
set_option linter.unusedVariables false
set_option linter.unusedSimpArgs false
open Classical in
theorem Deed_ok {w0:World} (w:World) {br m lo:Nat} (u1 u2:Value) (p:List (List Int)) (hr:Rdr w0 w br m) (hm:m≤10000000) (hA:Above lo (ESl Ints) w u1 p) (hlo:br < lo) (hlo2:lo < w.heap.size) (i2:isCell u2=true) (hp:NowP p) :
  Does Tryd.prog 51 [.pointer (some ⟨br,0,none⟩),.agg #[u1,u2]] w (RetDD w0 w br (m+10) DrP):=by
 have i1:isCell u1=true:=ESl_isC hA.here
 have hle:=hA.here.le
 have hO:=hA.xrd hlo2 i1
 clear hA
 refine fn_of_Wc3 Tryd.func51 rfl Tryd.results51 Tryd.ntmps51 rfl Tryd.isAgg26 Tryd.sizeOf26 ?_
 have hG:w.grownBy w (some br):=grownBy_refl _ _
 have hlr:=hr.lt
 have hgr:=hr.ge
 have E0:=hr.old
 have stop1:True:=trivial
 focus
  have szE0:=E0.size;refine W_seq ?_;refine W_region rfl ?_;refine Wo_box rfl rfl rfl ?_;rintro b1 w1 hb1 E1 hB1;have hlb1:=hB1.lt;have hr:=hr.ext E1;have hG:=grownBy_ext hG E1;have hs1:=E1.size
  refine Wo_allocN rfl flat26 ?_;rintro b2 w2 hb2 E2 hB2;have hlb2:=hB2.lt;have hr:=hr.ext E2;have hG:=grownBy_ext hG E2;have hs2:=E2.size;refine Wo_nil ?_;refine W_seq ?_
 clear stop1
 refine W_mid [5,7,8,9,10,11,12,13,14,15,16,17] (fun ((b,k):Nat × Int)=>[(5,.pointer (some ⟨b,0,none⟩))]) (fun (b,k) w'=>w.grownBy w' (some br)∧Rdr w0 w' br (m+2)∧w2.heap.size≤b∧b < w'.heap.size∧Blk w' b1 [u1,u2]∧Blk w' b2 [.int .i64 0,str [],.int .i64 0]∧Blk w' b [.int .i64 k,str [],.int .i64 0]∧OwnedB lo w.heap.size (XRd (ESl Ints)) w' u1 p∧0≤k∧k≤20) ?_ ?_
 ·focus
   have szE2:=E2.size;have szE1:=E1.size;have szE0:=E0.size;refine W_held (fun _=>True) mixed rfl (by kernel_rfl) ?_;intro w3 E3 K1 hz1;have hr:=hr.ext E3;have hG:=grownBy_ext hG E3;have hs3:=E3.size
   refine Wh_take 1 rfl (by kernel_rfl) (by kernel_rfl) rfl (fun _ _=>opv_move (v:=.pointer _) rfl) trivial ?_;refine Wh_take 5 rfl (by kernel_rfl) (by kernel_rfl) rfl (fun _ _=>opv_move (v:=.pointer _) rfl) trivial ?_
   refine Wh_all (rs:=[0,2,11]) (by kernel_rfl) rfl ?_;refine WhAll_cons rfl ?_ ?_
   refine Wo_buildSliceH (ps:=[(0,.int _ _),(1,.int _ _),(2,.int _ _),(3,.int _ _),(4,.int _ _),(5,.int _ _),(6,.int _ _),(7,.int _ _)]) (cs:=[_,_,_,_,_,_,_,_]) rfl Tryd.underlying80 Tryd.sizeOf3 Tryd.zeroValue3 rfl rfl rfl rfl ?_
   rintro b3 w4 hb3 E4 hB3 hHb3;have hlb3:=hB3.lt;have hr:=hr.ext E4;have hG:=grownBy_ext hG E4;have hs4:=E4.size;refine Wo_nil ?_;refine ⟨trivial,?_⟩;refine Wh_all (rs:=[2,11]) (by kernel_rfl) rfl ?_
   refine WhAll_cons rfl ?_ ?_;refine Wo_call rfl (opc2 (a:=.pointer _) (b:=.int _ _) Tryd.call54 rfl rfl) (pick_ok _ _ (by assumption) (by omega)) ?_;rintro _ w5 ⟨y1,rfl,E5,hr1,hy1⟩;(try dsimp only at hy1)
   have hlhr1:=hr1.lt;have Ehr1:=hr1.old;have hO:=(hO.ext (((E1.trans E2).trans E3).trans E4)).grown E5 (by omega);have hB1:=(hB1.ext ((E2.trans E3).trans E4)).grown E5 (by simp only [ne_eq,Option.some.injEq];omega)
   have hB2:=(hB2.ext (E3.trans E4)).grown E5 (by simp only [ne_eq,Option.some.injEq];omega);have hB3:=hB3.grown E5 (by simp only [ne_eq,Option.some.injEq];omega);have hG:=grownBy_trans hG E5;have hs5:=E5.size
   refine Wo_nil ?_;refine ⟨trivial,?_⟩;refine Wh_take 3 rfl (by kernel_rfl) (by kernel_rfl) rfl (fun _ _=>opv_indexAddr Tryd.underlying80 Tryd.sizeOf3 rfl rfl (by omega)) trivial ?_
   refine Wh_all (rs:=[4,6,11]) (by kernel_rfl) rfl ?_;refine WhAll_cons rfl ?_ ?_
   refine Wo_tblI Tryd.isAgg3 rfl rfl hB3 (by repeat (first | exact trivial | refine And.intro ⟨_,rfl,by decide⟩ ?_)) (by simp only [List.length_cons,List.length_nil];omega) ?_;intro z1 hz1;refine Wo_nil ?_;refine ⟨trivial,?_⟩
   refine Wh_all (rs:=[6,11]) (by kernel_rfl) rfl ?_;refine WhAll_cons rfl ?_ ?_;refine Wo_call rfl (opc2 (a:=.pointer _) (b:=.int _ _) Tryd.call54 rfl rfl) (pick_ok _ _ (by assumption) (by omega)) ?_
   rintro _ w6 ⟨y2,rfl,E6,hr2,hy2⟩;(try dsimp only at hy2);have hlhr2:=hr2.lt;have Ehr2:=hr2.old;have hO:=hO.grown E6 (by omega);have hB1:=hB1.grown E6 (by simp only [ne_eq,Option.some.injEq];omega)
   have hB2:=hB2.grown E6 (by simp only [ne_eq,Option.some.injEq];omega);have hB3:=hB3.grown E6 (by simp only [ne_eq,Option.some.injEq];omega);have hG:=grownBy_trans hG E6;have hs6:=E6.size;refine Wo_nil ?_
   refine ⟨trivial,?_⟩;refine Wh_take 7 rfl (by kernel_rfl) (by kernel_rfl) rfl (fun _ _=>opv_quo rfl rfl (by omega)) trivial ?_
   refine Wh_take 8 rfl (by kernel_rfl) (by kernel_rfl) rfl (fun _ _=>opv_mul rfl rfl (by omega)) trivial ?_;refine Wh_take 9 rfl (by kernel_rfl) (by kernel_rfl) rfl (fun _ _=>opv_add rfl rfl (by omega)) trivial ?_
   refine Wh_take 10 rfl (by kernel_rfl) (by kernel_rfl) rfl (fun _ _=>opv_build (ps:=[(0,.int _ _)]) (cs:=[_,_,_]) flat26 rfl rfl) trivial ?_;refine Wh_all (rs:=[11]) (by kernel_rfl) rfl ?_;refine WhAll_cons rfl ?_ ?_
   refine Wo_allocN rfl flat26 ?_;rintro b4 w7 hb4 E7 hB4;have hlb4:=hB4.lt;have hr2:=hr2.ext E7;have hG:=grownBy_ext hG E7;have hs7:=E7.size;refine Wo_nil ?_;refine ⟨trivial,?_⟩
   refine Wh_all (rs:=[12]) (by kernel_rfl) rfl ?_;refine WhAll_cons rfl ?_ ?_
   refine Wo_st3 rfl Tryd.sizeOf26 rfl rfl (by first | rfl | assumption) (by first | rfl | assumption) (by first | rfl | assumption) hB4 (by omega) (Ehr2.trans E7) ?_;rintro w8 E8 hB4 K2 hz2
   have E9:=E7.wroteAt (Ehr2.trans E7) E8 K2 hz2 (by omega);have szE9:=E9.size;have hO:=(hO.ext E7).wrote K2 (by omega);have hB1:=(hB1.ext E7).of_heap (K2 _ (by omega));have hB2:=(hB2.ext E7).of_heap (K2 _ (by omega))
   have hB3:=(hB3.ext E7).of_heap (K2 _ (by omega));have hr2:=hr2.wrote E8 (K2 _ (by omega)) hz2;have hG:=grownBy_wrote hG (Ehr2.trans E7) E8 K2 hz2 (by first | exact .inr rfl | omega);refine Wo_nil ?_;refine ⟨trivial,?_⟩
   refine Wh_done (by kernel_rfl) ?_;rotate_left;exact WhAll_nil;exact WhAll_nil;refine WhAll_cons rfl ?_ ?_;refine Wo_allocN rfl flat26 ?_;rintro b4 w6 hb4 E6 hB4;have hlb4:=hB4.lt;have hr1:=hr1.ext E6
   have hG:=grownBy_ext hG E6;have hs6:=E6.size;refine Wo_nil ?_;refine ⟨trivial,?_⟩;refine Wh_all (rs:=[6]) (by kernel_rfl) rfl ?_;refine WhAll_cons rfl ?_ ?_
   refine Wo_call rfl (opc2 (a:=.pointer _) (b:=.int _ _) Tryd.call54 rfl rfl) (pick_ok _ _ (by assumption) (by omega)) ?_;rintro _ w7 ⟨y2,rfl,E7,hr2,hy2⟩;(try dsimp only at hy2);have hlhr2:=hr2.lt;have Ehr2:=hr2.old
   have hO:=(hO.ext E6).grown E7 (by omega);have hB1:=(hB1.ext E6).grown E7 (by simp only [ne_eq,Option.some.injEq];omega);have hB2:=(hB2.ext E6).grown E7 (by simp only [ne_eq,Option.some.injEq];omega)
   have hB3:=(hB3.ext E6).grown E7 (by simp only [ne_eq,Option.some.injEq];omega);have hB4:=hB4.grown E7 (by simp only [ne_eq,Option.some.injEq];omega);have hG:=grownBy_trans hG E7;have hs7:=E7.size;refine Wo_nil ?_
   refine ⟨trivial,?_⟩;refine Wh_take 7 rfl (by kernel_rfl) (by kernel_rfl) rfl (fun _ _=>opv_quo rfl rfl (by omega)) trivial ?_
   refine Wh_take 8 rfl (by kernel_rfl) (by kernel_rfl) rfl (fun _ _=>opv_mul rfl rfl (by omega)) trivial ?_;refine Wh_take 9 rfl (by kernel_rfl) (by kernel_rfl) rfl (fun _ _=>opv_add rfl rfl (by omega)) trivial ?_
   refine Wh_take 10 rfl (by kernel_rfl) (by kernel_rfl) rfl (fun _ _=>opv_build (ps:=[(0,.int _ _)]) (cs:=[_,_,_]) flat26 rfl rfl) trivial ?_;refine Wh_all (rs:=[12]) (by kernel_rfl) rfl ?_;refine WhAll_cons rfl ?_ ?_
   refine Wo_st3 rfl Tryd.sizeOf26 rfl rfl (by first | rfl | assumption) (by first | rfl | assumption) (by first | rfl | assumption) hB4 (by omega) Ehr2 ?_;rintro w8 E8 hB4 K2 hz2;have hr2:=hr2.wrote E8 (K2 _ (by omega)) hz2
   have hO:=hO.wrote K2 (by omega);have hB1:=hB1.of_heap (K2 _ (by omega));have hB2:=hB2.of_heap (K2 _ (by omega));have hB3:=hB3.of_heap (K2 _ (by omega))
   have hG:=grownBy_wrote hG Ehr2 E8 K2 hz2 (by first | exact .inr rfl | omega);refine Wo_nil ?_;refine ⟨trivial,?_⟩;refine Wh_done (by kernel_rfl) ?_;rotate_left;exact WhAll_nil;exact WhAll_nil;exact WhAll_nil
   refine WhAll_cons rfl ?_ ?_;refine Wo_call rfl (opc2 (a:=.pointer _) (b:=.int _ _) Tryd.call54 rfl rfl) (pick_ok _ _ (by assumption) (by omega)) ?_;rintro _ w6 ⟨y2,rfl,E6,hr2,hy2⟩;(try dsimp only at hy2)
   have hlhr2:=hr2.lt;have Ehr2:=hr2.old;have hO:=hO.grown E6 (by omega);have hB1:=hB1.grown E6 (by simp only [ne_eq,Option.some.injEq];omega);have hB2:=hB2.grown E6 (by simp only [ne_eq,Option.some.injEq];omega)
   have hB3:=hB3.grown E6 (by simp only [ne_eq,Option.some.injEq];omega);have hG:=grownBy_trans hG E6;have hs6:=E6.size;refine Wo_nil ?_;refine ⟨trivial,?_⟩
   refine Wh_take 7 rfl (by kernel_rfl) (by kernel_rfl) rfl (fun _ _=>opv_quo rfl rfl (by omega)) trivial ?_;refine Wh_take 8 rfl (by kernel_rfl) (by kernel_rfl) rfl (fun _ _=>opv_mul rfl rfl (by omega)) trivial ?_
   refine Wh_all (rs:=[4,11]) (by kernel_rfl) rfl ?_;refine WhAll_cons rfl ?_ ?_
   refine Wo_tblI Tryd.isAgg3 rfl rfl hB3 (by repeat (first | exact trivial | refine And.intro ⟨_,rfl,by decide⟩ ?_)) (by simp only [List.length_cons,List.length_nil];omega) ?_;intro z1 hz1;refine Wo_nil ?_;refine ⟨trivial,?_⟩
   refine Wh_take 9 rfl (by kernel_rfl) (by kernel_rfl) rfl (fun _ _=>opv_add rfl rfl (by omega)) trivial ?_
   refine Wh_take 10 rfl (by kernel_rfl) (by kernel_rfl) rfl (fun _ _=>opv_build (ps:=[(0,.int _ _)]) (cs:=[_,_,_]) flat26 rfl rfl) trivial ?_;refine Wh_all (rs:=[11]) (by kernel_rfl) rfl ?_;refine WhAll_cons rfl ?_ ?_
   refine Wo_allocN rfl flat26 ?_;rintro b4 w7 hb4 E7 hB4;have hlb4:=hB4.lt;have hr2:=hr2.ext E7;have hG:=grownBy_ext hG E7;have hs7:=E7.size;refine Wo_nil ?_;refine ⟨trivial,?_⟩
   refine Wh_all (rs:=[12]) (by kernel_rfl) rfl ?_;refine WhAll_cons rfl ?_ ?_
   refine Wo_st3 rfl Tryd.sizeOf26 rfl rfl (by first | rfl | assumption) (by first | rfl | assumption) (by first | rfl | assumption) hB4 (by omega) (Ehr2.trans E7) ?_;rintro w8 E8 hB4 K2 hz2
   have E9:=E7.wroteAt (Ehr2.trans E7) E8 K2 hz2 (by omega);have szE9:=E9.size;have hO:=(hO.ext E7).wrote K2 (by omega);have hB1:=(hB1.ext E7).of_heap (K2 _ (by omega));have hB2:=(hB2.ext E7).of_heap (K2 _ (by omega))
   have hB3:=(hB3.ext E7).of_heap (K2 _ (by omega));have hr2:=hr2.wrote E8 (K2 _ (by omega)) hz2;have hG:=grownBy_wrote hG (Ehr2.trans E7) E8 K2 hz2 (by first | exact .inr rfl | omega);refine Wo_nil ?_;refine ⟨trivial,?_⟩
   refine Wh_done (by kernel_rfl) ?_;rotate_left;exact WhAll_nil;exact WhAll_nil;refine WhAll_cons rfl ?_ ?_;refine Wo_allocN rfl flat26 ?_;rintro b4 w7 hb4 E7 hB4;have hlb4:=hB4.lt;have hr2:=hr2.ext E7
   have hG:=grownBy_ext hG E7;have hs7:=E7.size;refine Wo_nil ?_;refine ⟨trivial,?_⟩;refine Wh_all (rs:=[4]) (by kernel_rfl) rfl ?_;refine WhAll_cons rfl ?_ ?_
   refine Wo_tblI Tryd.isAgg3 rfl rfl (hB3.ext E7) (by repeat (first | exact trivial | refine And.intro ⟨_,rfl,by decide⟩ ?_)) (by simp only [List.length_cons,List.length_nil];omega) ?_;intro z1 hz1;refine Wo_nil ?_
   refine ⟨trivial,?_⟩;refine Wh_take 9 rfl (by kernel_rfl) (by kernel_rfl) rfl (fun _ _=>opv_add rfl rfl (by omega)) trivial ?_
   refine Wh_take 10 rfl (by kernel_rfl) (by kernel_rfl) rfl (fun _ _=>opv_build (ps:=[(0,.int _ _)]) (cs:=[_,_,_]) flat26 rfl rfl) trivial ?_;refine Wh_all (rs:=[12]) (by kernel_rfl) rfl ?_;refine WhAll_cons rfl ?_ ?_
   refine Wo_st3 rfl Tryd.sizeOf26 rfl rfl (by first | rfl | assumption) (by first | rfl | assumption) (by first | rfl | assumption) hB4 (by omega) (Ehr2.trans E7) ?_;rintro w8 E8 hB4 K2 hz2
   have E9:=E7.wroteAt (Ehr2.trans E7) E8 K2 hz2 (by omega);have szE9:=E9.size;have hO:=(hO.ext E7).wrote K2 (by omega);have hB1:=(hB1.ext E7).of_heap (K2 _ (by omega));have hB2:=(hB2.ext E7).of_heap (K2 _ (by omega))
   have hB3:=(hB3.ext E7).of_heap (K2 _ (by omega));have hr2:=hr2.wrote E8 (K2 _ (by omega)) hz2;have hG:=grownBy_wrote hG (Ehr2.trans E7) E8 K2 hz2 (by first | exact .inr rfl | omega);refine Wo_nil ?_;refine ⟨trivial,?_⟩
   refine Wh_done (by kernel_rfl) ?_;rotate_left;exact WhAll_nil;exact WhAll_nil;exact WhAll_nil;refine WhAll_cons rfl ?_ ?_;refine Wo_allocN rfl flat26 ?_;rintro b4 w6 hb4 E6 hB4;have hlb4:=hB4.lt;have hr1:=hr1.ext E6
   have hG:=grownBy_ext hG E6;have hs6:=E6.size;refine Wo_nil ?_;refine ⟨trivial,?_⟩;refine Wh_all (rs:=[4,6]) (by kernel_rfl) rfl ?_;refine WhAll_cons rfl ?_ ?_
   refine Wo_tblI Tryd.isAgg3 rfl rfl (hB3.ext E6) (by repeat (first | exact trivial | refine And.intro ⟨_,rfl,by decide⟩ ?_)) (by simp only [List.length_cons,List.length_nil];omega) ?_;intro z1 hz1;refine Wo_nil ?_
   refine ⟨trivial,?_⟩;refine Wh_all (rs:=[6]) (by kernel_rfl) rfl ?_;refine WhAll_cons rfl ?_ ?_;refine Wo_call rfl (opc2 (a:=.pointer _) (b:=.int _ _) Tryd.call54 rfl rfl) (pick_ok _ _ (by assumption) (by omega)) ?_
   rintro _ w7 ⟨y2,rfl,E7,hr2,hy2⟩;(try dsimp only at hy2);have hlhr2:=hr2.lt;have Ehr2:=hr2.old;have hO:=(hO.ext E6).grown E7 (by omega);have hB1:=(hB1.ext E6).grown E7 (by simp only [ne_eq,Option.some.injEq];omega)
   have hB2:=(hB2.ext E6).grown E7 (by simp only [ne_eq,Option.some.injEq];omega);have hB3:=(hB3.ext E6).grown E7 (by simp only [ne_eq,Option.some.injEq];omega)
   have hB4:=hB4.grown E7 (by simp only [ne_eq,Option.some.injEq];omega);have hG:=grownBy_trans hG E7;have hs7:=E7.size;refine Wo_nil ?_;refine ⟨trivial,?_⟩
   refine Wh_take 7 rfl (by kernel_rfl) (by kernel_rfl) rfl (fun _ _=>opv_quo rfl rfl (by omega)) trivial ?_;refine Wh_take 8 rfl (by kernel_rfl) (by kernel_rfl) rfl (fun _ _=>opv_mul rfl rfl (by omega)) trivial ?_
   refine Wh_take 9 rfl (by kernel_rfl) (by kernel_rfl) rfl (fun _ _=>opv_add rfl rfl (by omega)) trivial ?_
   refine Wh_take 10 rfl (by kernel_rfl) (by kernel_rfl) rfl (fun _ _=>opv_build (ps:=[(0,.int _ _)]) (cs:=[_,_,_]) flat26 rfl rfl) trivial ?_;refine Wh_all (rs:=[12]) (by kernel_rfl) rfl ?_;refine WhAll_cons rfl ?_ ?_
   refine Wo_st3 rfl Tryd.sizeOf26 rfl rfl (by first | rfl | assumption) (by first | rfl | assumption) (by first | rfl | assumption) hB4 (by omega) Ehr2 ?_;rintro w8 E8 hB4 K2 hz2;have hr2:=hr2.wrote E8 (K2 _ (by omega)) hz2
   have hO:=hO.wrote K2 (by omega);have hB1:=hB1.of_heap (K2 _ (by omega));have hB2:=hB2.of_heap (K2 _ (by omega));have hB3:=hB3.of_heap (K2 _ (by omega))
   have hG:=grownBy_wrote hG Ehr2 E8 K2 hz2 (by first | exact .inr rfl | omega);refine Wo_nil ?_;refine ⟨trivial,?_⟩;refine Wh_done (by kernel_rfl) ?_;rotate_left;exact WhAll_nil;exact WhAll_nil;refine WhAll_cons rfl ?_ ?_
   refine Wo_call rfl (opc2 (a:=.pointer _) (b:=.int _ _) Tryd.call54 rfl rfl) (pick_ok _ _ (by assumption) (by omega)) ?_;rintro _ w7 ⟨y2,rfl,E7,hr2,hy2⟩;(try dsimp only at hy2);have hlhr2:=hr2.lt;have Ehr2:=hr2.old
   have hO:=(hO.ext E6).grown E7 (by omega);have hB1:=(hB1.ext E6).grown E7 (by simp only [ne_eq,Option.some.injEq];omega);have hB2:=(hB2.ext E6).grown E7 (by simp only [ne_eq,Option.some.injEq];omega)
   have hB3:=(hB3.ext E6).grown E7 (by simp only [ne_eq,Option.some.injEq];omega);have hB4:=hB4.grown E7 (by simp only [ne_eq,Option.some.injEq];omega);have hG:=grownBy_trans hG E7;have hs7:=E7.size;refine Wo_nil ?_
   refine ⟨trivial,?_⟩;refine Wh_take 7 rfl (by kernel_rfl) (by kernel_rfl) rfl (fun _ _=>opv_quo rfl rfl (by omega)) trivial ?_
   refine Wh_take 8 rfl (by kernel_rfl) (by kernel_rfl) rfl (fun _ _=>opv_mul rfl rfl (by omega)) trivial ?_;refine Wh_all (rs:=[4]) (by kernel_rfl) rfl ?_;refine WhAll_cons rfl ?_ ?_
   refine Wo_tblI Tryd.isAgg3 rfl rfl hB3 (by repeat (first | exact trivial | refine And.intro ⟨_,rfl,by decide⟩ ?_)) (by simp only [List.length_cons,List.length_nil];omega) ?_;intro z1 hz1;refine Wo_nil ?_;refine ⟨trivial,?_⟩
   refine Wh_take 9 rfl (by kernel_rfl) (by kernel_rfl) rfl (fun _ _=>opv_add rfl rfl (by omega)) trivial ?_
   refine Wh_take 10 rfl (by kernel_rfl) (by kernel_rfl) rfl (fun _ _=>opv_build (ps:=[(0,.int _ _)]) (cs:=[_,_,_]) flat26 rfl rfl) trivial ?_;refine Wh_all (rs:=[12]) (by kernel_rfl) rfl ?_;refine WhAll_cons rfl ?_ ?_
   refine Wo_st3 rfl Tryd.sizeOf26 rfl rfl (by first | rfl | assumption) (by first | rfl | assumption) (by first | rfl | assumption) hB4 (by omega) Ehr2 ?_;rintro w8 E8 hB4 K2 hz2;have hr2:=hr2.wrote E8 (K2 _ (by omega)) hz2
   have hO:=hO.wrote K2 (by omega);have hB1:=hB1.of_heap (K2 _ (by omega));have hB2:=hB2.of_heap (K2 _ (by omega));have hB3:=hB3.of_heap (K2 _ (by omega))
   have hG:=grownBy_wrote hG Ehr2 E8 K2 hz2 (by first | exact .inr rfl | omega);refine Wo_nil ?_;refine ⟨trivial,?_⟩;refine Wh_done (by kernel_rfl) ?_;rotate_left;exact WhAll_nil;exact WhAll_nil;exact WhAll_nil
   exact WhAll_nil;refine WhAll_cons rfl ?_ ?_;refine Wo_allocN rfl flat26 ?_;rintro b4 w5 hb4 E5 hB4;have hlb4:=hB4.lt;have hr:=hr.ext E5;have hG:=grownBy_ext hG E5;have hs5:=E5.size;refine Wo_nil ?_
   refine ⟨trivial,?_⟩;refine Wh_all (rs:=[2]) (by kernel_rfl) rfl ?_;refine WhAll_cons rfl ?_ ?_;refine Wo_call rfl (opc2 (a:=.pointer _) (b:=.int _ _) Tryd.call54 rfl rfl) (pick_ok _ _ (by assumption) (by omega)) ?_
   rintro _ w6 ⟨y1,rfl,E6,hr1,hy1⟩;(try dsimp only at hy1);have hlhr1:=hr1.lt;have Ehr1:=hr1.old;have hO:=(hO.ext ((((E1.trans E2).trans E3).trans E4).trans E5)).grown E6 (by omega)
   have hB1:=(hB1.ext (((E2.trans E3).trans E4).trans E5)).grown E6 (by simp only [ne_eq,Option.some.injEq];omega);have hB2:=(hB2.ext ((E3.trans E4).trans E5)).grown E6 (by simp only [ne_eq,Option.some.injEq];omega)
   have hB3:=(hB3.ext E5).grown E6 (by simp only [ne_eq,Option.some.injEq];omega);have hB4:=hB4.grown E6 (by simp only [ne_eq,Option.some.injEq];omega);have hG:=grownBy_trans hG E6;have hs6:=E6.size;refine Wo_nil ?_
   refine ⟨trivial,?_⟩;refine Wh_take 3 rfl (by kernel_rfl) (by kernel_rfl) rfl (fun _ _=>opv_indexAddr Tryd.underlying80 Tryd.sizeOf3 rfl rfl (by omega)) trivial ?_;refine Wh_all (rs:=[4,6]) (by kernel_rfl) rfl ?_
   refine WhAll_cons rfl ?_ ?_;refine Wo_tblI Tryd.isAgg3 rfl rfl hB3 (by repeat (first | exact trivial | refine And.intro ⟨_,rfl,by decide⟩ ?_)) (by simp only [List.length_cons,List.length_nil];omega) ?_;intro z1 hz1
   refine Wo_nil ?_;refine ⟨trivial,?_⟩;refine Wh_all (rs:=[6]) (by kernel_rfl) rfl ?_;refine WhAll_cons rfl ?_ ?_
   refine Wo_call rfl (opc2 (a:=.pointer _) (b:=.int _ _) Tryd.call54 rfl rfl) (pick_ok _ _ (by assumption) (by omega)) ?_;rintro _ w7 ⟨y2,rfl,E7,hr2,hy2⟩;(try dsimp only at hy2);have hlhr2:=hr2.lt;have Ehr2:=hr2.old
   have hO:=hO.grown E7 (by omega);have hB1:=hB1.grown E7 (by simp only [ne_eq,Option.some.injEq];omega);have hB2:=hB2.grown E7 (by simp only [ne_eq,Option.some.injEq];omega)
   have hB3:=hB3.grown E7 (by simp only [ne_eq,Option.some.injEq];omega);have hB4:=hB4.grown E7 (by simp only [ne_eq,Option.some.injEq];omega);have hG:=grownBy_trans hG E7;have hs7:=E7.size;refine Wo_nil ?_
   refine ⟨trivial,?_⟩;refine Wh_take 7 rfl (by kernel_rfl) (by kernel_rfl) rfl (fun _ _=>opv_quo rfl rfl (by omega)) trivial ?_
   refine Wh_take 8 rfl (by kernel_rfl) (by kernel_rfl) rfl (fun _ _=>opv_mul rfl rfl (by omega)) trivial ?_;refine Wh_take 9 rfl (by kernel_rfl) (by kernel_rfl) rfl (fun _ _=>opv_add rfl rfl (by omega)) trivial ?_
   refine Wh_take 10 rfl (by kernel_rfl) (by kernel_rfl) rfl (fun _ _=>opv_build (ps:=[(0,.int _ _)]) (cs:=[_,_,_]) flat26 rfl rfl) trivial ?_;refine Wh_all (rs:=[12]) (by kernel_rfl) rfl ?_;refine WhAll_cons rfl ?_ ?_
   refine Wo_st3 rfl Tryd.sizeOf26 rfl rfl (by first | rfl | assumption) (by first | rfl | assumption) (by first | rfl | assumption) hB4 (by omega) Ehr2 ?_;rintro w8 E8 hB4 K2 hz2;have hr2:=hr2.wrote E8 (K2 _ (by omega)) hz2
   have hO:=hO.wrote K2 (by omega);have hB1:=hB1.of_heap (K2 _ (by omega));have hB2:=hB2.of_heap (K2 _ (by omega));have hB3:=hB3.of_heap (K2 _ (by omega))
   have hG:=grownBy_wrote hG Ehr2 E8 K2 hz2 (by first | exact .inr rfl | omega);refine Wo_nil ?_;refine ⟨trivial,?_⟩;refine Wh_done (by kernel_rfl) ?_;rotate_left;exact WhAll_nil;exact WhAll_nil;refine WhAll_cons rfl ?_ ?_
   refine Wo_call rfl (opc2 (a:=.pointer _) (b:=.int _ _) Tryd.call54 rfl rfl) (pick_ok _ _ (by assumption) (by omega)) ?_;rintro _ w7 ⟨y2,rfl,E7,hr2,hy2⟩;(try dsimp only at hy2);have hlhr2:=hr2.lt;have Ehr2:=hr2.old
   have hO:=hO.grown E7 (by omega);have hB1:=hB1.grown E7 (by simp only [ne_eq,Option.some.injEq];omega);have hB2:=hB2.grown E7 (by simp only [ne_eq,Option.some.injEq];omega)
   have hB3:=hB3.grown E7 (by simp only [ne_eq,Option.some.injEq];omega);have hB4:=hB4.grown E7 (by simp only [ne_eq,Option.some.injEq];omega);have hG:=grownBy_trans hG E7;have hs7:=E7.size;refine Wo_nil ?_
   refine ⟨trivial,?_⟩;refine Wh_take 7 rfl (by kernel_rfl) (by kernel_rfl) rfl (fun _ _=>opv_quo rfl rfl (by omega)) trivial ?_
   refine Wh_take 8 rfl (by kernel_rfl) (by kernel_rfl) rfl (fun _ _=>opv_mul rfl rfl (by omega)) trivial ?_;refine Wh_all (rs:=[4]) (by kernel_rfl) rfl ?_;refine WhAll_cons rfl ?_ ?_
   refine Wo_tblI Tryd.isAgg3 rfl rfl hB3 (by repeat (first | exact trivial | refine And.intro ⟨_,rfl,by decide⟩ ?_)) (by simp only [List.length_cons,List.length_nil];omega) ?_;intro z1 hz1;refine Wo_nil ?_;refine ⟨trivial,?_⟩
   refine Wh_take 9 rfl (by kernel_rfl) (by kernel_rfl) rfl (fun _ _=>opv_add rfl rfl (by omega)) trivial ?_
   refine Wh_take 10 rfl (by kernel_rfl) (by kernel_rfl) rfl (fun _ _=>opv_build (ps:=[(0,.int _ _)]) (cs:=[_,_,_]) flat26 rfl rfl) trivial ?_;refine Wh_all (rs:=[12]) (by kernel_rfl) rfl ?_;refine WhAll_cons rfl ?_ ?_
   refine Wo_st3 rfl Tryd.sizeOf26 rfl rfl (by first | rfl | assumption) (by first | rfl | assumption) (by first | rfl | assumption) hB4 (by omega) Ehr2 ?_;rintro w8 E8 hB4 K2 hz2;have hr2:=hr2.wrote E8 (K2 _ (by omega)) hz2
   have hO:=hO.wrote K2 (by omega);have hB1:=hB1.of_heap (K2 _ (by omega));have hB2:=hB2.of_heap (K2 _ (by omega));have hB3:=hB3.of_heap (K2 _ (by omega))
   have hG:=grownBy_wrote hG Ehr2 E8 K2 hz2 (by first | exact .inr rfl | omega);refine Wo_nil ?_;refine ⟨trivial,?_⟩;refine Wh_done (by kernel_rfl) ?_;rotate_left;exact WhAll_nil;exact WhAll_nil;exact WhAll_nil
   exact WhAll_nil;exact WhAll_nil;refine WhAll_cons rfl ?_ ?_;refine Wo_call rfl (opc2 (a:=.pointer _) (b:=.int _ _) Tryd.call54 rfl rfl) (pick_ok _ _ (by assumption) (by omega)) ?_;rintro _ w4 ⟨y1,rfl,E4,hr1,hy1⟩
   (try dsimp only at hy1);have hlhr1:=hr1.lt;have Ehr1:=hr1.old;have hO:=(hO.ext ((E1.trans E2).trans E3)).grown E4 (by omega);have hB1:=(hB1.ext (E2.trans E3)).grown E4 (by simp only [ne_eq,Option.some.injEq];omega)
   have hB2:=(hB2.ext E3).grown E4 (by simp only [ne_eq,Option.some.injEq];omega);have hG:=grownBy_trans hG E4;have hs4:=E4.size;refine Wo_nil ?_;refine ⟨trivial,?_⟩;refine Wh_all (rs:=[0,6,11]) (by kernel_rfl) rfl ?_
   refine WhAll_cons rfl ?_ ?_
   refine Wo_buildSliceH (ps:=[(0,.int _ _),(1,.int _ _),(2,.int _ _),(3,.int _ _),(4,.int _ _),(5,.int _ _),(6,.int _ _),(7,.int _ _)]) (cs:=[_,_,_,_,_,_,_,_]) rfl Tryd.underlying80 Tryd.sizeOf3 Tryd.zeroValue3 rfl rfl rfl rfl ?_
   rintro b3 w5 hb3 E5 hB3 hHb3;have hlb3:=hB3.lt;have hr1:=hr1.ext E5;have hG:=grownBy_ext hG E5;have hs5:=E5.size;refine Wo_nil ?_;refine ⟨trivial,?_⟩
   refine Wh_take 3 rfl (by kernel_rfl) (by kernel_rfl) rfl (fun _ _=>opv_indexAddr Tryd.underlying80 Tryd.sizeOf3 rfl rfl (by omega)) trivial ?_;refine Wh_all (rs:=[4,6,11]) (by kernel_rfl) rfl ?_;refine WhAll_cons rfl ?_ ?_
   refine Wo_tblI Tryd.isAgg3 rfl rfl hB3 (by repeat (first | exact trivial | refine And.intro ⟨_,rfl,by decide⟩ ?_)) (by simp only [List.length_cons,List.length_nil];omega) ?_;intro z1 hz1;refine Wo_nil ?_;refine ⟨trivial,?_⟩
   refine Wh_all (rs:=[6,11]) (by kernel_rfl) rfl ?_;refine WhAll_cons rfl ?_ ?_;refine Wo_call rfl (opc2 (a:=.pointer _) (b:=.int _ _) Tryd.call54 rfl rfl) (pick_ok _ _ (by assumption) (by omega)) ?_
   rintro _ w6 ⟨y2,rfl,E6,hr2,hy2⟩;(try dsimp only at hy2);have hlhr2:=hr2.lt;have Ehr2:=hr2.old;have hO:=(hO.ext E5).grown E6 (by omega);have hB1:=(hB1.ext E5).grown E6 (by simp only [ne_eq,Option.some.injEq];omega)
   have hB2:=(hB2.ext E5).grown E6 (by simp only [ne_eq,Option.some.injEq];omega);have hB3:=hB3.grown E6 (by simp only [ne_eq,Option.some.injEq];omega);have hG:=grownBy_trans hG E6;have hs6:=E6.size;refine Wo_nil ?_
   refine ⟨trivial,?_⟩;refine Wh_take 7 rfl (by kernel_rfl) (by kernel_rfl) rfl (fun _ _=>opv_quo rfl rfl (by omega)) trivial ?_
   refine Wh_take 8 rfl (by kernel_rfl) (by kernel_rfl) rfl (fun _ _=>opv_mul rfl rfl (by omega)) trivial ?_;refine Wh_take 9 rfl (by kernel_rfl) (by kernel_rfl) rfl (fun _ _=>opv_add rfl rfl (by omega)) trivial ?_
   refine Wh_take 10 rfl (by kernel_rfl) (by kernel_rfl) rfl (fun _ _=>opv_build (ps:=[(0,.int _ _)]) (cs:=[_,_,_]) flat26 rfl rfl) trivial ?_;refine Wh_all (rs:=[11]) (by kernel_rfl) rfl ?_;refine WhAll_cons rfl ?_ ?_
   refine Wo_allocN rfl flat26 ?_;rintro b4 w7 hb4 E7 hB4;have hlb4:=hB4.lt;have hr2:=hr2.ext E7;have hG:=grownBy_ext hG E7;have hs7:=E7.size;refine Wo_nil ?_;refine ⟨trivial,?_⟩
   refine Wh_all (rs:=[12]) (by kernel_rfl) rfl ?_;refine WhAll_cons rfl ?_ ?_
   refine Wo_st3 rfl Tryd.sizeOf26 rfl rfl (by first | rfl | assumption) (by first | rfl | assumption) (by first | rfl | assumption) hB4 (by omega) (Ehr2.trans E7) ?_;rintro w8 E8 hB4 K2 hz2
   have E9:=E7.wroteAt (Ehr2.trans E7) E8 K2 hz2 (by omega);have szE9:=E9.size;have hO:=(hO.ext E7).wrote K2 (by omega);have hB1:=(hB1.ext E7).of_heap (K2 _ (by omega));have hB2:=(hB2.ext E7).of_heap (K2 _ (by omega))
   have hB3:=(hB3.ext E7).of_heap (K2 _ (by omega));have hr2:=hr2.wrote E8 (K2 _ (by omega)) hz2;have hG:=grownBy_wrote hG (Ehr2.trans E7) E8 K2 hz2 (by first | exact .inr rfl | omega);refine Wo_nil ?_;refine ⟨trivial,?_⟩
   refine Wh_done (by kernel_rfl) ?_;rotate_left;exact WhAll_nil;exact WhAll_nil;refine WhAll_cons rfl ?_ ?_;refine Wo_allocN rfl flat26 ?_;rintro b4 w6 hb4 E6 hB4;have hlb4:=hB4.lt;have hr1:=hr1.ext E6
   have hG:=grownBy_ext hG E6;have hs6:=E6.size;refine Wo_nil ?_;refine ⟨trivial,?_⟩;refine Wh_all (rs:=[6]) (by kernel_rfl) rfl ?_;refine WhAll_cons rfl ?_ ?_
   refine Wo_call rfl (opc2 (a:=.pointer _) (b:=.int _ _) Tryd.call54 rfl rfl) (pick_ok _ _ (by assumption) (by omega)) ?_;rintro _ w7 ⟨y2,rfl,E7,hr2,hy2⟩;(try dsimp only at hy2);have hlhr2:=hr2.lt;have Ehr2:=hr2.old
   have hO:=(hO.ext (E5.trans E6)).grown E7 (by omega);have hB1:=(hB1.ext (E5.trans E6)).grown E7 (by simp only [ne_eq,Option.some.injEq];omega)
   have hB2:=(hB2.ext (E5.trans E6)).grown E7 (by simp only [ne_eq,Option.some.injEq];omega);have hB3:=(hB3.ext E6).grown E7 (by simp only [ne_eq,Option.some.injEq];omega)
   have hB4:=hB4.grown E7 (by simp only [ne_eq,Option.some.injEq];omega);have hG:=grownBy_trans hG E7;have hs7:=E7.size;refine Wo_nil ?_;refine ⟨trivial,?_⟩
   refine Wh_take 7 rfl (by kernel_rfl) (by kernel_rfl) rfl (fun _ _=>opv_quo rfl rfl (by omega)) trivial ?_;refine Wh_take 8 rfl (by kernel_rfl) (by kernel_rfl) rfl (fun _ _=>opv_mul rfl rfl (by omega)) trivial ?_
   refine Wh_take 9 rfl (by kernel_rfl) (by kernel_rfl) rfl (fun _ _=>opv_add rfl rfl (by omega)) trivial ?_
   refine Wh_take 10 rfl (by kernel_rfl) (by kernel_rfl) rfl (fun _ _=>opv_build (ps:=[(0,.int _ _)]) (cs:=[_,_,_]) flat26 rfl rfl) trivial ?_;refine Wh_all (rs:=[12]) (by kernel_rfl) rfl ?_;refine WhAll_cons rfl ?_ ?_
   refine Wo_st3 rfl Tryd.sizeOf26 rfl rfl (by first | rfl | assumption) (by first | rfl | assumption) (by first | rfl | assumption) hB4 (by omega) Ehr2 ?_;rintro w8 E8 hB4 K2 hz2;have hr2:=hr2.wrote E8 (K2 _ (by omega)) hz2
   have hO:=hO.wrote K2 (by omega);have hB1:=hB1.of_heap (K2 _ (by omega));have hB2:=hB2.of_heap (K2 _ (by omega));have hB3:=hB3.of_heap (K2 _ (by omega))
   have hG:=grownBy_wrote hG Ehr2 E8 K2 hz2 (by first | exact .inr rfl | omega);refine Wo_nil ?_;refine ⟨trivial,?_⟩;refine Wh_done (by kernel_rfl) ?_;rotate_left;exact WhAll_nil;exact WhAll_nil;exact WhAll_nil
   refine WhAll_cons rfl ?_ ?_;refine Wo_call rfl (opc2 (a:=.pointer _) (b:=.int _ _) Tryd.call54 rfl rfl) (pick_ok _ _ (by assumption) (by omega)) ?_;rintro _ w6 ⟨y2,rfl,E6,hr2,hy2⟩;(try dsimp only at hy2)
   have hlhr2:=hr2.lt;have Ehr2:=hr2.old;have hO:=(hO.ext E5).grown E6 (by omega);have hB1:=(hB1.ext E5).grown E6 (by simp only [ne_eq,Option.some.injEq];omega)
   have hB2:=(hB2.ext E5).grown E6 (by simp only [ne_eq,Option.some.injEq];omega);have hB3:=hB3.grown E6 (by simp only [ne_eq,Option.some.injEq];omega);have hG:=grownBy_trans hG E6;have hs6:=E6.size;refine Wo_nil ?_
   refine ⟨trivial,?_⟩;refine Wh_take 7 rfl (by kernel_rfl) (by kernel_rfl) rfl (fun _ _=>opv_quo rfl rfl (by omega)) trivial ?_
   refine Wh_take 8 rfl (by kernel_rfl) (by kernel_rfl) rfl (fun _ _=>opv_mul rfl rfl (by omega)) trivial ?_;refine Wh_all (rs:=[4,11]) (by kernel_rfl) rfl ?_;refine WhAll_cons rfl ?_ ?_
   refine Wo_tblI Tryd.isAgg3 rfl rfl hB3 (by repeat (first | exact trivial | refine And.intro ⟨_,rfl,by decide⟩ ?_)) (by simp only [List.length_cons,List.length_nil];omega) ?_;intro z1 hz1;refine Wo_nil ?_;refine ⟨trivial,?_⟩
   refine Wh_take 9 rfl (by kernel_rfl) (by kernel_rfl) rfl (fun _ _=>opv_add rfl rfl (by omega)) trivial ?_
   refine Wh_take 10 rfl (by kernel_rfl) (by kernel_rfl) rfl (fun _ _=>opv_build (ps:=[(0,.int _ _)]) (cs:=[_,_,_]) flat26 rfl rfl) trivial ?_;refine Wh_all (rs:=[11]) (by kernel_rfl) rfl ?_;refine WhAll_cons rfl ?_ ?_
   refine Wo_allocN rfl flat26 ?_;rintro b4 w7 hb4 E7 hB4;have hlb4:=hB4.lt;have hr2:=hr2.ext E7;have hG:=grownBy_ext hG E7;have hs7:=E7.size;refine Wo_nil ?_;refine ⟨trivial,?_⟩
   refine Wh_all (rs:=[12]) (by kernel_rfl) rfl ?_;refine WhAll_cons rfl ?_ ?_
   refine Wo_st3 rfl Tryd.sizeOf26 rfl rfl (by first | rfl | assumption) (by first | rfl | assumption) (by first | rfl | assumption) hB4 (by omega) (Ehr2.trans E7) ?_;rintro w8 E8 hB4 K2 hz2
   have E9:=E7.wroteAt (Ehr2.trans E7) E8 K2 hz2 (by omega);have szE9:=E9.size;have hO:=(hO.ext E7).wrote K2 (by omega);have hB1:=(hB1.ext E7).of_heap (K2 _ (by omega));have hB2:=(hB2.ext E7).of_heap (K2 _ (by omega))
   have hB3:=(hB3.ext E7).of_heap (K2 _ (by omega));have hr2:=hr2.wrote E8 (K2 _ (by omega)) hz2;have hG:=grownBy_wrote hG (Ehr2.trans E7) E8 K2 hz2 (by first | exact .inr rfl | omega);refine Wo_nil ?_;refine ⟨trivial,?_⟩
   refine Wh_done (by kernel_rfl) ?_;rotate_left;exact WhAll_nil;exact WhAll_nil;refine WhAll_cons rfl ?_ ?_;refine Wo_allocN rfl flat26 ?_;rintro b4 w7 hb4 E7 hB4;have hlb4:=hB4.lt;have hr2:=hr2.ext E7
   have hG:=grownBy_ext hG E7;have hs7:=E7.size;refine Wo_nil ?_;refine ⟨trivial,?_⟩;refine Wh_all (rs:=[4]) (by kernel_rfl) rfl ?_;refine WhAll_cons rfl ?_ ?_
   refine Wo_tblI Tryd.isAgg3 rfl rfl (hB3.ext E7) (by repeat (first | exact trivial | refine And.intro ⟨_,rfl,by decide⟩ ?_)) (by simp only [List.length_cons,List.length_nil];omega) ?_;intro z1 hz1;refine Wo_nil ?_
   refine ⟨trivial,?_⟩;refine Wh_take 9 rfl (by kernel_rfl) (by kernel_rfl) rfl (fun _ _=>opv_add rfl rfl (by omega)) trivial ?_
   refine Wh_take 10 rfl (by kernel_rfl) (by kernel_rfl) rfl (fun _ _=>opv_build (ps:=[(0,.int _ _)]) (cs:=[_,_,_]) flat26 rfl rfl) trivial ?_;refine Wh_all (rs:=[12]) (by kernel_rfl) rfl ?_;refine WhAll_cons rfl ?_ ?_
   refine Wo_st3 rfl Tryd.sizeOf26 rfl rfl (by first | rfl | assumption) (by first | rfl | assumption) (by first | rfl | assumption) hB4 (by omega) (Ehr2.trans E7) ?_;rintro w8 E8 hB4 K2 hz2
   have E9:=E7.wroteAt (Ehr2.trans E7) E8 K2 hz2 (by omega);have szE9:=E9.size;have hO:=(hO.ext E7).wrote K2 (by omega);have hB1:=(hB1.ext E7).of_heap (K2 _ (by omega));have hB2:=(hB2.ext E7).of_heap (K2 _ (by omega))
   have hB3:=(hB3.ext E7).of_heap (K2 _ (by omega));have hr2:=hr2.wrote E8 (K2 _ (by omega)) hz2;have hG:=grownBy_wrote hG (Ehr2.trans E7) E8 K2 hz2 (by first | exact .inr rfl | omega);refine Wo_nil ?_;refine ⟨trivial,?_⟩
   refine Wh_done (by kernel_rfl) ?_;rotate_left;exact WhAll_nil;exact WhAll_nil;exact WhAll_nil;refine WhAll_cons rfl ?_ ?_;refine Wo_allocN rfl flat26 ?_;rintro b4 w6 hb4 E6 hB4;have hlb4:=hB4.lt;have hr1:=hr1.ext E6
   have hG:=grownBy_ext hG E6;have hs6:=E6.size;refine Wo_nil ?_;refine ⟨trivial,?_⟩;refine Wh_all (rs:=[4,6]) (by kernel_rfl) rfl ?_;refine WhAll_cons rfl ?_ ?_
   refine Wo_tblI Tryd.isAgg3 rfl rfl (hB3.ext E6) (by repeat (first | exact trivial | refine And.intro ⟨_,rfl,by decide⟩ ?_)) (by simp only [List.length_cons,List.length_nil];omega) ?_;intro z1 hz1;refine Wo_nil ?_
   refine ⟨trivial,?_⟩;refine Wh_all (rs:=[6]) (by kernel_rfl) rfl ?_;refine WhAll_cons rfl ?_ ?_;refine Wo_call rfl (opc2 (a:=.pointer _) (b:=.int _ _) Tryd.call54 rfl rfl) (pick_ok _ _ (by assumption) (by omega)) ?_
   rintro _ w7 ⟨y2,rfl,E7,hr2,hy2⟩;(try dsimp only at hy2);have hlhr2:=hr2.lt;have Ehr2:=hr2.old;have hO:=(hO.ext (E5.trans E6)).grown E7 (by omega)
   have hB1:=(hB1.ext (E5.trans E6)).grown E7 (by simp only [ne_eq,Option.some.injEq];omega);have hB2:=(hB2.ext (E5.trans E6)).grown E7 (by simp only [ne_eq,Option.some.injEq];omega)
   have hB3:=(hB3.ext E6).grown E7 (by simp only [ne_eq,Option.some.injEq];omega);have hB4:=hB4.grown E7 (by simp only [ne_eq,Option.some.injEq];omega);have hG:=grownBy_trans hG E7;have hs7:=E7.size;refine Wo_nil ?_
   refine ⟨trivial,?_⟩;refine Wh_take 7 rfl (by kernel_rfl) (by kernel_rfl) rfl (fun _ _=>opv_quo rfl rfl (by omega)) trivial ?_
   refine Wh_take 8 rfl (by kernel_rfl) (by kernel_rfl) rfl (fun _ _=>opv_mul rfl rfl (by omega)) trivial ?_;refine Wh_take 9 rfl (by kernel_rfl) (by kernel_rfl) rfl (fun _ _=>opv_add rfl rfl (by omega)) trivial ?_
   refine Wh_take 10 rfl (by kernel_rfl) (by kernel_rfl) rfl (fun _ _=>opv_build (ps:=[(0,.int _ _)]) (cs:=[_,_,_]) flat26 rfl rfl) trivial ?_;refine Wh_all (rs:=[12]) (by kernel_rfl) rfl ?_;refine WhAll_cons rfl ?_ ?_
   refine Wo_st3 rfl Tryd.sizeOf26 rfl rfl (by first | rfl | assumption) (by first | rfl | assumption) (by first | rfl | assumption) hB4 (by omega) Ehr2 ?_;rintro w8 E8 hB4 K2 hz2;have hr2:=hr2.wrote E8 (K2 _ (by omega)) hz2
   have hO:=hO.wrote K2 (by omega);have hB1:=hB1.of_heap (K2 _ (by omega));have hB2:=hB2.of_heap (K2 _ (by omega));have hB3:=hB3.of_heap (K2 _ (by omega))
   have hG:=grownBy_wrote hG Ehr2 E8 K2 hz2 (by first | exact .inr rfl | omega);refine Wo_nil ?_;refine ⟨trivial,?_⟩;refine Wh_done (by kernel_rfl) ?_;rotate_left;exact WhAll_nil;exact WhAll_nil;refine WhAll_cons rfl ?_ ?_
   refine Wo_call rfl (opc2 (a:=.pointer _) (b:=.int _ _) Tryd.call54 rfl rfl) (pick_ok _ _ (by assumption) (by omega)) ?_;rintro _ w7 ⟨y2,rfl,E7,hr2,hy2⟩;(try dsimp only at hy2);have hlhr2:=hr2.lt;have Ehr2:=hr2.old
   have hO:=(hO.ext (E5.trans E6)).grown E7 (by omega);have hB1:=(hB1.ext (E5.trans E6)).grown E7 (by simp only [ne_eq,Option.some.injEq];omega)
   have hB2:=(hB2.ext (E5.trans E6)).grown E7 (by simp only [ne_eq,Option.some.injEq];omega);have hB3:=(hB3.ext E6).grown E7 (by simp only [ne_eq,Option.some.injEq];omega)
   have hB4:=hB4.grown E7 (by simp only [ne_eq,Option.some.injEq];omega);have hG:=grownBy_trans hG E7;have hs7:=E7.size;refine Wo_nil ?_;refine ⟨trivial,?_⟩
   refine Wh_take 7 rfl (by kernel_rfl) (by kernel_rfl) rfl (fun _ _=>opv_quo rfl rfl (by omega)) trivial ?_;refine Wh_take 8 rfl (by kernel_rfl) (by kernel_rfl) rfl (fun _ _=>opv_mul rfl rfl (by omega)) trivial ?_
   refine Wh_all (rs:=[4]) (by kernel_rfl) rfl ?_;refine WhAll_cons rfl ?_ ?_
   refine Wo_tblI Tryd.isAgg3 rfl rfl hB3 (by repeat (first | exact trivial | refine And.intro ⟨_,rfl,by decide⟩ ?_)) (by simp only [List.length_cons,List.length_nil];omega) ?_;intro z1 hz1;refine Wo_nil ?_;refine ⟨trivial,?_⟩
   refine Wh_take 9 rfl (by kernel_rfl) (by kernel_rfl) rfl (fun _ _=>opv_add rfl rfl (by omega)) trivial ?_
   refine Wh_take 10 rfl (by kernel_rfl) (by kernel_rfl) rfl (fun _ _=>opv_build (ps:=[(0,.int _ _)]) (cs:=[_,_,_]) flat26 rfl rfl) trivial ?_;refine Wh_all (rs:=[12]) (by kernel_rfl) rfl ?_;refine WhAll_cons rfl ?_ ?_
   refine Wo_st3 rfl Tryd.sizeOf26 rfl rfl (by first | rfl | assumption) (by first | rfl | assumption) (by first | rfl | assumption) hB4 (by omega) Ehr2 ?_;rintro w8 E8 hB4 K2 hz2;have hr2:=hr2.wrote E8 (K2 _ (by omega)) hz2
   have hO:=hO.wrote K2 (by omega);have hB1:=hB1.of_heap (K2 _ (by omega));have hB2:=hB2.of_heap (K2 _ (by omega));have hB3:=hB3.of_heap (K2 _ (by omega))
   have hG:=grownBy_wrote hG Ehr2 E8 K2 hz2 (by first | exact .inr rfl | omega);refine Wo_nil ?_;refine ⟨trivial,?_⟩;refine Wh_done (by kernel_rfl) ?_;rotate_left;exact WhAll_nil;exact WhAll_nil;exact WhAll_nil
   exact WhAll_nil;refine WhAll_cons rfl ?_ ?_;refine Wo_call rfl (opc2 (a:=.pointer _) (b:=.int _ _) Tryd.call54 rfl rfl) (pick_ok _ _ (by assumption) (by omega)) ?_;rintro _ w5 ⟨y2,rfl,E5,hr2,hy2⟩;(try dsimp only at hy2)
   have hlhr2:=hr2.lt;have Ehr2:=hr2.old;have hO:=hO.grown E5 (by omega);have hB1:=hB1.grown E5 (by simp only [ne_eq,Option.some.injEq];omega);have hB2:=hB2.grown E5 (by simp only [ne_eq,Option.some.injEq];omega)
   have hG:=grownBy_trans hG E5;have hs5:=E5.size;refine Wo_nil ?_;refine ⟨trivial,?_⟩;refine Wh_take 7 rfl (by kernel_rfl) (by kernel_rfl) rfl (fun _ _=>opv_quo rfl rfl (by omega)) trivial ?_
   refine Wh_take 8 rfl (by kernel_rfl) (by kernel_rfl) rfl (fun _ _=>opv_mul rfl rfl (by omega)) trivial ?_;refine Wh_all (rs:=[0,11]) (by kernel_rfl) rfl ?_;refine WhAll_cons rfl ?_ ?_
   refine Wo_buildSliceH (ps:=[(0,.int _ _),(1,.int _ _),(2,.int _ _),(3,.int _ _),(4,.int _ _),(5,.int _ _),(6,.int _ _),(7,.int _ _)]) (cs:=[_,_,_,_,_,_,_,_]) rfl Tryd.underlying80 Tryd.sizeOf3 Tryd.zeroValue3 rfl rfl rfl rfl ?_
   rintro b3 w6 hb3 E6 hB3 hHb3;have hlb3:=hB3.lt;have hr2:=hr2.ext E6;have hG:=grownBy_ext hG E6;have hs6:=E6.size;refine Wo_nil ?_;refine ⟨trivial,?_⟩
   refine Wh_take 3 rfl (by kernel_rfl) (by kernel_rfl) rfl (fun _ _=>opv_indexAddr Tryd.underlying80 Tryd.sizeOf3 rfl rfl (by omega)) trivial ?_;refine Wh_all (rs:=[4,11]) (by kernel_rfl) rfl ?_;refine WhAll_cons rfl ?_ ?_
   refine Wo_tblI Tryd.isAgg3 rfl rfl hB3 (by repeat (first | exact trivial | refine And.intro ⟨_,rfl,by decide⟩ ?_)) (by simp only [List.length_cons,List.length_nil];omega) ?_;intro z1 hz1;refine Wo_nil ?_;refine ⟨trivial,?_⟩
   refine Wh_take 9 rfl (by kernel_rfl) (by kernel_rfl) rfl (fun _ _=>opv_add rfl rfl (by omega)) trivial ?_
   refine Wh_take 10 rfl (by kernel_rfl) (by kernel_rfl) rfl (fun _ _=>opv_build (ps:=[(0,.int _ _)]) (cs:=[_,_,_]) flat26 rfl rfl) trivial ?_;refine Wh_all (rs:=[11]) (by kernel_rfl) rfl ?_;refine WhAll_cons rfl ?_ ?_
   refine Wo_allocN rfl flat26 ?_;rintro b4 w7 hb4 E7 hB4;have hlb4:=hB4.lt;have hr2:=hr2.ext E7;have hG:=grownBy_ext hG E7;have hs7:=E7.size;refine Wo_nil ?_;refine ⟨trivial,?_⟩
   refine Wh_all (rs:=[12]) (by kernel_rfl) rfl ?_;refine WhAll_cons rfl ?_ ?_
   refine Wo_st3 rfl Tryd.sizeOf26 rfl rfl (by first | rfl | assumption) (by first | rfl | assumption) (by first | rfl | assumption) hB4 (by omega) ((Ehr2.trans E6).trans E7) ?_;rintro w8 E8 hB4 K2 hz2
   have E9:=(E6.trans E7).wroteAt ((Ehr2.trans E6).trans E7) E8 K2 hz2 (by omega);have szE9:=E9.size;have E10:=E7.wroteAt ((Ehr2.trans E6).trans E7) E8 K2 hz2 (by omega);have szE10:=E10.size
   have hO:=(hO.ext (E6.trans E7)).wrote K2 (by omega);have hB1:=(hB1.ext (E6.trans E7)).of_heap (K2 _ (by omega));have hB2:=(hB2.ext (E6.trans E7)).of_heap (K2 _ (by omega));have hB3:=(hB3.ext E7).of_heap (K2 _ (by omega))
   have hr2:=hr2.wrote E8 (K2 _ (by omega)) hz2;have hG:=grownBy_wrote hG ((Ehr2.trans E6).trans E7) E8 K2 hz2 (by first | exact .inr rfl | omega);refine Wo_nil ?_;refine ⟨trivial,?_⟩;refine Wh_done (by kernel_rfl) ?_
   rotate_left;exact WhAll_nil;exact WhAll_nil;refine WhAll_cons rfl ?_ ?_;refine Wo_allocN rfl flat26 ?_;rintro b4 w7 hb4 E7 hB4;have hlb4:=hB4.lt;have hr2:=hr2.ext E7;have hG:=grownBy_ext hG E7;have hs7:=E7.size
   refine Wo_nil ?_;refine ⟨trivial,?_⟩;refine Wh_all (rs:=[4]) (by kernel_rfl) rfl ?_;refine WhAll_cons rfl ?_ ?_
   refine Wo_tblI Tryd.isAgg3 rfl rfl (hB3.ext E7) (by repeat (first | exact trivial | refine And.intro ⟨_,rfl,by decide⟩ ?_)) (by simp only [List.length_cons,List.length_nil];omega) ?_;intro z1 hz1;refine Wo_nil ?_
   refine ⟨trivial,?_⟩;refine Wh_take 9 rfl (by kernel_rfl) (by kernel_rfl) rfl (fun _ _=>opv_add rfl rfl (by omega)) trivial ?_
   refine Wh_take 10 rfl (by kernel_rfl) (by kernel_rfl) rfl (fun _ _=>opv_build (ps:=[(0,.int _ _)]) (cs:=[_,_,_]) flat26 rfl rfl) trivial ?_;refine Wh_all (rs:=[12]) (by kernel_rfl) rfl ?_;refine WhAll_cons rfl ?_ ?_
   refine Wo_st3 rfl Tryd.sizeOf26 rfl rfl (by first | rfl | assumption) (by first | rfl | assumption) (by first | rfl | assumption) hB4 (by omega) ((Ehr2.trans E6).trans E7) ?_;rintro w8 E8 hB4 K2 hz2
   have E9:=(E6.trans E7).wroteAt ((Ehr2.trans E6).trans E7) E8 K2 hz2 (by omega);have szE9:=E9.size;have E10:=E7.wroteAt ((Ehr2.trans E6).trans E7) E8 K2 hz2 (by omega);have szE10:=E10.size
   have hO:=(hO.ext (E6.trans E7)).wrote K2 (by omega);have hB1:=(hB1.ext (E6.trans E7)).of_heap (K2 _ (by omega));have hB2:=(hB2.ext (E6.trans E7)).of_heap (K2 _ (by omega));have hB3:=(hB3.ext E7).of_heap (K2 _ (by omega))
   have hr2:=hr2.wrote E8 (K2 _ (by omega)) hz2;have hG:=grownBy_wrote hG ((Ehr2.trans E6).trans E7) E8 K2 hz2 (by first | exact .inr rfl | omega);refine Wo_nil ?_;refine ⟨trivial,?_⟩;refine Wh_done (by kernel_rfl) ?_
   rotate_left;exact WhAll_nil;exact WhAll_nil;exact WhAll_nil;refine WhAll_cons rfl ?_ ?_;refine Wo_allocN rfl flat26 ?_;rintro b3 w6 hb3 E6 hB3;have hlb3:=hB3.lt;have hr2:=hr2.ext E6;have hG:=grownBy_ext hG E6
   have hs6:=E6.size;refine Wo_nil ?_;refine ⟨trivial,?_⟩;refine Wh_all (rs:=[0]) (by kernel_rfl) rfl ?_;refine WhAll_cons rfl ?_ ?_
   refine Wo_buildSliceH (ps:=[(0,.int _ _),(1,.int _ _),(2,.int _ _),(3,.int _ _),(4,.int _ _),(5,.int _ _),(6,.int _ _),(7,.int _ _)]) (cs:=[_,_,_,_,_,_,_,_]) rfl Tryd.underlying80 Tryd.sizeOf3 Tryd.zeroValue3 rfl rfl rfl rfl ?_
   rintro b4 w7 hb4 E7 hB4 hHb4;have hlb4:=hB4.lt;have hr2:=hr2.ext E7;have hG:=grownBy_ext hG E7;have hs7:=E7.size;refine Wo_nil ?_;refine ⟨trivial,?_⟩
   refine Wh_take 3 rfl (by kernel_rfl) (by kernel_rfl) rfl (fun _ _=>opv_indexAddr Tryd.underlying80 Tryd.sizeOf3 rfl rfl (by omega)) trivial ?_;refine Wh_all (rs:=[4]) (by kernel_rfl) rfl ?_;refine WhAll_cons rfl ?_ ?_
   refine Wo_tblI Tryd.isAgg3 rfl rfl hB4 (by repeat (first | exact trivial | refine And.intro ⟨_,rfl,by decide⟩ ?_)) (by simp only [List.length_cons,List.length_nil];omega) ?_;intro z1 hz1;refine Wo_nil ?_;refine ⟨trivial,?_⟩
   refine Wh_take 9 rfl (by kernel_rfl) (by kernel_rfl) rfl (fun _ _=>opv_add rfl rfl (by omega)) trivial ?_
   refine Wh_take 10 rfl (by kernel_rfl) (by kernel_rfl) rfl (fun _ _=>opv_build (ps:=[(0,.int _ _)]) (cs:=[_,_,_]) flat26 rfl rfl) trivial ?_;refine Wh_all (rs:=[12]) (by kernel_rfl) rfl ?_;refine WhAll_cons rfl ?_ ?_
   refine Wo_st3 rfl Tryd.sizeOf26 rfl rfl (by first | rfl | assumption) (by first | rfl | assumption) (by first | rfl | assumption) (hB3.ext E7) (by omega) ((Ehr2.trans E6).trans E7) ?_;rintro w8 E8 hB3 K2 hz2
   have E9:=(E6.trans E7).wroteAt ((Ehr2.trans E6).trans E7) E8 K2 hz2 (by omega);have szE9:=E9.size;have hO:=(hO.ext (E6.trans E7)).wrote K2 (by omega);have hB1:=(hB1.ext (E6.trans E7)).of_heap (K2 _ (by omega))
   have hB2:=(hB2.ext (E6.trans E7)).of_heap (K2 _ (by omega));have hB4:=hB4.of_heap (K2 _ (by omega));have hr2:=hr2.wrote E8 (K2 _ (by omega)) hz2
   have hG:=grownBy_wrote hG ((Ehr2.trans E6).trans E7) E8 K2 hz2 (by first | exact .inr rfl | omega);refine Wo_nil ?_;refine ⟨trivial,?_⟩;refine Wh_done (by kernel_rfl) ?_;rotate_left;exact WhAll_nil;exact WhAll_nil
   exact WhAll_nil;exact WhAll_nil;refine WhAll_cons rfl ?_ ?_;refine Wo_allocN rfl flat26 ?_;rintro b3 w5 hb3 E5 hB3;have hlb3:=hB3.lt;have hr1:=hr1.ext E5;have hG:=grownBy_ext hG E5;have hs5:=E5.size;refine Wo_nil ?_
   refine ⟨trivial,?_⟩;refine Wh_all (rs:=[0,6]) (by kernel_rfl) rfl ?_;refine WhAll_cons rfl ?_ ?_
   refine Wo_buildSliceH (ps:=[(0,.int _ _),(1,.int _ _),(2,.int _ _),(3,.int _ _),(4,.int _ _),(5,.int _ _),(6,.int _ _),(7,.int _ _)]) (cs:=[_,_,_,_,_,_,_,_]) rfl Tryd.underlying80 Tryd.sizeOf3 Tryd.zeroValue3 rfl rfl rfl rfl ?_
   rintro b4 w6 hb4 E6 hB4 hHb4;have hlb4:=hB4.lt;have hr1:=hr1.ext E6;have hG:=grownBy_ext hG E6;have hs6:=E6.size;refine Wo_nil ?_;refine ⟨trivial,?_⟩
   refine Wh_take 3 rfl (by kernel_rfl) (by kernel_rfl) rfl (fun _ _=>opv_indexAddr Tryd.underlying80 Tryd.sizeOf3 rfl rfl (by omega)) trivial ?_;refine Wh_all (rs:=[4,6]) (by kernel_rfl) rfl ?_;refine WhAll_cons rfl ?_ ?_
   refine Wo_tblI Tryd.isAgg3 rfl rfl hB4 (by repeat (first | exact trivial | refine And.intro ⟨_,rfl,by decide⟩ ?_)) (by simp only [List.length_cons,List.length_nil];omega) ?_;intro z1 hz1;refine Wo_nil ?_;refine ⟨trivial,?_⟩
   refine Wh_all (rs:=[6]) (by kernel_rfl) rfl ?_;refine WhAll_cons rfl ?_ ?_;refine Wo_call rfl (opc2 (a:=.pointer _) (b:=.int _ _) Tryd.call54 rfl rfl) (pick_ok _ _ (by assumption) (by omega)) ?_
   rintro _ w7 ⟨y2,rfl,E7,hr2,hy2⟩;(try dsimp only at hy2);have hlhr2:=hr2.lt;have Ehr2:=hr2.old;have hO:=(hO.ext (E5.trans E6)).grown E7 (by omega)
   have hB1:=(hB1.ext (E5.trans E6)).grown E7 (by simp only [ne_eq,Option.some.injEq];omega);have hB2:=(hB2.ext (E5.trans E6)).grown E7 (by simp only [ne_eq,Option.some.injEq];omega)
   have hB3:=(hB3.ext E6).grown E7 (by simp only [ne_eq,Option.some.injEq];omega);have hB4:=hB4.grown E7 (by simp only [ne_eq,Option.some.injEq];omega);have hG:=grownBy_trans hG E7;have hs7:=E7.size;refine Wo_nil ?_
   refine ⟨trivial,?_⟩;refine Wh_take 7 rfl (by kernel_rfl) (by kernel_rfl) rfl (fun _ _=>opv_quo rfl rfl (by omega)) trivial ?_
   refine Wh_take 8 rfl (by kernel_rfl) (by kernel_rfl) rfl (fun _ _=>opv_mul rfl rfl (by omega)) trivial ?_;refine Wh_take 9 rfl (by kernel_rfl) (by kernel_rfl) rfl (fun _ _=>opv_add rfl rfl (by omega)) trivial ?_
   refine Wh_take 10 rfl (by kernel_rfl) (by kernel_rfl) rfl (fun _ _=>opv_build (ps:=[(0,.int _ _)]) (cs:=[_,_,_]) flat26 rfl rfl) trivial ?_;refine Wh_all (rs:=[12]) (by kernel_rfl) rfl ?_;refine WhAll_cons rfl ?_ ?_
   refine Wo_st3 rfl Tryd.sizeOf26 rfl rfl (by first | rfl | assumption) (by first | rfl | assumption) (by first | rfl | assumption) hB3 (by omega) Ehr2 ?_;rintro w8 E8 hB3 K2 hz2;have hr2:=hr2.wrote E8 (K2 _ (by omega)) hz2
   have hO:=hO.wrote K2 (by omega);have hB1:=hB1.of_heap (K2 _ (by omega));have hB2:=hB2.of_heap (K2 _ (by omega));have hB4:=hB4.of_heap (K2 _ (by omega))
   have hG:=grownBy_wrote hG Ehr2 E8 K2 hz2 (by first | exact .inr rfl | omega);refine Wo_nil ?_;refine ⟨trivial,?_⟩;refine Wh_done (by kernel_rfl) ?_;rotate_left;exact WhAll_nil;exact WhAll_nil;refine WhAll_cons rfl ?_ ?_
   refine Wo_call rfl (opc2 (a:=.pointer _) (b:=.int _ _) Tryd.call54 rfl rfl) (pick_ok _ _ (by assumption) (by omega)) ?_;rintro _ w7 ⟨y2,rfl,E7,hr2,hy2⟩;(try dsimp only at hy2);have hlhr2:=hr2.lt;have Ehr2:=hr2.old
   have hO:=(hO.ext (E5.trans E6)).grown E7 (by omega);have hB1:=(hB1.ext (E5.trans E6)).grown E7 (by simp only [ne_eq,Option.some.injEq];omega)
   have hB2:=(hB2.ext (E5.trans E6)).grown E7 (by simp only [ne_eq,Option.some.injEq];omega);have hB3:=(hB3.ext E6).grown E7 (by simp only [ne_eq,Option.some.injEq];omega)
   have hB4:=hB4.grown E7 (by simp only [ne_eq,Option.some.injEq];omega);have hG:=grownBy_trans hG E7;have hs7:=E7.size;refine Wo_nil ?_;refine ⟨trivial,?_⟩
   refine Wh_take 7 rfl (by kernel_rfl) (by kernel_rfl) rfl (fun _ _=>opv_quo rfl rfl (by omega)) trivial ?_;refine Wh_take 8 rfl (by kernel_rfl) (by kernel_rfl) rfl (fun _ _=>opv_mul rfl rfl (by omega)) trivial ?_
   refine Wh_all (rs:=[4]) (by kernel_rfl) rfl ?_;refine WhAll_cons rfl ?_ ?_
   refine Wo_tblI Tryd.isAgg3 rfl rfl hB4 (by repeat (first | exact trivial | refine And.intro ⟨_,rfl,by decide⟩ ?_)) (by simp only [List.length_cons,List.length_nil];omega) ?_;intro z1 hz1;refine Wo_nil ?_;refine ⟨trivial,?_⟩
   refine Wh_take 9 rfl (by kernel_rfl) (by kernel_rfl) rfl (fun _ _=>opv_add rfl rfl (by omega)) trivial ?_
   refine Wh_take 10 rfl (by kernel_rfl) (by kernel_rfl) rfl (fun _ _=>opv_build (ps:=[(0,.int _ _)]) (cs:=[_,_,_]) flat26 rfl rfl) trivial ?_;refine Wh_all (rs:=[12]) (by kernel_rfl) rfl ?_;refine WhAll_cons rfl ?_ ?_
   refine Wo_st3 rfl Tryd.sizeOf26 rfl rfl (by first | rfl | assumption) (by first | rfl | assumption) (by first | rfl | assumption) hB3 (by omega) Ehr2 ?_;rintro w8 E8 hB3 K2 hz2;have hr2:=hr2.wrote E8 (K2 _ (by omega)) hz2
   have hO:=hO.wrote K2 (by omega);have hB1:=hB1.of_heap (K2 _ (by omega));have hB2:=hB2.of_heap (K2 _ (by omega));have hB4:=hB4.of_heap (K2 _ (by omega))
   have hG:=grownBy_wrote hG Ehr2 E8 K2 hz2 (by first | exact .inr rfl | omega);refine Wo_nil ?_;refine ⟨trivial,?_⟩;refine Wh_done (by kernel_rfl) ?_;rotate_left;exact WhAll_nil;exact WhAll_nil;exact WhAll_nil
   refine WhAll_cons rfl ?_ ?_;refine Wo_call rfl (opc2 (a:=.pointer _) (b:=.int _ _) Tryd.call54 rfl rfl) (pick_ok _ _ (by assumption) (by omega)) ?_;rintro _ w6 ⟨y2,rfl,E6,hr2,hy2⟩;(try dsimp only at hy2)
   have hlhr2:=hr2.lt;have Ehr2:=hr2.old;have hO:=(hO.ext E5).grown E6 (by omega);have hB1:=(hB1.ext E5).grown E6 (by simp only [ne_eq,Option.some.injEq];omega)
   have hB2:=(hB2.ext E5).grown E6 (by simp only [ne_eq,Option.some.injEq];omega);have hB3:=hB3.grown E6 (by simp only [ne_eq,Option.some.injEq];omega);have hG:=grownBy_trans hG E6;have hs6:=E6.size;refine Wo_nil ?_
   refine ⟨trivial,?_⟩;refine Wh_take 7 rfl (by kernel_rfl) (by kernel_rfl) rfl (fun _ _=>opv_quo rfl rfl (by omega)) trivial ?_
   refine Wh_take 8 rfl (by kernel_rfl) (by kernel_rfl) rfl (fun _ _=>opv_mul rfl rfl (by omega)) trivial ?_;refine Wh_all (rs:=[0]) (by kernel_rfl) rfl ?_;refine WhAll_cons rfl ?_ ?_
   refine Wo_buildSliceH (ps:=[(0,.int _ _),(1,.int _ _),(2,.int _ _),(3,.int _ _),(4,.int _ _),(5,.int _ _),(6,.int _ _),(7,.int _ _)]) (cs:=[_,_,_,_,_,_,_,_]) rfl Tryd.underlying80 Tryd.sizeOf3 Tryd.zeroValue3 rfl rfl rfl rfl ?_
   rintro b4 w7 hb4 E7 hB4 hHb4;have hlb4:=hB4.lt;have hr2:=hr2.ext E7;have hG:=grownBy_ext hG E7;have hs7:=E7.size;refine Wo_nil ?_;refine ⟨trivial,?_⟩
   refine Wh_take 3 rfl (by kernel_rfl) (by kernel_rfl) rfl (fun _ _=>opv_indexAddr Tryd.underlying80 Tryd.sizeOf3 rfl rfl (by omega)) trivial ?_;refine Wh_all (rs:=[4]) (by kernel_rfl) rfl ?_;refine WhAll_cons rfl ?_ ?_
   refine Wo_tblI Tryd.isAgg3 rfl rfl hB4 (by repeat (first | exact trivial | refine And.intro ⟨_,rfl,by decide⟩ ?_)) (by simp only [List.length_cons,List.length_nil];omega) ?_;intro z1 hz1;refine Wo_nil ?_;refine ⟨trivial,?_⟩
   refine Wh_take 9 rfl (by kernel_rfl) (by kernel_rfl) rfl (fun _ _=>opv_add rfl rfl (by omega)) trivial ?_
   refine Wh_take 10 rfl (by kernel_rfl) (by kernel_rfl) rfl (fun _ _=>opv_build (ps:=[(0,.int _ _)]) (cs:=[_,_,_]) flat26 rfl rfl) trivial ?_;refine Wh_all (rs:=[12]) (by kernel_rfl) rfl ?_;refine WhAll_cons rfl ?_ ?_
   refine Wo_st3 rfl Tryd.sizeOf26 rfl rfl (by first | rfl | assumption) (by first | rfl | assumption) (by first | rfl | assumption) (hB3.ext E7) (by omega) (Ehr2.trans E7) ?_;rintro w8 E8 hB3 K2 hz2
   have hO:=(hO.ext E7).wrote K2 (by omega);have hB1:=(hB1.ext E7).of_heap (K2 _ (by omega));have hB2:=(hB2.ext E7).of_heap (K2 _ (by omega));have hB4:=hB4.of_heap (K2 _ (by omega))
   have hr2:=hr2.wrote E8 (K2 _ (by omega)) hz2;have hG:=grownBy_wrote hG (Ehr2.trans E7) E8 K2 hz2 (by first | exact .inr rfl | omega);refine Wo_nil ?_;refine ⟨trivial,?_⟩;refine Wh_done (by kernel_rfl) ?_;rotate_left
   exact WhAll_nil;exact WhAll_nil;exact WhAll_nil;exact WhAll_nil;exact WhAll_nil;refine WhAll_cons rfl ?_ ?_;refine Wo_allocN rfl flat26 ?_;rintro b3 w4 hb3 E4 hB3;have hlb3:=hB3.lt;have hr:=hr.ext E4
   have hG:=grownBy_ext hG E4;have hs4:=E4.size;refine Wo_nil ?_;refine ⟨trivial,?_⟩;refine Wh_all (rs:=[0,2]) (by kernel_rfl) rfl ?_;refine WhAll_cons rfl ?_ ?_
   refine Wo_buildSliceH (ps:=[(0,.int _ _),(1,.int _ _),(2,.int _ _),(3,.int _ _),(4,.int _ _),(5,.int _ _),(6,.int _ _),(7,.int _ _)]) (cs:=[_,_,_,_,_,_,_,_]) rfl Tryd.underlying80 Tryd.sizeOf3 Tryd.zeroValue3 rfl rfl rfl rfl ?_
   rintro b4 w5 hb4 E5 hB4 hHb4;have hlb4:=hB4.lt;have hr:=hr.ext E5;have hG:=grownBy_ext hG E5;have hs5:=E5.size;refine Wo_nil ?_;refine ⟨trivial,?_⟩;refine Wh_all (rs:=[2]) (by kernel_rfl) rfl ?_
   refine WhAll_cons rfl ?_ ?_;refine Wo_call rfl (opc2 (a:=.pointer _) (b:=.int _ _) Tryd.call54 rfl rfl) (pick_ok _ _ (by assumption) (by omega)) ?_;rintro _ w6 ⟨y1,rfl,E6,hr1,hy1⟩;(try dsimp only at hy1)
   have hlhr1:=hr1.lt;have Ehr1:=hr1.old;have hO:=(hO.ext ((((E1.trans E2).trans E3).trans E4).trans E5)).grown E6 (by omega)
   have hB1:=(hB1.ext (((E2.trans E3).trans E4).trans E5)).grown E6 (by simp only [ne_eq,Option.some.injEq];omega);have hB2:=(hB2.ext ((E3.trans E4).trans E5)).grown E6 (by simp only [ne_eq,Option.some.injEq];omega)
   have hB3:=(hB3.ext E5).grown E6 (by simp only [ne_eq,Option.some.injEq];omega);have hB4:=hB4.grown E6 (by simp only [ne_eq,Option.some.injEq];omega);have hG:=grownBy_trans hG E6;have hs6:=E6.size;refine Wo_nil ?_
   refine ⟨trivial,?_⟩;refine Wh_take 3 rfl (by kernel_rfl) (by kernel_rfl) rfl (fun _ _=>opv_indexAddr Tryd.underlying80 Tryd.sizeOf3 rfl rfl (by omega)) trivial ?_;refine Wh_all (rs:=[4,6]) (by kernel_rfl) rfl ?_
   refine WhAll_cons rfl ?_ ?_;refine Wo_tblI Tryd.isAgg3 rfl rfl hB4 (by repeat (first | exact trivial | refine And.intro ⟨_,rfl,by decide⟩ ?_)) (by simp only [List.length_cons,List.length_nil];omega) ?_;intro z1 hz1
   refine Wo_nil ?_;refine ⟨trivial,?_⟩;refine Wh_all (rs:=[6]) (by kernel_rfl) rfl ?_;refine WhAll_cons rfl ?_ ?_
   refine Wo_call rfl (opc2 (a:=.pointer _) (b:=.int _ _) Tryd.call54 rfl rfl) (pick_ok _ _ (by assumption) (by omega)) ?_;rintro _ w7 ⟨y2,rfl,E7,hr2,hy2⟩;(try dsimp only at hy2);have hlhr2:=hr2.lt;have Ehr2:=hr2.old
   have hO:=hO.grown E7 (by omega);have hB1:=hB1.grown E7 (by simp only [ne_eq,Option.some.injEq];omega);have hB2:=hB2.grown E7 (by simp only [ne_eq,Option.some.injEq];omega)
   have hB3:=hB3.grown E7 (by simp only [ne_eq,Option.some.injEq];omega);have hB4:=hB4.grown E7 (by simp only [ne_eq,Option.some.injEq];omega);have hG:=grownBy_trans hG E7;have hs7:=E7.size;refine Wo_nil ?_
   refine ⟨trivial,?_⟩;refine Wh_take 7 rfl (by kernel_rfl) (by kernel_rfl) rfl (fun _ _=>opv_quo rfl rfl (by omega)) trivial ?_
   refine Wh_take 8 rfl (by kernel_rfl) (by kernel_rfl) rfl (fun _ _=>opv_mul rfl rfl (by omega)) trivial ?_;refine Wh_take 9 rfl (by kernel_rfl) (by kernel_rfl) rfl (fun _ _=>opv_add rfl rfl (by omega)) trivial ?_
   refine Wh_take 10 rfl (by kernel_rfl) (by kernel_rfl) rfl (fun _ _=>opv_build (ps:=[(0,.int _ _)]) (cs:=[_,_,_]) flat26 rfl rfl) trivial ?_;refine Wh_all (rs:=[12]) (by kernel_rfl) rfl ?_;refine WhAll_cons rfl ?_ ?_
   refine Wo_st3 rfl Tryd.sizeOf26 rfl rfl (by first | rfl | assumption) (by first | rfl | assumption) (by first | rfl | assumption) hB3 (by omega) Ehr2 ?_;rintro w8 E8 hB3 K2 hz2;have hr2:=hr2.wrote E8 (K2 _ (by omega)) hz2
   have hO:=hO.wrote K2 (by omega);have hB1:=hB1.of_heap (K2 _ (by omega));have hB2:=hB2.of_heap (K2 _ (by omega));have hB4:=hB4.of_heap (K2 _ (by omega))
   have hG:=grownBy_wrote hG Ehr2 E8 K2 hz2 (by first | exact .inr rfl | omega);refine Wo_nil ?_;refine ⟨trivial,?_⟩;refine Wh_done (by kernel_rfl) ?_;rotate_left;exact WhAll_nil;exact WhAll_nil;refine WhAll_cons rfl ?_ ?_
   refine Wo_call rfl (opc2 (a:=.pointer _) (b:=.int _ _) Tryd.call54 rfl rfl) (pick_ok _ _ (by assumption) (by omega)) ?_;rintro _ w7 ⟨y2,rfl,E7,hr2,hy2⟩;(try dsimp only at hy2);have hlhr2:=hr2.lt;have Ehr2:=hr2.old
   have hO:=hO.grown E7 (by omega);have hB1:=hB1.grown E7 (by simp only [ne_eq,Option.some.injEq];omega);have hB2:=hB2.grown E7 (by simp only [ne_eq,Option.some.injEq];omega)
   have hB3:=hB3.grown E7 (by simp only [ne_eq,Option.some.injEq];omega);have hB4:=hB4.grown E7 (by simp only [ne_eq,Option.some.injEq];omega);have hG:=grownBy_trans hG E7;have hs7:=E7.size;refine Wo_nil ?_
   refine ⟨trivial,?_⟩;refine Wh_take 7 rfl (by kernel_rfl) (by kernel_rfl) rfl (fun _ _=>opv_quo rfl rfl (by omega)) trivial ?_
   refine Wh_take 8 rfl (by kernel_rfl) (by kernel_rfl) rfl (fun _ _=>opv_mul rfl rfl (by omega)) trivial ?_;refine Wh_all (rs:=[4]) (by kernel_rfl) rfl ?_;refine WhAll_cons rfl ?_ ?_
   refine Wo_tblI Tryd.isAgg3 rfl rfl hB4 (by repeat (first | exact trivial | refine And.intro ⟨_,rfl,by decide⟩ ?_)) (by simp only [List.length_cons,List.length_nil];omega) ?_;intro z1 hz1;refine Wo_nil ?_;refine ⟨trivial,?_⟩
   refine Wh_take 9 rfl (by kernel_rfl) (by kernel_rfl) rfl (fun _ _=>opv_add rfl rfl (by omega)) trivial ?_
   refine Wh_take 10 rfl (by kernel_rfl) (by kernel_rfl) rfl (fun _ _=>opv_build (ps:=[(0,.int _ _)]) (cs:=[_,_,_]) flat26 rfl rfl) trivial ?_;refine Wh_all (rs:=[12]) (by kernel_rfl) rfl ?_;refine WhAll_cons rfl ?_ ?_
   refine Wo_st3 rfl Tryd.sizeOf26 rfl rfl (by first | rfl | assumption) (by first | rfl | assumption) (by first | rfl | assumption) hB3 (by omega) Ehr2 ?_;rintro w8 E8 hB3 K2 hz2;have hr2:=hr2.wrote E8 (K2 _ (by omega)) hz2
   have hO:=hO.wrote K2 (by omega);have hB1:=hB1.of_heap (K2 _ (by omega));have hB2:=hB2.of_heap (K2 _ (by omega));have hB4:=hB4.of_heap (K2 _ (by omega))
   have hG:=grownBy_wrote hG Ehr2 E8 K2 hz2 (by first | exact .inr rfl | omega);refine Wo_nil ?_;refine ⟨trivial,?_⟩;refine Wh_done (by kernel_rfl) ?_;rotate_left;exact WhAll_nil;exact WhAll_nil;exact WhAll_nil
   exact WhAll_nil;refine WhAll_cons rfl ?_ ?_;refine Wo_call rfl (opc2 (a:=.pointer _) (b:=.int _ _) Tryd.call54 rfl rfl) (pick_ok _ _ (by assumption) (by omega)) ?_;rintro _ w5 ⟨y1,rfl,E5,hr1,hy1⟩;(try dsimp only at hy1)
   have hlhr1:=hr1.lt;have Ehr1:=hr1.old;have hO:=(hO.ext (((E1.trans E2).trans E3).trans E4)).grown E5 (by omega);have hB1:=(hB1.ext ((E2.trans E3).trans E4)).grown E5 (by simp only [ne_eq,Option.some.injEq];omega)
   have hB2:=(hB2.ext (E3.trans E4)).grown E5 (by simp only [ne_eq,Option.some.injEq];omega);have hB3:=hB3.grown E5 (by simp only [ne_eq,Option.some.injEq];omega);have hG:=grownBy_trans hG E5;have hs5:=E5.size
   refine Wo_nil ?_;refine ⟨trivial,?_⟩;refine Wh_all (rs:=[0,6]) (by kernel_rfl) rfl ?_;refine WhAll_cons rfl ?_ ?_
   refine Wo_buildSliceH (ps:=[(0,.int _ _),(1,.int _ _),(2,.int _ _),(3,.int _ _),(4,.int _ _),(5,.int _ _),(6,.int _ _),(7,.int _ _)]) (cs:=[_,_,_,_,_,_,_,_]) rfl Tryd.underlying80 Tryd.sizeOf3 Tryd.zeroValue3 rfl rfl rfl rfl ?_
   rintro b4 w6 hb4 E6 hB4 hHb4;have hlb4:=hB4.lt;have hr1:=hr1.ext E6;have hG:=grownBy_ext hG E6;have hs6:=E6.size;refine Wo_nil ?_;refine ⟨trivial,?_⟩
   refine Wh_take 3 rfl (by kernel_rfl) (by kernel_rfl) rfl (fun _ _=>opv_indexAddr Tryd.underlying80 Tryd.sizeOf3 rfl rfl (by omega)) trivial ?_;refine Wh_all (rs:=[4,6]) (by kernel_rfl) rfl ?_;refine WhAll_cons rfl ?_ ?_
   refine Wo_tblI Tryd.isAgg3 rfl rfl hB4 (by repeat (first | exact trivial | refine And.intro ⟨_,rfl,by decide⟩ ?_)) (by simp only [List.length_cons,List.length_nil];omega) ?_;intro z1 hz1;refine Wo_nil ?_;refine ⟨trivial,?_⟩
   refine Wh_all (rs:=[6]) (by kernel_rfl) rfl ?_;refine WhAll_cons rfl ?_ ?_;refine Wo_call rfl (opc2 (a:=.pointer _) (b:=.int _ _) Tryd.call54 rfl rfl) (pick_ok _ _ (by assumption) (by omega)) ?_
   rintro _ w7 ⟨y2,rfl,E7,hr2,hy2⟩;(try dsimp only at hy2);have hlhr2:=hr2.lt;have Ehr2:=hr2.old;have hO:=(hO.ext E6).grown E7 (by omega);have hB1:=(hB1.ext E6).grown E7 (by simp only [ne_eq,Option.some.injEq];omega)
   have hB2:=(hB2.ext E6).grown E7 (by simp only [ne_eq,Option.some.injEq];omega);have hB3:=(hB3.ext E6).grown E7 (by simp only [ne_eq,Option.some.injEq];omega)
   have hB4:=hB4.grown E7 (by simp only [ne_eq,Option.some.injEq];omega);have hG:=grownBy_trans hG E7;have hs7:=E7.size;refine Wo_nil ?_;refine ⟨trivial,?_⟩
   refine Wh_take 7 rfl (by kernel_rfl) (by kernel_rfl) rfl (fun _ _=>opv_quo rfl rfl (by omega)) trivial ?_;refine Wh_take 8 rfl (by kernel_rfl) (by kernel_rfl) rfl (fun _ _=>opv_mul rfl rfl (by omega)) trivial ?_
   refine Wh_take 9 rfl (by kernel_rfl) (by kernel_rfl) rfl (fun _ _=>opv_add rfl rfl (by omega)) trivial ?_
   refine Wh_take 10 rfl (by kernel_rfl) (by kernel_rfl) rfl (fun _ _=>opv_build (ps:=[(0,.int _ _)]) (cs:=[_,_,_]) flat26 rfl rfl) trivial ?_;refine Wh_all (rs:=[12]) (by kernel_rfl) rfl ?_;refine WhAll_cons rfl ?_ ?_
   refine Wo_st3 rfl Tryd.sizeOf26 rfl rfl (by first | rfl | assumption) (by first | rfl | assumption) (by first | rfl | assumption) hB3 (by omega) Ehr2 ?_;rintro w8 E8 hB3 K2 hz2;have hr2:=hr2.wrote E8 (K2 _ (by omega)) hz2
   have hO:=hO.wrote K2 (by omega);have hB1:=hB1.of_heap (K2 _ (by omega));have hB2:=hB2.of_heap (K2 _ (by omega));have hB4:=hB4.of_heap (K2 _ (by omega))
   have hG:=grownBy_wrote hG Ehr2 E8 K2 hz2 (by first | exact .inr rfl | omega);refine Wo_nil ?_;refine ⟨trivial,?_⟩;refine Wh_done (by kernel_rfl) ?_;rotate_left;exact WhAll_nil;exact WhAll_nil;refine WhAll_cons rfl ?_ ?_
   refine Wo_call rfl (opc2 (a:=.pointer _) (b:=.int _ _) Tryd.call54 rfl rfl) (pick_ok _ _ (by assumption) (by omega)) ?_;rintro _ w7 ⟨y2,rfl,E7,hr2,hy2⟩;(try dsimp only at hy2);have hlhr2:=hr2.lt;have Ehr2:=hr2.old
   have hO:=(hO.ext E6).grown E7 (by omega);have hB1:=(hB1.ext E6).grown E7 (by simp only [ne_eq,Option.some.injEq];omega);have hB2:=(hB2.ext E6).grown E7 (by simp only [ne_eq,Option.some.injEq];omega)
   have hB3:=(hB3.ext E6).grown E7 (by simp only [ne_eq,Option.some.injEq];omega);have hB4:=hB4.grown E7 (by simp only [ne_eq,Option.some.injEq];omega);have hG:=grownBy_trans hG E7;have hs7:=E7.size;refine Wo_nil ?_
   refine ⟨trivial,?_⟩;refine Wh_take 7 rfl (by kernel_rfl) (by kernel_rfl) rfl (fun _ _=>opv_quo rfl rfl (by omega)) trivial ?_
   refine Wh_take 8 rfl (by kernel_rfl) (by kernel_rfl) rfl (fun _ _=>opv_mul rfl rfl (by omega)) trivial ?_;refine Wh_all (rs:=[4]) (by kernel_rfl) rfl ?_;refine WhAll_cons rfl ?_ ?_
   refine Wo_tblI Tryd.isAgg3 rfl rfl hB4 (by repeat (first | exact trivial | refine And.intro ⟨_,rfl,by decide⟩ ?_)) (by simp only [List.length_cons,List.length_nil];omega) ?_;intro z1 hz1;refine Wo_nil ?_;refine ⟨trivial,?_⟩
   refine Wh_take 9 rfl (by kernel_rfl) (by kernel_rfl) rfl (fun _ _=>opv_add rfl rfl (by omega)) trivial ?_
   refine Wh_take 10 rfl (by kernel_rfl) (by kernel_rfl) rfl (fun _ _=>opv_build (ps:=[(0,.int _ _)]) (cs:=[_,_,_]) flat26 rfl rfl) trivial ?_;refine Wh_all (rs:=[12]) (by kernel_rfl) rfl ?_;refine WhAll_cons rfl ?_ ?_
   refine Wo_st3 rfl Tryd.sizeOf26 rfl rfl (by first | rfl | assumption) (by first | rfl | assumption) (by first | rfl | assumption) hB3 (by omega) Ehr2 ?_;rintro w8 E8 hB3 K2 hz2;have hr2:=hr2.wrote E8 (K2 _ (by omega)) hz2
   have hO:=hO.wrote K2 (by omega);have hB1:=hB1.of_heap (K2 _ (by omega));have hB2:=hB2.of_heap (K2 _ (by omega));have hB4:=hB4.of_heap (K2 _ (by omega))
   have hG:=grownBy_wrote hG Ehr2 E8 K2 hz2 (by first | exact .inr rfl | omega);refine Wo_nil ?_;refine ⟨trivial,?_⟩;refine Wh_done (by kernel_rfl) ?_;rotate_left;exact WhAll_nil;exact WhAll_nil;exact WhAll_nil
   refine WhAll_cons rfl ?_ ?_;refine Wo_call rfl (opc2 (a:=.pointer _) (b:=.int _ _) Tryd.call54 rfl rfl) (pick_ok _ _ (by assumption) (by omega)) ?_;rintro _ w6 ⟨y2,rfl,E6,hr2,hy2⟩;(try dsimp only at hy2)
   have hlhr2:=hr2.lt;have Ehr2:=hr2.old;have hO:=hO.grown E6 (by omega);have hB1:=hB1.grown E6 (by simp only [ne_eq,Option.some.injEq];omega);have hB2:=hB2.grown E6 (by simp only [ne_eq,Option.some.injEq];omega)
   have hB3:=hB3.grown E6 (by simp only [ne_eq,Option.some.injEq];omega);have hG:=grownBy_trans hG E6;have hs6:=E6.size;refine Wo_nil ?_;refine ⟨trivial,?_⟩
   refine Wh_take 7 rfl (by kernel_rfl) (by kernel_rfl) rfl (fun _ _=>opv_quo rfl rfl (by omega)) trivial ?_;refine Wh_take 8 rfl (by kernel_rfl) (by kernel_rfl) rfl (fun _ _=>opv_mul rfl rfl (by omega)) trivial ?_
   refine Wh_all (rs:=[0]) (by kernel_rfl) rfl ?_;refine WhAll_cons rfl ?_ ?_
   refine Wo_buildSliceH (ps:=[(0,.int _ _),(1,.int _ _),(2,.int _ _),(3,.int _ _),(4,.int _ _),(5,.int _ _),(6,.int _ _),(7,.int _ _)]) (cs:=[_,_,_,_,_,_,_,_]) rfl Tryd.underlying80 Tryd.sizeOf3 Tryd.zeroValue3 rfl rfl rfl rfl ?_
   rintro b4 w7 hb4 E7 hB4 hHb4;have hlb4:=hB4.lt;have hr2:=hr2.ext E7;have hG:=grownBy_ext hG E7;have hs7:=E7.size;refine Wo_nil ?_;refine ⟨trivial,?_⟩
   refine Wh_take 3 rfl (by kernel_rfl) (by kernel_rfl) rfl (fun _ _=>opv_indexAddr Tryd.underlying80 Tryd.sizeOf3 rfl rfl (by omega)) trivial ?_;refine Wh_all (rs:=[4]) (by kernel_rfl) rfl ?_;refine WhAll_cons rfl ?_ ?_
   refine Wo_tblI Tryd.isAgg3 rfl rfl hB4 (by repeat (first | exact trivial | refine And.intro ⟨_,rfl,by decide⟩ ?_)) (by simp only [List.length_cons,List.length_nil];omega) ?_;intro z1 hz1;refine Wo_nil ?_;refine ⟨trivial,?_⟩
   refine Wh_take 9 rfl (by kernel_rfl) (by kernel_rfl) rfl (fun _ _=>opv_add rfl rfl (by omega)) trivial ?_
   refine Wh_take 10 rfl (by kernel_rfl) (by kernel_rfl) rfl (fun _ _=>opv_build (ps:=[(0,.int _ _)]) (cs:=[_,_,_]) flat26 rfl rfl) trivial ?_;refine Wh_all (rs:=[12]) (by kernel_rfl) rfl ?_;refine WhAll_cons rfl ?_ ?_
   refine Wo_st3 rfl Tryd.sizeOf26 rfl rfl (by first | rfl | assumption) (by first | rfl | assumption) (by first | rfl | assumption) (hB3.ext E7) (by omega) (Ehr2.trans E7) ?_;rintro w8 E8 hB3 K2 hz2
   have hO:=(hO.ext E7).wrote K2 (by omega);have hB1:=(hB1.ext E7).of_heap (K2 _ (by omega));have hB2:=(hB2.ext E7).of_heap (K2 _ (by omega));have hB4:=hB4.of_heap (K2 _ (by omega))
   have hr2:=hr2.wrote E8 (K2 _ (by omega)) hz2;have hG:=grownBy_wrote hG (Ehr2.trans E7) E8 K2 hz2 (by first | exact .inr rfl | omega);refine Wo_nil ?_;refine ⟨trivial,?_⟩;refine Wh_done (by kernel_rfl) ?_;rotate_left
   exact WhAll_nil;exact WhAll_nil;exact WhAll_nil;exact WhAll_nil;exact WhAll_nil;exact WhAll_nil
  all_goals
   have hy2':=hy2 (by omega)
   first
    | exact ⟨(b3,_),⟨rfl,trivial⟩,by repeat (first | with_reducible exact Same.refl | refine Same.upd rfl ?_ | refine Same.upds rfl ?_ | refine Same.mix rfl ?_),hG,hr2,by omega,by omega,hB1,hB2,hB3,hO,by omega,by omega⟩
    | exact ⟨(b4,_),⟨rfl,trivial⟩,by repeat (first | with_reducible exact Same.refl | refine Same.upd rfl ?_ | refine Same.upds rfl ?_ | refine Same.mix rfl ?_),hG,hr2,by omega,by omega,hB1,hB2,hB4,hO,by omega,by omega⟩
 clear hr hG hB1 hB2 hO
 rintro ⟨b,k⟩ ρ1 w3 ⟨hG,hr,hb3,hb4,hB1,hB2,hB3,hO,hk1,hk2⟩
 have E3:=hr.old
 have hlr3:=hr.lt
 have hs3:=hG.size
 rcases hp with rfl | hp
 ·have h0:([]:List (List Int)).length=0:=rfl
  focus
   have szE3:=E3.size;have szE2:=E2.size;have szE1:=E1.size;have szE0:=E0.size;refine W_seq ?_;refine W_seq ?_;refine W_region rfl ?_;refine Wo rfl (opv_fieldAddr Tryd.underlying26 rfl rfl Tryd.sizeOf3 rfl) ?_
   refine Wo (v:=.int _ _) rfl (opv_load Tryd.isAgg3 rfl (hB3.cell rfl)) ?_;refine Wo_nil ?_;refine W_block ?_;refine W_seq ?_;refine W_seq ?_;refine W_region rfl ?_;refine Wo rfl (opv_eql rfl rfl) ?_
   refine Wo rfl (opv_assign (v:=.bool _) rfl) ?_;refine Wo_nil ?_;refine W_cond_dec rfl (fun h1=>?_) (fun h1=>?_);refine W_skip ?_;refine W_cond_dec rfl (fun h2=>?_) (fun h2=>?_);refine W_seq ?_;refine W_region rfl ?_
   refine Wo_buildSlice (ps:=[(0,.string _),(1,.string _),(2,.string _),(3,.string _),(4,.string _)]) (cs:=[_,_,_,_,_]) rfl Tryd.underlying65 Tryd.sizeOf9 Tryd.zeroValue9 rfl rfl rfl rfl ?_;rintro b3 w4 hb5 E4 hB4
   have hlb3:=hB4.lt;have hG:=grownBy_ext hG E4;have hr:=hr.ext E4;have hs4:=E4.size;refine Wo rfl (opv_move (v:=.pointer _) rfl) ?_
   refine Wo_call rfl (opc2 (a:=.pointer _) (b:=.int _ _) Tryd.call54 rfl rfl) (pick_ok _ _ (by assumption) (by omega)) ?_;rintro _ w5 ⟨y1,rfl,E5,hr1,hy1⟩;(try dsimp only at hy1);have hlhr1:=hr1.lt;have Ehr1:=hr1.old
   have hB1:=(hB1.ext E4).grown E5 (by simp only [ne_eq,Option.some.injEq];omega);have hB2:=(hB2.ext E4).grown E5 (by simp only [ne_eq,Option.some.injEq];omega)
   have hB3:=(hB3.ext E4).grown E5 (by simp only [ne_eq,Option.some.injEq];omega);have hO:=(hO.ext E4).grown E5 (by omega);have hB4:=hB4.grown E5 (by simp only [ne_eq,Option.some.injEq];omega)
   have hG:=grownBy_trans hG E5;have hs5:=E5.size;refine Wo rfl (opv_indexAddr Tryd.underlying65 Tryd.sizeOf9 rfl rfl (by omega)) ?_
   refine Wo_tbl 0 Tryd.isAgg9 rfl rfl hB4 (by repeat (first | exact trivial | refine And.intro ⟨_,rfl,by decide⟩ ?_)) (by simp only [List.length_cons,List.length_nil];omega) ?_;intro s1 hs1
   refine Wo rfl (opv_fieldAddr Tryd.underlying26 rfl rfl Tryd.sizeOf9 rfl) ?_;refine Wo_st (v:=.string _) rfl Tryd.sizeOf9 rfl rfl rfl hB3 (by simp) (by omega) Ehr1 ?_;rintro w6 E6 hB3 K1 hz1;simp only [List.set] at hB3
   have hr1:=hr1.wrote E6 (K1 _ (by omega)) hz1;have hB1:=hB1.of_heap (K1 _ (by omega));have hB2:=hB2.of_heap (K1 _ (by omega));have hO:=hO.wrote K1 (by omega);have hB4:=hB4.of_heap (K1 _ (by omega))
   have hG:=grownBy_wrote hG Ehr1 E6 K1 hz1 (by first | exact .inr rfl | omega);refine Wo_nil ?_;refine W_seq ?_;refine W_region rfl ?_;refine Wo rfl (opv_fieldAddr Tryd.underlying53 rfl rfl Tryd.sizeOf49 rfl) ?_
   refine Wo (v:=u1) rfl (opv_load Tryd.isAgg49 rfl (hB1.cell rfl)) ?_;refine Wo rfl (opv_len Tryd.underlying49 rfl (OwnedB.read hO)) ?_;refine Wo rfl (opv_gtr rfl rfl) ?_
   refine Wo_split_dec rfl (opv_move (v:=.bool _) rfl) (fun h3=>?_) (fun h3=>?_);contradiction;refine Wo_skip rfl ?_;refine Wo_skip rfl ?_;refine Wo_skip rfl ?_;refine Wo rfl (opv_pick_f (v:=.bool _) rfl rfl) ?_
   refine Wo_nil ?_;refine W_cond_false rfl ?_;refine W_skip ?_;refine W_seq ?_;refine W_seq ?_;refine W_region rfl ?_;refine Wo rfl (opv_move (v:=.pointer _) rfl) ?_
   refine Wo_call rfl (opc2 (a:=.pointer _) (b:=.int _ _) Tryd.call57 rfl rfl) (odd_ok _ _ (by assumption) (by omega) (by omega)) ?_;rintro _ w7 ⟨y2,rfl,E7,hr2,hy2⟩;(try dsimp only at hy2);have hlhr2:=hr2.lt
   have Ehr2:=hr2.old;have hB3:=hB3.grown E7 (by simp only [ne_eq,Option.some.injEq];omega);have hB1:=hB1.grown E7 (by simp only [ne_eq,Option.some.injEq];omega)
   have hB2:=hB2.grown E7 (by simp only [ne_eq,Option.some.injEq];omega);have hO:=hO.grown E7 (by omega);have hB4:=hB4.grown E7 (by simp only [ne_eq,Option.some.injEq];omega);have hG:=grownBy_trans hG E7
   have hs6:=E7.size;refine Wo_nil ?_;refine W_cond rfl (fun h4=>?_) (fun h4=>?_);refine W_region rfl ?_;refine Wo rfl (opv_fieldAddr Tryd.underlying26 rfl rfl Tryd.sizeOf9 rfl) ?_
   refine Wo (v:=.string _) rfl (opv_load Tryd.isAgg9 rfl (hB3.cell rfl)) ?_;refine Wo rfl (opv_add_str rfl rfl (by simp <;> omega)) ?_;refine Wo rfl (opv_fieldAddr Tryd.underlying26 rfl rfl Tryd.sizeOf9 rfl) ?_
   refine Wo_st (v:=.string _) rfl Tryd.sizeOf9 rfl rfl rfl hB3 (by simp) (by omega) Ehr2 ?_;rintro w8 E8 hB3 K2 hz2;simp only [List.set] at hB3;have hr2:=hr2.wrote E8 (K2 _ (by omega)) hz2
   have hB1:=hB1.of_heap (K2 _ (by omega));have hB2:=hB2.of_heap (K2 _ (by omega));have hO:=hO.wrote K2 (by omega);have hB4:=hB4.of_heap (K2 _ (by omega))
   have hG:=grownBy_wrote hG Ehr2 E8 K2 hz2 (by first | exact .inr rfl | omega);refine Wo_nil ?_;refine W_seq ?_;refine W_region rfl ?_;refine Wo (v:=.agg _) rfl (opv_load3 Tryd.isAgg26 Tryd.sizeOf26 rfl hB3) ?_
   refine Wo_st3 rfl Tryd.sizeOf26 rfl rfl (by first | rfl | assumption) (by first | rfl | assumption) (by first | rfl | assumption) hB2 (by omega) E8 ?_;rintro w9 E9 hB2 K3 hz3;have hB3:=hB3.of_heap (K3 _ (by omega))
   have hr2:=hr2.wrote E9 (K3 _ (by omega)) hz3;have hB1:=hB1.of_heap (K3 _ (by omega));have hO:=hO.wrote K3 (by omega);have hB4:=hB4.of_heap (K3 _ (by omega))
   have hG:=grownBy_wrote hG E8 E9 K3 hz3 (by first | exact .inr rfl | omega);refine Wo_nil ?_;refine W_ret ?_;rotate_left;refine W_skip ?_;refine W_seq ?_;refine W_region rfl ?_
   refine Wo (v:=.agg _) rfl (opv_load3 Tryd.isAgg26 Tryd.sizeOf26 rfl hB3) ?_;refine Wo_st3 rfl Tryd.sizeOf26 rfl rfl (by first | rfl | assumption) (by first | rfl | assumption) (by first | rfl | assumption) hB2 (by omega) Ehr2 ?_
   rintro w8 E8 hB2 K2 hz2;have hr2:=hr2.wrote E8 (K2 _ (by omega)) hz2;have hB3:=hB3.of_heap (K2 _ (by omega));have hB1:=hB1.of_heap (K2 _ (by omega));have hO:=hO.wrote K2 (by omega)
   have hB4:=hB4.of_heap (K2 _ (by omega));have hG:=grownBy_wrote hG Ehr2 E8 K2 hz2 (by first | exact .inr rfl | omega);refine Wo_nil ?_;refine W_ret ?_;rotate_left;contradiction;refine W_region rfl ?_
   refine Wo rfl (opv_eql rfl rfl) ?_;refine Wo rfl (opv_assign (v:=.bool _) rfl) ?_;refine Wo_nil ?_;refine W_cond_dec rfl (fun h2=>?_) (fun h2=>?_);refine W_seq ?_;refine W_region rfl ?_
   refine Wo_buildSlice (ps:=[(0,.string _),(1,.string _),(2,.string _),(3,.string _),(4,.string _)]) (cs:=[_,_,_,_,_]) rfl Tryd.underlying65 Tryd.sizeOf9 Tryd.zeroValue9 rfl rfl rfl rfl ?_;rintro b3 w4 hb5 E4 hB4
   have hlb3:=hB4.lt;have hG:=grownBy_ext hG E4;have hr:=hr.ext E4;have hs4:=E4.size;refine Wo rfl (opv_move (v:=.pointer _) rfl) ?_
   refine Wo_call rfl (opc2 (a:=.pointer _) (b:=.int _ _) Tryd.call54 rfl rfl) (pick_ok _ _ (by assumption) (by omega)) ?_;rintro _ w5 ⟨y1,rfl,E5,hr1,hy1⟩;(try dsimp only at hy1);have hlhr1:=hr1.lt;have Ehr1:=hr1.old
   have hB1:=(hB1.ext E4).grown E5 (by simp only [ne_eq,Option.some.injEq];omega);have hB2:=(hB2.ext E4).grown E5 (by simp only [ne_eq,Option.some.injEq];omega)
   have hB3:=(hB3.ext E4).grown E5 (by simp only [ne_eq,Option.some.injEq];omega);have hO:=(hO.ext E4).grown E5 (by omega);have hB4:=hB4.grown E5 (by simp only [ne_eq,Option.some.injEq];omega)
   have hG:=grownBy_trans hG E5;have hs5:=E5.size;refine Wo rfl (opv_indexAddr Tryd.underlying65 Tryd.sizeOf9 rfl rfl (by omega)) ?_
   refine Wo_tbl 0 Tryd.isAgg9 rfl rfl hB4 (by repeat (first | exact trivial | refine And.intro ⟨_,rfl,by decide⟩ ?_)) (by simp only [List.length_cons,List.length_nil];omega) ?_;intro s1 hs1
   refine Wo rfl (opv_fieldAddr Tryd.underlying26 rfl rfl Tryd.sizeOf9 rfl) ?_;refine Wo_st (v:=.string _) rfl Tryd.sizeOf9 rfl rfl rfl hB3 (by simp) (by omega) Ehr1 ?_;rintro w6 E6 hB3 K1 hz1;simp only [List.set] at hB3
   have hr1:=hr1.wrote E6 (K1 _ (by omega)) hz1;have hB1:=hB1.of_heap (K1 _ (by omega));have hB2:=hB2.of_heap (K1 _ (by omega));have hO:=hO.wrote K1 (by omega);have hB4:=hB4.of_heap (K1 _ (by omega))
   have hG:=grownBy_wrote hG Ehr1 E6 K1 hz1 (by first | exact .inr rfl | omega);refine Wo_nil ?_;refine W_seq ?_;refine W_region rfl ?_;refine Wo rfl (opv_fieldAddr Tryd.underlying53 rfl rfl Tryd.sizeOf49 rfl) ?_
   refine Wo (v:=u1) rfl (opv_load Tryd.isAgg49 rfl (hB1.cell rfl)) ?_;refine Wo rfl (opv_len Tryd.underlying49 rfl (OwnedB.read hO)) ?_;refine Wo rfl (opv_gtr rfl rfl) ?_
   refine Wo_split_dec rfl (opv_move (v:=.bool _) rfl) (fun h3=>?_) (fun h3=>?_);contradiction;refine Wo_skip rfl ?_;refine Wo_skip rfl ?_;refine Wo_skip rfl ?_;refine Wo rfl (opv_pick_f (v:=.bool _) rfl rfl) ?_
   refine Wo_nil ?_;refine W_cond_false rfl ?_;refine W_skip ?_;refine W_seq ?_;refine W_seq ?_;refine W_region rfl ?_;refine Wo rfl (opv_move (v:=.pointer _) rfl) ?_
   refine Wo_call rfl (opc2 (a:=.pointer _) (b:=.int _ _) Tryd.call57 rfl rfl) (odd_ok _ _ (by assumption) (by omega) (by omega)) ?_;rintro _ w7 ⟨y2,rfl,E7,hr2,hy2⟩;(try dsimp only at hy2);have hlhr2:=hr2.lt
   have Ehr2:=hr2.old;have hB3:=hB3.grown E7 (by simp only [ne_eq,Option.some.injEq];omega);have hB1:=hB1.grown E7 (by simp only [ne_eq,Option.some.injEq];omega)
   have hB2:=hB2.grown E7 (by simp only [ne_eq,Option.some.injEq];omega);have hO:=hO.grown E7 (by omega);have hB4:=hB4.grown E7 (by simp only [ne_eq,Option.some.injEq];omega);have hG:=grownBy_trans hG E7
   have hs6:=E7.size;refine Wo_nil ?_;refine W_cond rfl (fun h4=>?_) (fun h4=>?_);refine W_region rfl ?_;refine Wo rfl (opv_fieldAddr Tryd.underlying26 rfl rfl Tryd.sizeOf9 rfl) ?_
   refine Wo (v:=.string _) rfl (opv_load Tryd.isAgg9 rfl (hB3.cell rfl)) ?_;refine Wo rfl (opv_add_str rfl rfl (by simp <;> omega)) ?_;refine Wo rfl (opv_fieldAddr Tryd.underlying26 rfl rfl Tryd.sizeOf9 rfl) ?_
   refine Wo_st (v:=.string _) rfl Tryd.sizeOf9 rfl rfl rfl hB3 (by simp) (by omega) Ehr2 ?_;rintro w8 E8 hB3 K2 hz2;simp only [List.set] at hB3;have hr2:=hr2.wrote E8 (K2 _ (by omega)) hz2
   have hB1:=hB1.of_heap (K2 _ (by omega));have hB2:=hB2.of_heap (K2 _ (by omega));have hO:=hO.wrote K2 (by omega);have hB4:=hB4.of_heap (K2 _ (by omega))
   have hG:=grownBy_wrote hG Ehr2 E8 K2 hz2 (by first | exact .inr rfl | omega);refine Wo_nil ?_;refine W_seq ?_;refine W_region rfl ?_;refine Wo (v:=.agg _) rfl (opv_load3 Tryd.isAgg26 Tryd.sizeOf26 rfl hB3) ?_
   refine Wo_st3 rfl Tryd.sizeOf26 rfl rfl (by first | rfl | assumption) (by first | rfl | assumption) (by first | rfl | assumption) hB2 (by omega) E8 ?_;rintro w9 E9 hB2 K3 hz3;have hB3:=hB3.of_heap (K3 _ (by omega))
   have hr2:=hr2.wrote E9 (K3 _ (by omega)) hz3;have hB1:=hB1.of_heap (K3 _ (by omega));have hO:=hO.wrote K3 (by omega);have hB4:=hB4.of_heap (K3 _ (by omega))
   have hG:=grownBy_wrote hG E8 E9 K3 hz3 (by first | exact .inr rfl | omega);refine Wo_nil ?_;refine W_ret ?_;rotate_left;refine W_skip ?_;refine W_seq ?_;refine W_region rfl ?_
   refine Wo (v:=.agg _) rfl (opv_load3 Tryd.isAgg26 Tryd.sizeOf26 rfl hB3) ?_;refine Wo_st3 rfl Tryd.sizeOf26 rfl rfl (by first | rfl | assumption) (by first | rfl | assumption) (by first | rfl | assumption) hB2 (by omega) Ehr2 ?_
   rintro w8 E8 hB2 K2 hz2;have hr2:=hr2.wrote E8 (K2 _ (by omega)) hz2;have hB3:=hB3.of_heap (K2 _ (by omega));have hB1:=hB1.of_heap (K2 _ (by omega));have hO:=hO.wrote K2 (by omega)
   have hB4:=hB4.of_heap (K2 _ (by omega));have hG:=grownBy_wrote hG Ehr2 E8 K2 hz2 (by first | exact .inr rfl | omega);refine Wo_nil ?_;refine W_ret ?_;rotate_left;refine W_seq ?_;refine W_region rfl ?_
   refine Wo rfl (opv_eql rfl rfl) ?_;refine Wo rfl (opv_assign (v:=.bool _) rfl) ?_;refine Wo_nil ?_;refine W_cond_dec rfl (fun h3=>?_) (fun h3=>?_);refine W_region rfl ?_;refine Wo rfl (opv_move (v:=.pointer _) rfl) ?_
   refine Wo rfl (opv_fieldAddr Tryd.underlying53 rfl rfl Tryd.sizeOf49 rfl) ?_;refine Wo (v:=u1) rfl (opv_load Tryd.isAgg49 rfl (hB1.cell rfl)) ?_;refine Wo rfl (opv_len Tryd.underlying49 rfl (OwnedB.read hO)) ?_
   refine Wo rfl (opv_max rfl rfl) ?_;refine Wo_call rfl (opc2 (a:=.pointer _) (b:=.int _ _) Tryd.call54 rfl rfl) (pick_ok _ _ (by assumption) (by omega)) ?_;rintro _ w4 ⟨y1,rfl,E4,hr1,hy1⟩;(try dsimp only at hy1)
   have hlhr1:=hr1.lt;have Ehr1:=hr1.old;have hG:=grownBy_trans hG E4;have hB1:=hB1.grown E4 (by simp only [ne_eq,Option.some.injEq];omega);have hB2:=hB2.grown E4 (by simp only [ne_eq,Option.some.injEq];omega)
   have hB3:=hB3.grown E4 (by simp only [ne_eq,Option.some.injEq];omega);have hO:=hO.grown E4 (by omega);have hs4:=E4.size;refine Wo rfl (opv_fieldAddr Tryd.underlying26 rfl rfl Tryd.sizeOf3 rfl) ?_
   refine Wo_st (v:=.int _ _) rfl Tryd.sizeOf3 rfl rfl rfl hB3 (by simp) (by omega) Ehr1 ?_;rintro w5 E5 hB3 K1 hz1;simp only [List.set] at hB3;have hr1:=hr1.wrote E5 (K1 _ (by omega)) hz1
   have hG:=grownBy_wrote hG Ehr1 E5 K1 hz1 (by first | exact .inr rfl | omega);have hB1:=hB1.of_heap (K1 _ (by omega));have hB2:=hB2.of_heap (K1 _ (by omega));have hO:=hO.wrote K1 (by omega);refine Wo_nil ?_
   refine W_seq ?_;refine W_seq ?_;refine W_region rfl ?_;refine Wo rfl (opv_move (v:=.pointer _) rfl) ?_
   refine Wo_call rfl (opc2 (a:=.pointer _) (b:=.int _ _) Tryd.call57 rfl rfl) (odd_ok _ _ (by assumption) (by omega) (by omega)) ?_;rintro _ w6 ⟨y2,rfl,E6,hr2,hy2⟩;(try dsimp only at hy2);have hlhr2:=hr2.lt
   have Ehr2:=hr2.old;have hB3:=hB3.grown E6 (by simp only [ne_eq,Option.some.injEq];omega);have hG:=grownBy_trans hG E6;have hB1:=hB1.grown E6 (by simp only [ne_eq,Option.some.injEq];omega)
   have hB2:=hB2.grown E6 (by simp only [ne_eq,Option.some.injEq];omega);have hO:=hO.grown E6 (by omega);have hs5:=E6.size;refine Wo_nil ?_;refine W_cond rfl (fun h4=>?_) (fun h4=>?_);refine W_region rfl ?_
   refine Wo rfl (opv_fieldAddr Tryd.underlying26 rfl rfl Tryd.sizeOf9 rfl) ?_;refine Wo (v:=.string _) rfl (opv_load Tryd.isAgg9 rfl (hB3.cell rfl)) ?_;refine Wo rfl (opv_add_str rfl rfl (by simp <;> omega)) ?_
   refine Wo rfl (opv_fieldAddr Tryd.underlying26 rfl rfl Tryd.sizeOf9 rfl) ?_;refine Wo_st (v:=.string _) rfl Tryd.sizeOf9 rfl rfl rfl hB3 (by simp) (by omega) Ehr2 ?_;rintro w7 E7 hB3 K2 hz2;simp only [List.set] at hB3
   have hr2:=hr2.wrote E7 (K2 _ (by omega)) hz2;have hG:=grownBy_wrote hG Ehr2 E7 K2 hz2 (by first | exact .inr rfl | omega);have hB1:=hB1.of_heap (K2 _ (by omega));have hB2:=hB2.of_heap (K2 _ (by omega))
   have hO:=hO.wrote K2 (by omega);refine Wo_nil ?_;refine W_seq ?_;refine W_region rfl ?_;refine Wo (v:=.agg _) rfl (opv_load3 Tryd.isAgg26 Tryd.sizeOf26 rfl hB3) ?_
   refine Wo_st3 rfl Tryd.sizeOf26 rfl rfl (by first | rfl | assumption) (by first | rfl | assumption) (by first | rfl | assumption) hB2 (by omega) E7 ?_;rintro w8 E8 hB2 K3 hz3;have hB3:=hB3.of_heap (K3 _ (by omega))
   have hr2:=hr2.wrote E8 (K3 _ (by omega)) hz3;have hG:=grownBy_wrote hG E7 E8 K3 hz3 (by first | exact .inr rfl | omega);have hB1:=hB1.of_heap (K3 _ (by omega));have hO:=hO.wrote K3 (by omega);refine Wo_nil ?_
   refine W_ret ?_;rotate_left;refine W_skip ?_;refine W_seq ?_;refine W_region rfl ?_;refine Wo (v:=.agg _) rfl (opv_load3 Tryd.isAgg26 Tryd.sizeOf26 rfl hB3) ?_
   refine Wo_st3 rfl Tryd.sizeOf26 rfl rfl (by first | rfl | assumption) (by first | rfl | assumption) (by first | rfl | assumption) hB2 (by omega) Ehr2 ?_;rintro w7 E7 hB2 K2 hz2;have hr2:=hr2.wrote E7 (K2 _ (by omega)) hz2
   have hB3:=hB3.of_heap (K2 _ (by omega));have hG:=grownBy_wrote hG Ehr2 E7 K2 hz2 (by first | exact .inr rfl | omega);have hB1:=hB1.of_heap (K2 _ (by omega));have hO:=hO.wrote K2 (by omega);refine Wo_nil ?_
   refine W_ret ?_;rotate_left;refine W_skip ?_;refine W_seq ?_;refine W_seq ?_;refine W_region rfl ?_;refine Wo rfl (opv_move (v:=.pointer _) rfl) ?_
   refine Wo_call rfl (opc2 (a:=.pointer _) (b:=.int _ _) Tryd.call57 rfl rfl) (odd_ok _ _ (by assumption) (by omega) (by omega)) ?_;rintro _ w4 ⟨y1,rfl,E4,hr1,hy1⟩;(try dsimp only at hy1);have hlhr1:=hr1.lt
   have Ehr1:=hr1.old;have hG:=grownBy_trans hG E4;have hB1:=hB1.grown E4 (by simp only [ne_eq,Option.some.injEq];omega);have hB2:=hB2.grown E4 (by simp only [ne_eq,Option.some.injEq];omega)
   have hB3:=hB3.grown E4 (by simp only [ne_eq,Option.some.injEq];omega);have hO:=hO.grown E4 (by omega);have hs4:=E4.size;refine Wo_nil ?_;refine W_cond rfl (fun h4=>?_) (fun h4=>?_);refine W_region rfl ?_
   refine Wo rfl (opv_fieldAddr Tryd.underlying26 rfl rfl Tryd.sizeOf9 rfl) ?_;refine Wo (v:=.string _) rfl (opv_load Tryd.isAgg9 rfl (hB3.cell rfl)) ?_;refine Wo rfl (opv_add_str rfl rfl (by simp <;> omega)) ?_
   refine Wo rfl (opv_fieldAddr Tryd.underlying26 rfl rfl Tryd.sizeOf9 rfl) ?_;refine Wo_st (v:=.string _) rfl Tryd.sizeOf9 rfl rfl rfl hB3 (by simp) (by omega) Ehr1 ?_;rintro w5 E5 hB3 K1 hz1;simp only [List.set] at hB3
   have hr1:=hr1.wrote E5 (K1 _ (by omega)) hz1;have hG:=grownBy_wrote hG Ehr1 E5 K1 hz1 (by first | exact .inr rfl | omega);have hB1:=hB1.of_heap (K1 _ (by omega));have hB2:=hB2.of_heap (K1 _ (by omega))
   have hO:=hO.wrote K1 (by omega);refine Wo_nil ?_;refine W_seq ?_;refine W_region rfl ?_;refine Wo (v:=.agg _) rfl (opv_load3 Tryd.isAgg26 Tryd.sizeOf26 rfl hB3) ?_
   refine Wo_st3 rfl Tryd.sizeOf26 rfl rfl (by first | rfl | assumption) (by first | rfl | assumption) (by first | rfl | assumption) hB2 (by omega) E5 ?_;rintro w6 E6 hB2 K2 hz2;have hB3:=hB3.of_heap (K2 _ (by omega))
   have hr1:=hr1.wrote E6 (K2 _ (by omega)) hz2;have hG:=grownBy_wrote hG E5 E6 K2 hz2 (by first | exact .inr rfl | omega);have hB1:=hB1.of_heap (K2 _ (by omega));have hO:=hO.wrote K2 (by omega);refine Wo_nil ?_
   refine W_ret ?_;rotate_left;refine W_skip ?_;refine W_seq ?_;refine W_region rfl ?_;refine Wo (v:=.agg _) rfl (opv_load3 Tryd.isAgg26 Tryd.sizeOf26 rfl hB3) ?_
   refine Wo_st3 rfl Tryd.sizeOf26 rfl rfl (by first | rfl | assumption) (by first | rfl | assumption) (by first | rfl | assumption) hB2 (by omega) Ehr1 ?_;rintro w5 E5 hB2 K1 hz1;have hr1:=hr1.wrote E5 (K1 _ (by omega)) hz1
   have hG:=grownBy_wrote hG Ehr1 E5 K1 hz1 (by first | exact .inr rfl | omega);have hB1:=hB1.of_heap (K1 _ (by omega));have hB3:=hB3.of_heap (K1 _ (by omega));have hO:=hO.wrote K1 (by omega);refine Wo_nil ?_
   refine W_ret ?_;rotate_left
  all_goals
   refine ⟨b2,_,_,_,rfl,hB2,_,_,_,rfl,hG,?_,?_⟩
   ·first | exact hr7.le (by omega) | exact hr6.le (by omega) | exact hr5.le (by omega) | exact hr4.le (by omega) | exact hr3.le (by omega) | exact hr2.le (by omega) | exact hr1.le (by omega) | exact hr.le (by omega)
   ·unfold DrP;simp only [List.length_append,List.length_cons,List.length_nil];omega
 ·have hp1:=hp.1
  have hp5:=hp.2.1
  have hal:=arr_le hp hp1
  have hail:=ints_len (arr p 0)
  have c1 : ∀ (w:World) (v:Value),ESl Ints w v p→Does Tryd.prog 75 [v,.int .i64 0] w (RetO w XI (ints (arr p 0))):=fun w v h=>l6Arrows_ok w v p h hp 0 hp1
  by_cases hL:LeastP p
  ·have c2 : ∀ (w:World) (v:Value),ESl Ints w v p→Does Tryd.prog 76 [v] w (Ret w (.bool true)):=fun w v h=>by
    have:=LeastOk_ok w v p h;rwa [decide_eq_true hL] at this
   have c3 : ∀ (i:Nat) (hi:i < (ints (arr p 0)).length) (w:World) (v:Value),ESl Ints w v p→Does Tryd.prog 60 [v,.int .i64 (ints (arr p 0))[i]] w (RetDX w XR Pic):=fun i hi w v h=>by
    have hi':i < (arr p 0).length:=by rw [← ints_len];exact hi
    rw [ints_get hi']
    have hlt:=arr_lt hp hp1 (List.getElem_mem hi')
    have hN:Nod p ((arr p 0)[i]:Nat):=⟨hL.1,by omega,by omega⟩
    refine (LeastOf_ok w v p h _).mono fun u w' ho=>?_
    rw [if_pos hN] at ho
    exact ⟨_,ho.1,ho.2,lst_pic hL.1 (by simpa using hlt)⟩
   have c4 : ∀ (w:World) (v:Value) (c:List (List Int)),ESl Ints w v c→Pic c→Does Tryd.prog 71 [v] w (RetX w str (fun s _=>s.length≤200)):=fun w v c h hc=>by
    refine (PictureText_ok w v c h).mono fun u w' ho=>?_
    rw [if_pos hc] at ho
    exact ⟨ho.2,_,ho.1,txt_len hc.gr⟩
   have stop9:True:=trivial
   focus
    have szE3:=E3.size;have szE2:=E2.size;have szE1:=E1.size;have szE0:=E0.size;refine W_seq ?_;refine W_seq ?_;refine W_region rfl ?_;refine Wo rfl (opv_fieldAddr Tryd.underlying26 rfl rfl Tryd.sizeOf3 rfl) ?_
    refine Wo (v:=.int _ _) rfl (opv_load Tryd.isAgg3 rfl (hB3.cell rfl)) ?_;refine Wo_nil ?_;refine W_block ?_;refine W_seq ?_;refine W_seq ?_;refine W_region rfl ?_;refine Wo rfl (opv_eql rfl rfl) ?_
    refine Wo rfl (opv_assign (v:=.bool _) rfl) ?_;refine Wo_nil ?_;refine W_cond_dec rfl (fun h1=>?_) (fun h1=>?_);refine W_skip ?_;refine W_cond_dec rfl (fun h2=>?_) (fun h2=>?_);refine W_seq ?_;refine W_region rfl ?_
    refine Wo_buildSlice (ps:=[(0,.string _),(1,.string _),(2,.string _),(3,.string _),(4,.string _)]) (cs:=[_,_,_,_,_]) rfl Tryd.underlying65 Tryd.sizeOf9 Tryd.zeroValue9 rfl rfl rfl rfl ?_;rintro b3 w4 hb5 E4 hB4
    have hlb3:=hB4.lt;have hG:=grownBy_ext hG E4;have hr:=hr.ext E4;have hs4:=E4.size;refine Wo rfl (opv_move (v:=.pointer _) rfl) ?_
    refine Wo_call rfl (opc2 (a:=.pointer _) (b:=.int _ _) Tryd.call54 rfl rfl) (pick_ok _ _ (by assumption) (by omega)) ?_;rintro _ w5 ⟨y1,rfl,E5,hr1,hy1⟩;(try dsimp only at hy1);have hlhr1:=hr1.lt;have Ehr1:=hr1.old
    have hB1:=(hB1.ext E4).grown E5 (by simp only [ne_eq,Option.some.injEq];omega);have hB2:=(hB2.ext E4).grown E5 (by simp only [ne_eq,Option.some.injEq];omega)
    have hB3:=(hB3.ext E4).grown E5 (by simp only [ne_eq,Option.some.injEq];omega);have hO:=(hO.ext E4).grown E5 (by omega);have hB4:=hB4.grown E5 (by simp only [ne_eq,Option.some.injEq];omega)
    have hG:=grownBy_trans hG E5;have hs5:=E5.size;refine Wo rfl (opv_indexAddr Tryd.underlying65 Tryd.sizeOf9 rfl rfl (by omega)) ?_
    refine Wo_tbl 0 Tryd.isAgg9 rfl rfl hB4 (by repeat (first | exact trivial | refine And.intro ⟨_,rfl,by decide⟩ ?_)) (by simp only [List.length_cons,List.length_nil];omega) ?_;intro s1 hs1
    refine Wo rfl (opv_fieldAddr Tryd.underlying26 rfl rfl Tryd.sizeOf9 rfl) ?_;refine Wo_st (v:=.string _) rfl Tryd.sizeOf9 rfl rfl rfl hB3 (by simp) (by omega) Ehr1 ?_;rintro w6 E6 hB3 K1 hz1;simp only [List.set] at hB3
    have hr1:=hr1.wrote E6 (K1 _ (by omega)) hz1;have hB1:=hB1.of_heap (K1 _ (by omega));have hB2:=hB2.of_heap (K1 _ (by omega));have hO:=hO.wrote K1 (by omega);have hB4:=hB4.of_heap (K1 _ (by omega))
    have hG:=grownBy_wrote hG Ehr1 E6 K1 hz1 (by first | exact .inr rfl | omega);refine Wo_nil ?_;refine W_seq ?_;refine W_region rfl ?_;refine Wo rfl (opv_fieldAddr Tryd.underlying53 rfl rfl Tryd.sizeOf49 rfl) ?_
    refine Wo (v:=u1) rfl (opv_load Tryd.isAgg49 rfl (hB1.cell rfl)) ?_;refine Wo rfl (opv_len Tryd.underlying49 rfl (OwnedB.read hO)) ?_;refine Wo rfl (opv_gtr rfl rfl) ?_
    refine Wo_split_dec rfl (opv_move (v:=.bool _) rfl) (fun h3=>?_) (fun h3=>?_);refine Wo rfl (opv_move (v:=.pointer _) rfl) ?_
    refine Wo_call rfl (opc2 (a:=.pointer _) (b:=.int _ _) Tryd.call54 rfl rfl) (pick_ok _ _ (by assumption) (by omega)) ?_;rintro _ w7 ⟨y2,rfl,E7,hr2,hy2⟩;(try dsimp only at hy2);have hlhr2:=hr2.lt;have Ehr2:=hr2.old
    have hB3:=hB3.grown E7 (by simp only [ne_eq,Option.some.injEq];omega);have hB1:=hB1.grown E7 (by simp only [ne_eq,Option.some.injEq];omega);have hB2:=hB2.grown E7 (by simp only [ne_eq,Option.some.injEq];omega)
    have hO:=hO.grown E7 (by omega);have hB4:=hB4.grown E7 (by simp only [ne_eq,Option.some.injEq];omega);have hG:=grownBy_trans hG E7;have hs6:=E7.size;refine Wo rfl (opv_eql rfl rfl) ?_
    refine Wo rfl (opv_pick_t (v:=.bool _) rfl rfl) ?_;refine Wo_nil ?_;refine W_cond_dec rfl (fun h4=>?_) (fun h4=>?_);refine W_seq ?_;refine W_region rfl ?_
    refine Wo rfl (opv_fieldAddr Tryd.underlying53 rfl rfl Tryd.sizeOf49 rfl) ?_;refine Wo (v:=u1) rfl (opv_load Tryd.isAgg49 rfl (hB1.cell rfl)) ?_
    refine Wo_call rfl (opc2 (a:=u1) (b:=.int _ _) Tryd.call75 rfl rfl) (c1 _ _ ((OwnedB.read hO))) ?_;rintro u3 w8 ⟨E8,hO1⟩;have hr2:=hr2.ext E8;have hG:=grownBy_ext hG E8;have hs7:=E8.size
    refine Wo rfl (opv_assign (v:=u3) rfl) ?_;refine Wo_nil ?_;refine W_seq ?_;refine W_region rfl ?_;refine Wo rfl (opv_move (v:=u3) rfl) ?_;refine Wo rfl (opv_len Tryd.underlying80 rfl (Owned.read hO1)) ?_
    refine Wo rfl (opv_gtr rfl rfl) ?_;refine Wo_split_dec rfl (opv_move (v:=.bool _) rfl) (fun h5=>?_) (fun h5=>?_);refine Wo rfl (opv_fieldAddr Tryd.underlying53 rfl rfl Tryd.sizeOf49 rfl) ?_
    refine Wo (v:=u1) rfl (opv_load Tryd.isAgg49 rfl ((hB1.ext E8).cell rfl)) ?_;refine Wo_call rfl (opc1 (a:=u1) Tryd.call76 rfl) (c2 _ _ ((Mono.mono E8 (OwnedB.read hO)))) ?_;rintro _ w9 ⟨rfl,E9⟩;have hr2:=hr2.ext E9
    have hG:=grownBy_ext hG E9;have hs8:=E9.size;refine Wo rfl (opv_pick_t (v:=.bool _) rfl rfl) ?_;refine Wo_nil ?_;refine W_cond_true rfl ?_;rotate_left;refine Wo_skip rfl ?_;refine Wo_skip rfl ?_;refine Wo_skip rfl ?_
    refine Wo rfl (opv_pick_f (v:=.bool _) rfl rfl) ?_;refine Wo_nil ?_;refine W_cond_false rfl ?_;refine W_skip ?_;refine W_seq ?_;refine W_seq ?_;refine W_region rfl ?_;refine Wo rfl (opv_move (v:=.pointer _) rfl) ?_
    refine Wo_call rfl (opc2 (a:=.pointer _) (b:=.int _ _) Tryd.call57 rfl rfl) (odd_ok _ _ (by assumption) (by omega) (by omega)) ?_;rintro _ w9 ⟨y3,rfl,E9,hr3,hy3⟩;(try dsimp only at hy3);have hlhr3:=hr3.lt
    have Ehr3:=hr3.old;have hB3:=(hB3.ext E8).grown E9 (by simp only [ne_eq,Option.some.injEq];omega);have hB1:=(hB1.ext E8).grown E9 (by simp only [ne_eq,Option.some.injEq];omega)
    have hB2:=(hB2.ext E8).grown E9 (by simp only [ne_eq,Option.some.injEq];omega);have hO:=(hO.ext E8).grown E9 (by omega);have hB4:=(hB4.ext E8).grown E9 (by simp only [ne_eq,Option.some.injEq];omega)
    have hO1:=hO1.toB.grown E9 (by omega);have hG:=grownBy_trans hG E9;have hs8:=E9.size;refine Wo_nil ?_;refine W_cond rfl (fun h6=>?_) (fun h6=>?_);refine W_region rfl ?_
    refine Wo rfl (opv_fieldAddr Tryd.underlying26 rfl rfl Tryd.sizeOf9 rfl) ?_;refine Wo (v:=.string _) rfl (opv_load Tryd.isAgg9 rfl (hB3.cell rfl)) ?_;refine Wo rfl (opv_add_str rfl rfl (by simp <;> omega)) ?_
    refine Wo rfl (opv_fieldAddr Tryd.underlying26 rfl rfl Tryd.sizeOf9 rfl) ?_;refine Wo_st (v:=.string _) rfl Tryd.sizeOf9 rfl rfl rfl hB3 (by simp) (by omega) Ehr3 ?_;rintro w10 E10 hB3 K2 hz2;simp only [List.set] at hB3
    have hr3:=hr3.wrote E10 (K2 _ (by omega)) hz2;have hB1:=hB1.of_heap (K2 _ (by omega));have hB2:=hB2.of_heap (K2 _ (by omega));have hO:=hO.wrote K2 (by omega);have hB4:=hB4.of_heap (K2 _ (by omega))
    have hO1:=hO1.wrote K2 (by omega);have hG:=grownBy_wrote hG Ehr3 E10 K2 hz2 (by first | exact .inr rfl | omega);refine Wo_nil ?_;refine W_seq ?_;refine W_region rfl ?_
    refine Wo (v:=.agg _) rfl (opv_load3 Tryd.isAgg26 Tryd.sizeOf26 rfl hB3) ?_;refine Wo_st3 rfl Tryd.sizeOf26 rfl rfl (by first | rfl | assumption) (by first | rfl | assumption) (by first | rfl | assumption) hB2 (by omega) E10 ?_
    rintro w11 E11 hB2 K3 hz3;have hB3:=hB3.of_heap (K3 _ (by omega));have hr3:=hr3.wrote E11 (K3 _ (by omega)) hz3;have hB1:=hB1.of_heap (K3 _ (by omega));have hO:=hO.wrote K3 (by omega)
    have hB4:=hB4.of_heap (K3 _ (by omega));have hO1:=hO1.wrote K3 (by omega);have hG:=grownBy_wrote hG E10 E11 K3 hz3 (by first | exact .inr rfl | omega);refine Wo_nil ?_;refine W_ret ?_;rotate_left;refine W_skip ?_
    refine W_seq ?_;refine W_region rfl ?_;refine Wo (v:=.agg _) rfl (opv_load3 Tryd.isAgg26 Tryd.sizeOf26 rfl hB3) ?_
    refine Wo_st3 rfl Tryd.sizeOf26 rfl rfl (by first | rfl | assumption) (by first | rfl | assumption) (by first | rfl | assumption) hB2 (by omega) Ehr3 ?_;rintro w10 E10 hB2 K2 hz2;have hr3:=hr3.wrote E10 (K2 _ (by omega)) hz2
    have hB3:=hB3.of_heap (K2 _ (by omega));have hB1:=hB1.of_heap (K2 _ (by omega));have hO:=hO.wrote K2 (by omega);have hB4:=hB4.of_heap (K2 _ (by omega));have hO1:=hO1.wrote K2 (by omega)
    have hG:=grownBy_wrote hG Ehr3 E10 K2 hz2 (by first | exact .inr rfl | omega);refine Wo_nil ?_;refine W_ret ?_;rotate_left;refine W_skip ?_;refine W_seq ?_;refine W_seq ?_;refine W_region rfl ?_
    refine Wo rfl (opv_move (v:=.pointer _) rfl) ?_;refine Wo_call rfl (opc2 (a:=.pointer _) (b:=.int _ _) Tryd.call57 rfl rfl) (odd_ok _ _ (by assumption) (by omega) (by omega)) ?_;rintro _ w8 ⟨y3,rfl,E8,hr3,hy3⟩
    (try dsimp only at hy3);have hlhr3:=hr3.lt;have Ehr3:=hr3.old;have hB3:=hB3.grown E8 (by simp only [ne_eq,Option.some.injEq];omega);have hB1:=hB1.grown E8 (by simp only [ne_eq,Option.some.injEq];omega)
    have hB2:=hB2.grown E8 (by simp only [ne_eq,Option.some.injEq];omega);have hO:=hO.grown E8 (by omega);have hB4:=hB4.grown E8 (by simp only [ne_eq,Option.some.injEq];omega);have hG:=grownBy_trans hG E8
    have hs7:=E8.size;refine Wo_nil ?_;refine W_cond rfl (fun h5=>?_) (fun h5=>?_);refine W_region rfl ?_;refine Wo rfl (opv_fieldAddr Tryd.underlying26 rfl rfl Tryd.sizeOf9 rfl) ?_
    refine Wo (v:=.string _) rfl (opv_load Tryd.isAgg9 rfl (hB3.cell rfl)) ?_;refine Wo rfl (opv_add_str rfl rfl (by simp <;> omega)) ?_;refine Wo rfl (opv_fieldAddr Tryd.underlying26 rfl rfl Tryd.sizeOf9 rfl) ?_
    refine Wo_st (v:=.string _) rfl Tryd.sizeOf9 rfl rfl rfl hB3 (by simp) (by omega) Ehr3 ?_;rintro w9 E9 hB3 K2 hz2;simp only [List.set] at hB3;have hr3:=hr3.wrote E9 (K2 _ (by omega)) hz2
    have hB1:=hB1.of_heap (K2 _ (by omega));have hB2:=hB2.of_heap (K2 _ (by omega));have hO:=hO.wrote K2 (by omega);have hB4:=hB4.of_heap (K2 _ (by omega))
    have hG:=grownBy_wrote hG Ehr3 E9 K2 hz2 (by first | exact .inr rfl | omega);refine Wo_nil ?_;refine W_seq ?_;refine W_region rfl ?_;refine Wo (v:=.agg _) rfl (opv_load3 Tryd.isAgg26 Tryd.sizeOf26 rfl hB3) ?_
    refine Wo_st3 rfl Tryd.sizeOf26 rfl rfl (by first | rfl | assumption) (by first | rfl | assumption) (by first | rfl | assumption) hB2 (by omega) E9 ?_;rintro w10 E10 hB2 K3 hz3;have hB3:=hB3.of_heap (K3 _ (by omega))
    have hr3:=hr3.wrote E10 (K3 _ (by omega)) hz3;have hB1:=hB1.of_heap (K3 _ (by omega));have hO:=hO.wrote K3 (by omega);have hB4:=hB4.of_heap (K3 _ (by omega))
    have hG:=grownBy_wrote hG E9 E10 K3 hz3 (by first | exact .inr rfl | omega);refine Wo_nil ?_;refine W_ret ?_;rotate_left;refine W_skip ?_;refine W_seq ?_;refine W_region rfl ?_
    refine Wo (v:=.agg _) rfl (opv_load3 Tryd.isAgg26 Tryd.sizeOf26 rfl hB3) ?_;refine Wo_st3 rfl Tryd.sizeOf26 rfl rfl (by first | rfl | assumption) (by first | rfl | assumption) (by first | rfl | assumption) hB2 (by omega) Ehr3 ?_
    rintro w9 E9 hB2 K2 hz2;have hr3:=hr3.wrote E9 (K2 _ (by omega)) hz2;have hB3:=hB3.of_heap (K2 _ (by omega));have hB1:=hB1.of_heap (K2 _ (by omega));have hO:=hO.wrote K2 (by omega)
    have hB4:=hB4.of_heap (K2 _ (by omega));have hG:=grownBy_wrote hG Ehr3 E9 K2 hz2 (by first | exact .inr rfl | omega);refine Wo_nil ?_;refine W_ret ?_;rotate_left;(exfalso;omega);contradiction;refine W_region rfl ?_
    refine Wo rfl (opv_eql rfl rfl) ?_;refine Wo rfl (opv_assign (v:=.bool _) rfl) ?_;refine Wo_nil ?_;refine W_cond_dec rfl (fun h2=>?_) (fun h2=>?_);refine W_seq ?_;refine W_region rfl ?_
    refine Wo_buildSlice (ps:=[(0,.string _),(1,.string _),(2,.string _),(3,.string _),(4,.string _)]) (cs:=[_,_,_,_,_]) rfl Tryd.underlying65 Tryd.sizeOf9 Tryd.zeroValue9 rfl rfl rfl rfl ?_;rintro b3 w4 hb5 E4 hB4
    have hlb3:=hB4.lt;have hG:=grownBy_ext hG E4;have hr:=hr.ext E4;have hs4:=E4.size;refine Wo rfl (opv_move (v:=.pointer _) rfl) ?_
    refine Wo_call rfl (opc2 (a:=.pointer _) (b:=.int _ _) Tryd.call54 rfl rfl) (pick_ok _ _ (by assumption) (by omega)) ?_;rintro _ w5 ⟨y1,rfl,E5,hr1,hy1⟩;(try dsimp only at hy1);have hlhr1:=hr1.lt;have Ehr1:=hr1.old
    have hB1:=(hB1.ext E4).grown E5 (by simp only [ne_eq,Option.some.injEq];omega);have hB2:=(hB2.ext E4).grown E5 (by simp only [ne_eq,Option.some.injEq];omega)
    have hB3:=(hB3.ext E4).grown E5 (by simp only [ne_eq,Option.some.injEq];omega);have hO:=(hO.ext E4).grown E5 (by omega);have hB4:=hB4.grown E5 (by simp only [ne_eq,Option.some.injEq];omega)
    have hG:=grownBy_trans hG E5;have hs5:=E5.size;refine Wo rfl (opv_indexAddr Tryd.underlying65 Tryd.sizeOf9 rfl rfl (by omega)) ?_
    refine Wo_tbl 0 Tryd.isAgg9 rfl rfl hB4 (by repeat (first | exact trivial | refine And.intro ⟨_,rfl,by decide⟩ ?_)) (by simp only [List.length_cons,List.length_nil];omega) ?_;intro s1 hs1
    refine Wo rfl (opv_fieldAddr Tryd.underlying26 rfl rfl Tryd.sizeOf9 rfl) ?_;refine Wo_st (v:=.string _) rfl Tryd.sizeOf9 rfl rfl rfl hB3 (by simp) (by omega) Ehr1 ?_;rintro w6 E6 hB3 K1 hz1;simp only [List.set] at hB3
    have hr1:=hr1.wrote E6 (K1 _ (by omega)) hz1;have hB1:=hB1.of_heap (K1 _ (by omega));have hB2:=hB2.of_heap (K1 _ (by omega));have hO:=hO.wrote K1 (by omega);have hB4:=hB4.of_heap (K1 _ (by omega))
    have hG:=grownBy_wrote hG Ehr1 E6 K1 hz1 (by first | exact .inr rfl | omega);refine Wo_nil ?_;refine W_seq ?_;refine W_region rfl ?_;refine Wo rfl (opv_fieldAddr Tryd.underlying53 rfl rfl Tryd.sizeOf49 rfl) ?_
    refine Wo (v:=u1) rfl (opv_load Tryd.isAgg49 rfl (hB1.cell rfl)) ?_;refine Wo rfl (opv_len Tryd.underlying49 rfl (OwnedB.read hO)) ?_;refine Wo rfl (opv_gtr rfl rfl) ?_
    refine Wo_split_dec rfl (opv_move (v:=.bool _) rfl) (fun h3=>?_) (fun h3=>?_);refine Wo rfl (opv_move (v:=.pointer _) rfl) ?_
    refine Wo_call rfl (opc2 (a:=.pointer _) (b:=.int _ _) Tryd.call54 rfl rfl) (pick_ok _ _ (by assumption) (by omega)) ?_;rintro _ w7 ⟨y2,rfl,E7,hr2,hy2⟩;(try dsimp only at hy2);have hlhr2:=hr2.lt;have Ehr2:=hr2.old
    have hB3:=hB3.grown E7 (by simp only [ne_eq,Option.some.injEq];omega);have hB1:=hB1.grown E7 (by simp only [ne_eq,Option.some.injEq];omega);have hB2:=hB2.grown E7 (by simp only [ne_eq,Option.some.injEq];omega)
    have hO:=hO.grown E7 (by omega);have hB4:=hB4.grown E7 (by simp only [ne_eq,Option.some.injEq];omega);have hG:=grownBy_trans hG E7;have hs6:=E7.size;refine Wo rfl (opv_eql rfl rfl) ?_
    refine Wo rfl (opv_pick_t (v:=.bool _) rfl rfl) ?_;refine Wo_nil ?_;refine W_cond_dec rfl (fun h4=>?_) (fun h4=>?_);refine W_seq ?_;refine W_region rfl ?_
    refine Wo rfl (opv_fieldAddr Tryd.underlying53 rfl rfl Tryd.sizeOf49 rfl) ?_;refine Wo (v:=u1) rfl (opv_load Tryd.isAgg49 rfl (hB1.cell rfl)) ?_
    refine Wo_call rfl (opc2 (a:=u1) (b:=.int _ _) Tryd.call75 rfl rfl) (c1 _ _ ((OwnedB.read hO))) ?_;rintro u3 w8 ⟨E8,hO1⟩;have hr2:=hr2.ext E8;have hG:=grownBy_ext hG E8;have hs7:=E8.size
    refine Wo rfl (opv_assign (v:=u3) rfl) ?_;refine Wo_nil ?_;refine W_seq ?_;refine W_region rfl ?_;refine Wo rfl (opv_move (v:=u3) rfl) ?_;refine Wo rfl (opv_len Tryd.underlying80 rfl (Owned.read hO1)) ?_
    refine Wo rfl (opv_gtr rfl rfl) ?_;refine Wo_split_dec rfl (opv_move (v:=.bool _) rfl) (fun h5=>?_) (fun h5=>?_);refine Wo rfl (opv_fieldAddr Tryd.underlying53 rfl rfl Tryd.sizeOf49 rfl) ?_
    refine Wo (v:=u1) rfl (opv_load Tryd.isAgg49 rfl ((hB1.ext E8).cell rfl)) ?_;refine Wo_call rfl (opc1 (a:=u1) Tryd.call76 rfl) (c2 _ _ ((Mono.mono E8 (OwnedB.read hO)))) ?_;rintro _ w9 ⟨rfl,E9⟩;have hr2:=hr2.ext E9
    have hG:=grownBy_ext hG E9;have hs8:=E9.size;refine Wo rfl (opv_pick_t (v:=.bool _) rfl rfl) ?_;refine Wo_nil ?_;refine W_cond_true rfl ?_;rotate_left;refine Wo_skip rfl ?_;refine Wo_skip rfl ?_;refine Wo_skip rfl ?_
    refine Wo rfl (opv_pick_f (v:=.bool _) rfl rfl) ?_;refine Wo_nil ?_;refine W_cond_false rfl ?_;refine W_skip ?_;refine W_seq ?_;refine W_seq ?_;refine W_region rfl ?_;refine Wo rfl (opv_move (v:=.pointer _) rfl) ?_
    refine Wo_call rfl (opc2 (a:=.pointer _) (b:=.int _ _) Tryd.call57 rfl rfl) (odd_ok _ _ (by assumption) (by omega) (by omega)) ?_;rintro _ w9 ⟨y3,rfl,E9,hr3,hy3⟩;(try dsimp only at hy3);have hlhr3:=hr3.lt
    have Ehr3:=hr3.old;have hB3:=(hB3.ext E8).grown E9 (by simp only [ne_eq,Option.some.injEq];omega);have hB1:=(hB1.ext E8).grown E9 (by simp only [ne_eq,Option.some.injEq];omega)
    have hB2:=(hB2.ext E8).grown E9 (by simp only [ne_eq,Option.some.injEq];omega);have hO:=(hO.ext E8).grown E9 (by omega);have hB4:=(hB4.ext E8).grown E9 (by simp only [ne_eq,Option.some.injEq];omega)
    have hO1:=hO1.toB.grown E9 (by omega);have hG:=grownBy_trans hG E9;have hs8:=E9.size;refine Wo_nil ?_;refine W_cond rfl (fun h6=>?_) (fun h6=>?_);refine W_region rfl ?_
    refine Wo rfl (opv_fieldAddr Tryd.underlying26 rfl rfl Tryd.sizeOf9 rfl) ?_;refine Wo (v:=.string _) rfl (opv_load Tryd.isAgg9 rfl (hB3.cell rfl)) ?_;refine Wo rfl (opv_add_str rfl rfl (by simp <;> omega)) ?_
    refine Wo rfl (opv_fieldAddr Tryd.underlying26 rfl rfl Tryd.sizeOf9 rfl) ?_;refine Wo_st (v:=.string _) rfl Tryd.sizeOf9 rfl rfl rfl hB3 (by simp) (by omega) Ehr3 ?_;rintro w10 E10 hB3 K2 hz2;simp only [List.set] at hB3
    have hr3:=hr3.wrote E10 (K2 _ (by omega)) hz2;have hB1:=hB1.of_heap (K2 _ (by omega));have hB2:=hB2.of_heap (K2 _ (by omega));have hO:=hO.wrote K2 (by omega);have hB4:=hB4.of_heap (K2 _ (by omega))
    have hO1:=hO1.wrote K2 (by omega);have hG:=grownBy_wrote hG Ehr3 E10 K2 hz2 (by first | exact .inr rfl | omega);refine Wo_nil ?_;refine W_seq ?_;refine W_region rfl ?_
    refine Wo (v:=.agg _) rfl (opv_load3 Tryd.isAgg26 Tryd.sizeOf26 rfl hB3) ?_;refine Wo_st3 rfl Tryd.sizeOf26 rfl rfl (by first | rfl | assumption) (by first | rfl | assumption) (by first | rfl | assumption) hB2 (by omega) E10 ?_
    rintro w11 E11 hB2 K3 hz3;have hB3:=hB3.of_heap (K3 _ (by omega));have hr3:=hr3.wrote E11 (K3 _ (by omega)) hz3;have hB1:=hB1.of_heap (K3 _ (by omega));have hO:=hO.wrote K3 (by omega)
    have hB4:=hB4.of_heap (K3 _ (by omega));have hO1:=hO1.wrote K3 (by omega);have hG:=grownBy_wrote hG E10 E11 K3 hz3 (by first | exact .inr rfl | omega);refine Wo_nil ?_;refine W_ret ?_;rotate_left;refine W_skip ?_
    refine W_seq ?_;refine W_region rfl ?_;refine Wo (v:=.agg _) rfl (opv_load3 Tryd.isAgg26 Tryd.sizeOf26 rfl hB3) ?_
    refine Wo_st3 rfl Tryd.sizeOf26 rfl rfl (by first | rfl | assumption) (by first | rfl | assumption) (by first | rfl | assumption) hB2 (by omega) Ehr3 ?_;rintro w10 E10 hB2 K2 hz2;have hr3:=hr3.wrote E10 (K2 _ (by omega)) hz2
    have hB3:=hB3.of_heap (K2 _ (by omega));have hB1:=hB1.of_heap (K2 _ (by omega));have hO:=hO.wrote K2 (by omega);have hB4:=hB4.of_heap (K2 _ (by omega));have hO1:=hO1.wrote K2 (by omega)
    have hG:=grownBy_wrote hG Ehr3 E10 K2 hz2 (by first | exact .inr rfl | omega);refine Wo_nil ?_;refine W_ret ?_;rotate_left;refine W_skip ?_;refine W_seq ?_;refine W_seq ?_;refine W_region rfl ?_
    refine Wo rfl (opv_move (v:=.pointer _) rfl) ?_;refine Wo_call rfl (opc2 (a:=.pointer _) (b:=.int _ _) Tryd.call57 rfl rfl) (odd_ok _ _ (by assumption) (by omega) (by omega)) ?_;rintro _ w8 ⟨y3,rfl,E8,hr3,hy3⟩
    (try dsimp only at hy3);have hlhr3:=hr3.lt;have Ehr3:=hr3.old;have hB3:=hB3.grown E8 (by simp only [ne_eq,Option.some.injEq];omega);have hB1:=hB1.grown E8 (by simp only [ne_eq,Option.some.injEq];omega)
    have hB2:=hB2.grown E8 (by simp only [ne_eq,Option.some.injEq];omega);have hO:=hO.grown E8 (by omega);have hB4:=hB4.grown E8 (by simp only [ne_eq,Option.some.injEq];omega);have hG:=grownBy_trans hG E8
    have hs7:=E8.size;refine Wo_nil ?_;refine W_cond rfl (fun h5=>?_) (fun h5=>?_);refine W_region rfl ?_;refine Wo rfl (opv_fieldAddr Tryd.underlying26 rfl rfl Tryd.sizeOf9 rfl) ?_
    refine Wo (v:=.string _) rfl (opv_load Tryd.isAgg9 rfl (hB3.cell rfl)) ?_;refine Wo rfl (opv_add_str rfl rfl (by simp <;> omega)) ?_;refine Wo rfl (opv_fieldAddr Tryd.underlying26 rfl rfl Tryd.sizeOf9 rfl) ?_
    refine Wo_st (v:=.string _) rfl Tryd.sizeOf9 rfl rfl rfl hB3 (by simp) (by omega) Ehr3 ?_;rintro w9 E9 hB3 K2 hz2;simp only [List.set] at hB3;have hr3:=hr3.wrote E9 (K2 _ (by omega)) hz2
    have hB1:=hB1.of_heap (K2 _ (by omega));have hB2:=hB2.of_heap (K2 _ (by omega));have hO:=hO.wrote K2 (by omega);have hB4:=hB4.of_heap (K2 _ (by omega))
    have hG:=grownBy_wrote hG Ehr3 E9 K2 hz2 (by first | exact .inr rfl | omega);refine Wo_nil ?_;refine W_seq ?_;refine W_region rfl ?_;refine Wo (v:=.agg _) rfl (opv_load3 Tryd.isAgg26 Tryd.sizeOf26 rfl hB3) ?_
    refine Wo_st3 rfl Tryd.sizeOf26 rfl rfl (by first | rfl | assumption) (by first | rfl | assumption) (by first | rfl | assumption) hB2 (by omega) E9 ?_;rintro w10 E10 hB2 K3 hz3;have hB3:=hB3.of_heap (K3 _ (by omega))
    have hr3:=hr3.wrote E10 (K3 _ (by omega)) hz3;have hB1:=hB1.of_heap (K3 _ (by omega));have hO:=hO.wrote K3 (by omega);have hB4:=hB4.of_heap (K3 _ (by omega))
    have hG:=grownBy_wrote hG E9 E10 K3 hz3 (by first | exact .inr rfl | omega);refine Wo_nil ?_;refine W_ret ?_;rotate_left;refine W_skip ?_;refine W_seq ?_;refine W_region rfl ?_
    refine Wo (v:=.agg _) rfl (opv_load3 Tryd.isAgg26 Tryd.sizeOf26 rfl hB3) ?_;refine Wo_st3 rfl Tryd.sizeOf26 rfl rfl (by first | rfl | assumption) (by first | rfl | assumption) (by first | rfl | assumption) hB2 (by omega) Ehr3 ?_
    rintro w9 E9 hB2 K2 hz2;have hr3:=hr3.wrote E9 (K2 _ (by omega)) hz2;have hB3:=hB3.of_heap (K2 _ (by omega));have hB1:=hB1.of_heap (K2 _ (by omega));have hO:=hO.wrote K2 (by omega)
    have hB4:=hB4.of_heap (K2 _ (by omega));have hG:=grownBy_wrote hG Ehr3 E9 K2 hz2 (by first | exact .inr rfl | omega);refine Wo_nil ?_;refine W_ret ?_;rotate_left;(exfalso;omega);refine W_seq ?_;refine W_region rfl ?_
    refine Wo rfl (opv_eql rfl rfl) ?_;refine Wo rfl (opv_assign (v:=.bool _) rfl) ?_;refine Wo_nil ?_;refine W_cond_dec rfl (fun h3=>?_) (fun h3=>?_);refine W_region rfl ?_;refine Wo rfl (opv_move (v:=.pointer _) rfl) ?_
    refine Wo rfl (opv_fieldAddr Tryd.underlying53 rfl rfl Tryd.sizeOf49 rfl) ?_;refine Wo (v:=u1) rfl (opv_load Tryd.isAgg49 rfl (hB1.cell rfl)) ?_;refine Wo rfl (opv_len Tryd.underlying49 rfl (OwnedB.read hO)) ?_
    refine Wo rfl (opv_max rfl rfl) ?_;refine Wo_call rfl (opc2 (a:=.pointer _) (b:=.int _ _) Tryd.call54 rfl rfl) (pick_ok _ _ (by assumption) (by omega)) ?_;rintro _ w4 ⟨y1,rfl,E4,hr1,hy1⟩;(try dsimp only at hy1)
    have hlhr1:=hr1.lt;have Ehr1:=hr1.old;have hG:=grownBy_trans hG E4;have hB1:=hB1.grown E4 (by simp only [ne_eq,Option.some.injEq];omega);have hB2:=hB2.grown E4 (by simp only [ne_eq,Option.some.injEq];omega)
    have hB3:=hB3.grown E4 (by simp only [ne_eq,Option.some.injEq];omega);have hO:=hO.grown E4 (by omega);have hs4:=E4.size;refine Wo rfl (opv_fieldAddr Tryd.underlying26 rfl rfl Tryd.sizeOf3 rfl) ?_
    refine Wo_st (v:=.int _ _) rfl Tryd.sizeOf3 rfl rfl rfl hB3 (by simp) (by omega) Ehr1 ?_;rintro w5 E5 hB3 K1 hz1;simp only [List.set] at hB3;have hr1:=hr1.wrote E5 (K1 _ (by omega)) hz1
    have hG:=grownBy_wrote hG Ehr1 E5 K1 hz1 (by first | exact .inr rfl | omega);have hB1:=hB1.of_heap (K1 _ (by omega));have hB2:=hB2.of_heap (K1 _ (by omega));have hO:=hO.wrote K1 (by omega);refine Wo_nil ?_
    refine W_seq ?_;refine W_seq ?_;refine W_region rfl ?_;refine Wo rfl (opv_move (v:=.pointer _) rfl) ?_
    refine Wo_call rfl (opc2 (a:=.pointer _) (b:=.int _ _) Tryd.call57 rfl rfl) (odd_ok _ _ (by assumption) (by omega) (by omega)) ?_;rintro _ w6 ⟨y2,rfl,E6,hr2,hy2⟩;(try dsimp only at hy2);have hlhr2:=hr2.lt
    have Ehr2:=hr2.old;have hB3:=hB3.grown E6 (by simp only [ne_eq,Option.some.injEq];omega);have hG:=grownBy_trans hG E6;have hB1:=hB1.grown E6 (by simp only [ne_eq,Option.some.injEq];omega)
    have hB2:=hB2.grown E6 (by simp only [ne_eq,Option.some.injEq];omega);have hO:=hO.grown E6 (by omega);have hs5:=E6.size;refine Wo_nil ?_;refine W_cond rfl (fun h4=>?_) (fun h4=>?_);refine W_region rfl ?_
    refine Wo rfl (opv_fieldAddr Tryd.underlying26 rfl rfl Tryd.sizeOf9 rfl) ?_;refine Wo (v:=.string _) rfl (opv_load Tryd.isAgg9 rfl (hB3.cell rfl)) ?_;refine Wo rfl (opv_add_str rfl rfl (by simp <;> omega)) ?_
    refine Wo rfl (opv_fieldAddr Tryd.underlying26 rfl rfl Tryd.sizeOf9 rfl) ?_;refine Wo_st (v:=.string _) rfl Tryd.sizeOf9 rfl rfl rfl hB3 (by simp) (by omega) Ehr2 ?_;rintro w7 E7 hB3 K2 hz2;simp only [List.set] at hB3
    have hr2:=hr2.wrote E7 (K2 _ (by omega)) hz2;have hG:=grownBy_wrote hG Ehr2 E7 K2 hz2 (by first | exact .inr rfl | omega);have hB1:=hB1.of_heap (K2 _ (by omega));have hB2:=hB2.of_heap (K2 _ (by omega))
    have hO:=hO.wrote K2 (by omega);refine Wo_nil ?_;refine W_seq ?_;refine W_region rfl ?_;refine Wo (v:=.agg _) rfl (opv_load3 Tryd.isAgg26 Tryd.sizeOf26 rfl hB3) ?_
    refine Wo_st3 rfl Tryd.sizeOf26 rfl rfl (by first | rfl | assumption) (by first | rfl | assumption) (by first | rfl | assumption) hB2 (by omega) E7 ?_;rintro w8 E8 hB2 K3 hz3;have hB3:=hB3.of_heap (K3 _ (by omega))
    have hr2:=hr2.wrote E8 (K3 _ (by omega)) hz3;have hG:=grownBy_wrote hG E7 E8 K3 hz3 (by first | exact .inr rfl | omega);have hB1:=hB1.of_heap (K3 _ (by omega));have hO:=hO.wrote K3 (by omega);refine Wo_nil ?_
    refine W_ret ?_;rotate_left;refine W_skip ?_;refine W_seq ?_;refine W_region rfl ?_;refine Wo (v:=.agg _) rfl (opv_load3 Tryd.isAgg26 Tryd.sizeOf26 rfl hB3) ?_
    refine Wo_st3 rfl Tryd.sizeOf26 rfl rfl (by first | rfl | assumption) (by first | rfl | assumption) (by first | rfl | assumption) hB2 (by omega) Ehr2 ?_;rintro w7 E7 hB2 K2 hz2;have hr2:=hr2.wrote E7 (K2 _ (by omega)) hz2
    have hB3:=hB3.of_heap (K2 _ (by omega));have hG:=grownBy_wrote hG Ehr2 E7 K2 hz2 (by first | exact .inr rfl | omega);have hB1:=hB1.of_heap (K2 _ (by omega));have hO:=hO.wrote K2 (by omega);refine Wo_nil ?_
    refine W_ret ?_;rotate_left;refine W_skip ?_;refine W_seq ?_;refine W_seq ?_;refine W_region rfl ?_;refine Wo rfl (opv_move (v:=.pointer _) rfl) ?_
    refine Wo_call rfl (opc2 (a:=.pointer _) (b:=.int _ _) Tryd.call57 rfl rfl) (odd_ok _ _ (by assumption) (by omega) (by omega)) ?_;rintro _ w4 ⟨y1,rfl,E4,hr1,hy1⟩;(try dsimp only at hy1);have hlhr1:=hr1.lt
    have Ehr1:=hr1.old;have hG:=grownBy_trans hG E4;have hB1:=hB1.grown E4 (by simp only [ne_eq,Option.some.injEq];omega);have hB2:=hB2.grown E4 (by simp only [ne_eq,Option.some.injEq];omega)
    have hB3:=hB3.grown E4 (by simp only [ne_eq,Option.some.injEq];omega);have hO:=hO.grown E4 (by omega);have hs4:=E4.size;refine Wo_nil ?_;refine W_cond rfl (fun h4=>?_) (fun h4=>?_);refine W_region rfl ?_
    refine Wo rfl (opv_fieldAddr Tryd.underlying26 rfl rfl Tryd.sizeOf9 rfl) ?_;refine Wo (v:=.string _) rfl (opv_load Tryd.isAgg9 rfl (hB3.cell rfl)) ?_;refine Wo rfl (opv_add_str rfl rfl (by simp <;> omega)) ?_
    refine Wo rfl (opv_fieldAddr Tryd.underlying26 rfl rfl Tryd.sizeOf9 rfl) ?_;refine Wo_st (v:=.string _) rfl Tryd.sizeOf9 rfl rfl rfl hB3 (by simp) (by omega) Ehr1 ?_;rintro w5 E5 hB3 K1 hz1;simp only [List.set] at hB3
    have hr1:=hr1.wrote E5 (K1 _ (by omega)) hz1;have hG:=grownBy_wrote hG Ehr1 E5 K1 hz1 (by first | exact .inr rfl | omega);have hB1:=hB1.of_heap (K1 _ (by omega));have hB2:=hB2.of_heap (K1 _ (by omega))
    have hO:=hO.wrote K1 (by omega);refine Wo_nil ?_;refine W_seq ?_;refine W_region rfl ?_;refine Wo (v:=.agg _) rfl (opv_load3 Tryd.isAgg26 Tryd.sizeOf26 rfl hB3) ?_
    refine Wo_st3 rfl Tryd.sizeOf26 rfl rfl (by first | rfl | assumption) (by first | rfl | assumption) (by first | rfl | assumption) hB2 (by omega) E5 ?_;rintro w6 E6 hB2 K2 hz2;have hB3:=hB3.of_heap (K2 _ (by omega))
    have hr1:=hr1.wrote E6 (K2 _ (by omega)) hz2;have hG:=grownBy_wrote hG E5 E6 K2 hz2 (by first | exact .inr rfl | omega);have hB1:=hB1.of_heap (K2 _ (by omega));have hO:=hO.wrote K2 (by omega);refine Wo_nil ?_
    refine W_ret ?_;rotate_left;refine W_skip ?_;refine W_seq ?_;refine W_region rfl ?_;refine Wo (v:=.agg _) rfl (opv_load3 Tryd.isAgg26 Tryd.sizeOf26 rfl hB3) ?_
    refine Wo_st3 rfl Tryd.sizeOf26 rfl rfl (by first | rfl | assumption) (by first | rfl | assumption) (by first | rfl | assumption) hB2 (by omega) Ehr1 ?_;rintro w5 E5 hB2 K1 hz1;have hr1:=hr1.wrote E5 (K1 _ (by omega)) hz1
    have hG:=grownBy_wrote hG Ehr1 E5 K1 hz1 (by first | exact .inr rfl | omega);have hB1:=hB1.of_heap (K1 _ (by omega));have hB3:=hB3.of_heap (K1 _ (by omega));have hO:=hO.wrote K1 (by omega);refine Wo_nil ?_
    refine W_ret ?_;rotate_left
   ·clear stop9
    obtain ⟨lb,lc,rfl,_⟩:=hO1.lit (by omega)
    focus
     have szE9:=E9.size;have szE8:=E8.size;have szEhr2:=Ehr2.size;have szE6:=E6.size;have szEhr1:=Ehr1.size;have szE4:=E4.size;have szE3:=E3.size;have szE2:=E2.size;have szE1:=E1.size;have szE0:=E0.size
     refine W_held (fun _=>True) mixed rfl (by kernel_rfl) ?_;intro w10 E10 K2 hz2;have hr2:=hr2.ext E10;have hG:=grownBy_ext hG E10;have hs9:=E10.size
     refine Wh_take 0 rfl (by kernel_rfl) (by kernel_rfl) rfl (fun _ _=>opv_fieldAddr Tryd.underlying53 rfl rfl Tryd.sizeOf49 rfl) trivial ?_
     refine Wh_take 2 rfl (by kernel_rfl) (by kernel_rfl) rfl (fun _ _=>opv_move (v:=.slice _ _ _) rfl) trivial ?_;refine Wh_take 3 rfl (by kernel_rfl) (by kernel_rfl) rfl (fun _ _=>opv_move (v:=.pointer _) rfl) trivial ?_
     refine Wh_take 4 rfl (by kernel_rfl) (by kernel_rfl) rfl (fun _ _=>opv_move (v:=.slice _ _ _) rfl) trivial ?_
     refine Wh_take 5 rfl (by kernel_rfl) (by kernel_rfl) rfl (fun _ _=>opv_len Tryd.underlying80 rfl (Owned.read hO1)) trivial ?_;refine Wh_all (rs:=[1,6]) (by kernel_rfl) rfl ?_;refine WhAll_cons rfl ?_ ?_
     refine Wo (v:=u1) rfl (opv_load Tryd.isAgg49 rfl ((hB1.ext ((E8.trans E9).trans E10)).cell rfl)) ?_;refine Wo_nil ?_;refine ⟨trivial,?_⟩;refine Wh_all (rs:=[6]) (by kernel_rfl) rfl ?_;refine WhAll_cons rfl ?_ ?_
     refine Wo_call rfl (opc2 (a:=.pointer _) (b:=.int _ _) Tryd.call54 rfl rfl) (pick_ok _ _ (by assumption) (by omega)) ?_;rintro _ w11 ⟨y3,rfl,E11,hr3,hy3⟩;(try dsimp only at hy3);have hlhr3:=hr3.lt;have Ehr3:=hr3.old
     have hB3:=(hB3.ext ((E8.trans E9).trans E10)).grown E11 (by simp only [ne_eq,Option.some.injEq];omega);have hB1:=(hB1.ext ((E8.trans E9).trans E10)).grown E11 (by simp only [ne_eq,Option.some.injEq];omega)
     have hB2:=(hB2.ext ((E8.trans E9).trans E10)).grown E11 (by simp only [ne_eq,Option.some.injEq];omega);have hO:=(hO.ext ((E8.trans E9).trans E10)).grown E11 (by omega)
     have hB4:=(hB4.ext ((E8.trans E9).trans E10)).grown E11 (by simp only [ne_eq,Option.some.injEq];omega);have hO1:=(hO1.toB.ext (E9.trans E10)).grown E11 (by omega);have hG:=grownBy_trans hG E11;have hs10:=E11.size
     refine Wo_nil ?_;refine ⟨trivial,?_⟩;refine Wh_take 7 rfl (by kernel_rfl) (by kernel_rfl) rfl (fun _ _=>opv_indexAddr Tryd.underlying80 Tryd.sizeOf3 rfl rfl (by omega)) trivial ?_
     refine Wh_all (rs:=[8]) (by kernel_rfl) rfl ?_;refine WhAll_cons rfl ?_ ?_;refine Wo_ldAt Tryd.isAgg3 rfl rfl (OwnedB.read hO1) (by first | omega | (simp <;> omega)) ?_;rintro _ rfl;refine Wo_nil ?_;refine ⟨trivial,?_⟩
     refine Wh_all (rs:=[9]) (by kernel_rfl) rfl ?_;refine WhAll_cons rfl ?_ ?_;refine Wo_call rfl (opc2 (a:=u1) (b:=.int _ _) Tryd.call60 rfl rfl) (c3 _ _ _ _ ((OwnedB.read hO))) ?_;rintro u3 w12 ⟨x1,E12,hO2,hy4⟩
     have hr3:=hr3.ext E12;have hG:=grownBy_ext hG E12;have hs11:=E12.size;refine Wo_nil ?_;refine ⟨trivial,?_⟩;refine Wh_all (rs:=[10]) (by kernel_rfl) rfl ?_;refine WhAll_cons rfl ?_ ?_
     refine Wo_call rfl (opc1 (a:=u3) Tryd.call71 rfl) (c4 _ _ _ ((Owned.read hO2)) (by assumption)) ?_;rintro _ w13 ⟨E13,y4,rfl,hy5⟩;have hr3:=hr3.ext E13;have hG:=grownBy_ext hG E13;have hs12:=E13.size;refine Wo_nil ?_
     refine ⟨trivial,?_⟩;refine Wh_take 11 rfl (by kernel_rfl) (by kernel_rfl) rfl (fun _ _=>opv_fieldAddr Tryd.underlying26 rfl rfl Tryd.sizeOf9 rfl) trivial ?_;refine Wh_all (rs:=[12]) (by kernel_rfl) rfl ?_
     refine WhAll_cons rfl ?_ ?_;refine Wo_st (v:=.string _) rfl Tryd.sizeOf9 rfl rfl rfl (hB3.ext (E12.trans E13)) (by simp) (by omega) ((Ehr3.trans E12).trans E13) ?_;rintro w14 E14 hB3 K3 hz3;simp only [List.set] at hB3
     have hB1:=(hB1.ext (E12.trans E13)).of_heap (K3 _ (by omega));have hB2:=(hB2.ext (E12.trans E13)).of_heap (K3 _ (by omega));have hO:=(hO.ext (E12.trans E13)).wrote K3 (by omega)
     have hB4:=(hB4.ext (E12.trans E13)).of_heap (K3 _ (by omega));have hO1:=(hO1.ext (E12.trans E13)).wrote K3 (by omega);have hO2:=(hO2.toB.ext E13).wrote K3 (by omega);have hr3:=hr3.wrote E14 (K3 _ (by omega)) hz3
     have hG:=grownBy_wrote hG ((Ehr3.trans E12).trans E13) E14 K3 hz3 (by first | exact .inr rfl | omega);refine Wo_nil ?_;refine ⟨trivial,?_⟩;refine Wh_done (by kernel_rfl) ?_;refine W_seq ?_;refine W_seq ?_
     refine W_region rfl ?_;refine Wo rfl (opv_move (v:=.pointer _) rfl) ?_;refine Wo_call rfl (opc2 (a:=.pointer _) (b:=.int _ _) Tryd.call57 rfl rfl) (odd_ok _ _ (by assumption) (by omega) (by omega)) ?_
     rintro _ w15 ⟨y5,rfl,E15,hr4,hy6⟩;(try dsimp only at hy6);have hlhr4:=hr4.lt;have Ehr4:=hr4.old;have hB3:=hB3.grown E15 (by simp only [ne_eq,Option.some.injEq];omega)
     have hB1:=hB1.grown E15 (by simp only [ne_eq,Option.some.injEq];omega);have hB2:=hB2.grown E15 (by simp only [ne_eq,Option.some.injEq];omega);have hO:=hO.grown E15 (by omega)
     have hB4:=hB4.grown E15 (by simp only [ne_eq,Option.some.injEq];omega);have hO1:=hO1.grown E15 (by omega);have hO2:=hO2.grown E15 (by omega);have hG:=grownBy_trans hG E15;have hs13:=E15.size;refine Wo_nil ?_
     refine W_cond rfl (fun h6=>?_) (fun h6=>?_);refine W_region rfl ?_;refine Wo rfl (opv_fieldAddr Tryd.underlying26 rfl rfl Tryd.sizeOf9 rfl) ?_;refine Wo (v:=.string _) rfl (opv_load Tryd.isAgg9 rfl (hB3.cell rfl)) ?_
     refine Wo rfl (opv_add_str rfl rfl (by simp <;> omega)) ?_;refine Wo rfl (opv_fieldAddr Tryd.underlying26 rfl rfl Tryd.sizeOf9 rfl) ?_;refine Wo_st (v:=.string _) rfl Tryd.sizeOf9 rfl rfl rfl hB3 (by simp) (by omega) Ehr4 ?_
     rintro w16 E16 hB3 K4 hz4;simp only [List.set] at hB3;have hr4:=hr4.wrote E16 (K4 _ (by omega)) hz4;have hB1:=hB1.of_heap (K4 _ (by omega));have hB2:=hB2.of_heap (K4 _ (by omega));have hO:=hO.wrote K4 (by omega)
     have hB4:=hB4.of_heap (K4 _ (by omega));have hO1:=hO1.wrote K4 (by omega);have hO2:=hO2.wrote K4 (by omega);have hG:=grownBy_wrote hG Ehr4 E16 K4 hz4 (by first | exact .inr rfl | omega);refine Wo_nil ?_;refine W_seq ?_
     refine W_region rfl ?_;refine Wo (v:=.agg _) rfl (opv_load3 Tryd.isAgg26 Tryd.sizeOf26 rfl hB3) ?_
     refine Wo_st3 rfl Tryd.sizeOf26 rfl rfl (by first | rfl | assumption) (by first | rfl | assumption) (by first | rfl | assumption) hB2 (by omega) E16 ?_;rintro w17 E17 hB2 K5 hz5;have hB3:=hB3.of_heap (K5 _ (by omega))
     have hr4:=hr4.wrote E17 (K5 _ (by omega)) hz5;have hB1:=hB1.of_heap (K5 _ (by omega));have hO:=hO.wrote K5 (by omega);have hB4:=hB4.of_heap (K5 _ (by omega));have hO1:=hO1.wrote K5 (by omega)
     have hO2:=hO2.wrote K5 (by omega);have hG:=grownBy_wrote hG E16 E17 K5 hz5 (by first | exact .inr rfl | omega);refine Wo_nil ?_;refine W_ret ?_;rotate_left;refine W_skip ?_;refine W_seq ?_;refine W_region rfl ?_
     refine Wo (v:=.agg _) rfl (opv_load3 Tryd.isAgg26 Tryd.sizeOf26 rfl hB3) ?_;refine Wo_st3 rfl Tryd.sizeOf26 rfl rfl (by first | rfl | assumption) (by first | rfl | assumption) (by first | rfl | assumption) hB2 (by omega) Ehr4 ?_
     rintro w16 E16 hB2 K4 hz4;have hr4:=hr4.wrote E16 (K4 _ (by omega)) hz4;have hB3:=hB3.of_heap (K4 _ (by omega));have hB1:=hB1.of_heap (K4 _ (by omega));have hO:=hO.wrote K4 (by omega)
     have hB4:=hB4.of_heap (K4 _ (by omega));have hO1:=hO1.wrote K4 (by omega);have hO2:=hO2.wrote K4 (by omega);have hG:=grownBy_wrote hG Ehr4 E16 K4 hz4 (by first | exact .inr rfl | omega);refine Wo_nil ?_;refine W_ret ?_
     rotate_left;exact WhAll_nil;exact WhAll_nil;exact WhAll_nil;exact WhAll_nil;exact WhAll_nil;refine WhAll_cons rfl ?_ ?_
     refine Wo_call rfl (opc2 (a:=.pointer _) (b:=.int _ _) Tryd.call54 rfl rfl) (pick_ok _ _ (by assumption) (by omega)) ?_;rintro _ w11 ⟨y3,rfl,E11,hr3,hy3⟩;(try dsimp only at hy3);have hlhr3:=hr3.lt;have Ehr3:=hr3.old
     have hB3:=(hB3.ext ((E8.trans E9).trans E10)).grown E11 (by simp only [ne_eq,Option.some.injEq];omega);have hB1:=(hB1.ext ((E8.trans E9).trans E10)).grown E11 (by simp only [ne_eq,Option.some.injEq];omega)
     have hB2:=(hB2.ext ((E8.trans E9).trans E10)).grown E11 (by simp only [ne_eq,Option.some.injEq];omega);have hO:=(hO.ext ((E8.trans E9).trans E10)).grown E11 (by omega)
     have hB4:=(hB4.ext ((E8.trans E9).trans E10)).grown E11 (by simp only [ne_eq,Option.some.injEq];omega);have hO1:=(hO1.toB.ext (E9.trans E10)).grown E11 (by omega);have hG:=grownBy_trans hG E11;have hs10:=E11.size
     refine Wo_nil ?_;refine ⟨trivial,?_⟩;refine Wh_take 7 rfl (by kernel_rfl) (by kernel_rfl) rfl (fun _ _=>opv_indexAddr Tryd.underlying80 Tryd.sizeOf3 rfl rfl (by omega)) trivial ?_
     refine Wh_all (rs:=[1,8]) (by kernel_rfl) rfl ?_;refine WhAll_cons rfl ?_ ?_;refine Wo (v:=u1) rfl (opv_load Tryd.isAgg49 rfl (hB1.cell rfl)) ?_;refine Wo_nil ?_;refine ⟨trivial,?_⟩
     refine Wh_all (rs:=[8]) (by kernel_rfl) rfl ?_;refine WhAll_cons rfl ?_ ?_;refine Wo_ldAt Tryd.isAgg3 rfl rfl (OwnedB.read hO1) (by first | omega | (simp <;> omega)) ?_;rintro _ rfl;refine Wo_nil ?_;refine ⟨trivial,?_⟩
     refine Wh_all (rs:=[9]) (by kernel_rfl) rfl ?_;refine WhAll_cons rfl ?_ ?_;refine Wo_call rfl (opc2 (a:=u1) (b:=.int _ _) Tryd.call60 rfl rfl) (c3 _ _ _ _ ((OwnedB.read hO))) ?_;rintro u3 w12 ⟨x1,E12,hO2,hy4⟩
     have hr3:=hr3.ext E12;have hG:=grownBy_ext hG E12;have hs11:=E12.size;refine Wo_nil ?_;refine ⟨trivial,?_⟩;refine Wh_all (rs:=[10]) (by kernel_rfl) rfl ?_;refine WhAll_cons rfl ?_ ?_
     refine Wo_call rfl (opc1 (a:=u3) Tryd.call71 rfl) (c4 _ _ _ ((Owned.read hO2)) (by assumption)) ?_;rintro _ w13 ⟨E13,y4,rfl,hy5⟩;have hr3:=hr3.ext E13;have hG:=grownBy_ext hG E13;have hs12:=E13.size;refine Wo_nil ?_
     refine ⟨trivial,?_⟩;refine Wh_take 11 rfl (by kernel_rfl) (by kernel_rfl) rfl (fun _ _=>opv_fieldAddr Tryd.underlying26 rfl rfl Tryd.sizeOf9 rfl) trivial ?_;refine Wh_all (rs:=[12]) (by kernel_rfl) rfl ?_
     refine WhAll_cons rfl ?_ ?_;refine Wo_st (v:=.string _) rfl Tryd.sizeOf9 rfl rfl rfl (hB3.ext (E12.trans E13)) (by simp) (by omega) ((Ehr3.trans E12).trans E13) ?_;rintro w14 E14 hB3 K3 hz3;simp only [List.set] at hB3
     have hB1:=(hB1.ext (E12.trans E13)).of_heap (K3 _ (by omega));have hB2:=(hB2.ext (E12.trans E13)).of_heap (K3 _ (by omega));have hO:=(hO.ext (E12.trans E13)).wrote K3 (by omega)
     have hB4:=(hB4.ext (E12.trans E13)).of_heap (K3 _ (by omega));have hO1:=(hO1.ext (E12.trans E13)).wrote K3 (by omega);have hO2:=(hO2.toB.ext E13).wrote K3 (by omega);have hr3:=hr3.wrote E14 (K3 _ (by omega)) hz3
     have hG:=grownBy_wrote hG ((Ehr3.trans E12).trans E13) E14 K3 hz3 (by first | exact .inr rfl | omega);refine Wo_nil ?_;refine ⟨trivial,?_⟩;refine Wh_done (by kernel_rfl) ?_;refine W_seq ?_;refine W_seq ?_
     refine W_region rfl ?_;refine Wo rfl (opv_move (v:=.pointer _) rfl) ?_;refine Wo_call rfl (opc2 (a:=.pointer _) (b:=.int _ _) Tryd.call57 rfl rfl) (odd_ok _ _ (by assumption) (by omega) (by omega)) ?_
     rintro _ w15 ⟨y5,rfl,E15,hr4,hy6⟩;(try dsimp only at hy6);have hlhr4:=hr4.lt;have Ehr4:=hr4.old;have hB3:=hB3.grown E15 (by simp only [ne_eq,Option.some.injEq];omega)
     have hB1:=hB1.grown E15 (by simp only [ne_eq,Option.some.injEq];omega);have hB2:=hB2.grown E15 (by simp only [ne_eq,Option.some.injEq];omega);have hO:=hO.grown E15 (by omega)
     have hB4:=hB4.grown E15 (by simp only [ne_eq,Option.some.injEq];omega);have hO1:=hO1.grown E15 (by omega);have hO2:=hO2.grown E15 (by omega);have hG:=grownBy_trans hG E15;have hs13:=E15.size;refine Wo_nil ?_
     refine W_cond rfl (fun h6=>?_) (fun h6=>?_);refine W_region rfl ?_;refine Wo rfl (opv_fieldAddr Tryd.underlying26 rfl rfl Tryd.sizeOf9 rfl) ?_;refine Wo (v:=.string _) rfl (opv_load Tryd.isAgg9 rfl (hB3.cell rfl)) ?_
     refine Wo rfl (opv_add_str rfl rfl (by simp <;> omega)) ?_;refine Wo rfl (opv_fieldAddr Tryd.underlying26 rfl rfl Tryd.sizeOf9 rfl) ?_;refine Wo_st (v:=.string _) rfl Tryd.sizeOf9 rfl rfl rfl hB3 (by simp) (by omega) Ehr4 ?_
     rintro w16 E16 hB3 K4 hz4;simp only [List.set] at hB3;have hr4:=hr4.wrote E16 (K4 _ (by omega)) hz4;have hB1:=hB1.of_heap (K4 _ (by omega));have hB2:=hB2.of_heap (K4 _ (by omega));have hO:=hO.wrote K4 (by omega)
     have hB4:=hB4.of_heap (K4 _ (by omega));have hO1:=hO1.wrote K4 (by omega);have hO2:=hO2.wrote K4 (by omega);have hG:=grownBy_wrote hG Ehr4 E16 K4 hz4 (by first | exact .inr rfl | omega);refine Wo_nil ?_;refine W_seq ?_
     refine W_region rfl ?_;refine Wo (v:=.agg _) rfl (opv_load3 Tryd.isAgg26 Tryd.sizeOf26 rfl hB3) ?_
     refine Wo_st3 rfl Tryd.sizeOf26 rfl rfl (by first | rfl | assumption) (by first | rfl | assumption) (by first | rfl | assumption) hB2 (by omega) E16 ?_;rintro w17 E17 hB2 K5 hz5;have hB3:=hB3.of_heap (K5 _ (by omega))
     have hr4:=hr4.wrote E17 (K5 _ (by omega)) hz5;have hB1:=hB1.of_heap (K5 _ (by omega));have hO:=hO.wrote K5 (by omega);have hB4:=hB4.of_heap (K5 _ (by omega));have hO1:=hO1.wrote K5 (by omega)
     have hO2:=hO2.wrote K5 (by omega);have hG:=grownBy_wrote hG E16 E17 K5 hz5 (by first | exact .inr rfl | omega);refine Wo_nil ?_;refine W_ret ?_;rotate_left;refine W_skip ?_;refine W_seq ?_;refine W_region rfl ?_
     refine Wo (v:=.agg _) rfl (opv_load3 Tryd.isAgg26 Tryd.sizeOf26 rfl hB3) ?_;refine Wo_st3 rfl Tryd.sizeOf26 rfl rfl (by first | rfl | assumption) (by first | rfl | assumption) (by first | rfl | assumption) hB2 (by omega) Ehr4 ?_
     rintro w16 E16 hB2 K4 hz4;have hr4:=hr4.wrote E16 (K4 _ (by omega)) hz4;have hB3:=hB3.of_heap (K4 _ (by omega));have hB1:=hB1.of_heap (K4 _ (by omega));have hO:=hO.wrote K4 (by omega)
     have hB4:=hB4.of_heap (K4 _ (by omega));have hO1:=hO1.wrote K4 (by omega);have hO2:=hO2.wrote K4 (by omega);have hG:=grownBy_wrote hG Ehr4 E16 K4 hz4 (by first | exact .inr rfl | omega);refine Wo_nil ?_;refine W_ret ?_
     rotate_left;exact WhAll_nil;exact WhAll_nil;exact WhAll_nil;exact WhAll_nil;refine WhAll_cons rfl ?_ ?_;refine Wo_ldAt Tryd.isAgg3 rfl rfl (OwnedB.read hO1) (by first | omega | (simp <;> omega)) ?_;rintro _ rfl
     refine Wo_nil ?_;refine ⟨trivial,?_⟩;refine Wh_all (rs:=[1]) (by kernel_rfl) rfl ?_;refine WhAll_cons rfl ?_ ?_;refine Wo (v:=u1) rfl (opv_load Tryd.isAgg49 rfl (hB1.cell rfl)) ?_;refine Wo_nil ?_;refine ⟨trivial,?_⟩
     refine Wh_all (rs:=[9]) (by kernel_rfl) rfl ?_;refine WhAll_cons rfl ?_ ?_;refine Wo_call rfl (opc2 (a:=u1) (b:=.int _ _) Tryd.call60 rfl rfl) (c3 _ _ _ _ ((OwnedB.read hO))) ?_;rintro u3 w12 ⟨x1,E12,hO2,hy4⟩
     have hr3:=hr3.ext E12;have hG:=grownBy_ext hG E12;have hs11:=E12.size;refine Wo_nil ?_;refine ⟨trivial,?_⟩;refine Wh_all (rs:=[10]) (by kernel_rfl) rfl ?_;refine WhAll_cons rfl ?_ ?_
     refine Wo_call rfl (opc1 (a:=u3) Tryd.call71 rfl) (c4 _ _ _ ((Owned.read hO2)) (by assumption)) ?_;rintro _ w13 ⟨E13,y4,rfl,hy5⟩;have hr3:=hr3.ext E13;have hG:=grownBy_ext hG E13;have hs12:=E13.size;refine Wo_nil ?_
     refine ⟨trivial,?_⟩;refine Wh_take 11 rfl (by kernel_rfl) (by kernel_rfl) rfl (fun _ _=>opv_fieldAddr Tryd.underlying26 rfl rfl Tryd.sizeOf9 rfl) trivial ?_;refine Wh_all (rs:=[12]) (by kernel_rfl) rfl ?_
     refine WhAll_cons rfl ?_ ?_;refine Wo_st (v:=.string _) rfl Tryd.sizeOf9 rfl rfl rfl (hB3.ext (E12.trans E13)) (by simp) (by omega) ((Ehr3.trans E12).trans E13) ?_;rintro w14 E14 hB3 K3 hz3;simp only [List.set] at hB3
     have hB1:=(hB1.ext (E12.trans E13)).of_heap (K3 _ (by omega));have hB2:=(hB2.ext (E12.trans E13)).of_heap (K3 _ (by omega));have hO:=(hO.ext (E12.trans E13)).wrote K3 (by omega)
     have hB4:=(hB4.ext (E12.trans E13)).of_heap (K3 _ (by omega));have hO1:=(hO1.ext (E12.trans E13)).wrote K3 (by omega);have hO2:=(hO2.toB.ext E13).wrote K3 (by omega);have hr3:=hr3.wrote E14 (K3 _ (by omega)) hz3
     have hG:=grownBy_wrote hG ((Ehr3.trans E12).trans E13) E14 K3 hz3 (by first | exact .inr rfl | omega);refine Wo_nil ?_;refine ⟨trivial,?_⟩;refine Wh_done (by kernel_rfl) ?_;refine W_seq ?_;refine W_seq ?_
     refine W_region rfl ?_;refine Wo rfl (opv_move (v:=.pointer _) rfl) ?_;refine Wo_call rfl (opc2 (a:=.pointer _) (b:=.int _ _) Tryd.call57 rfl rfl) (odd_ok _ _ (by assumption) (by omega) (by omega)) ?_
     rintro _ w15 ⟨y5,rfl,E15,hr4,hy6⟩;(try dsimp only at hy6);have hlhr4:=hr4.lt;have Ehr4:=hr4.old;have hB3:=hB3.grown E15 (by simp only [ne_eq,Option.some.injEq];omega)
     have hB1:=hB1.grown E15 (by simp only [ne_eq,Option.some.injEq];omega);have hB2:=hB2.grown E15 (by simp only [ne_eq,Option.some.injEq];omega);have hO:=hO.grown E15 (by omega)
     have hB4:=hB4.grown E15 (by simp only [ne_eq,Option.some.injEq];omega);have hO1:=hO1.grown E15 (by omega);have hO2:=hO2.grown E15 (by omega);have hG:=grownBy_trans hG E15;have hs13:=E15.size;refine Wo_nil ?_
     refine W_cond rfl (fun h6=>?_) (fun h6=>?_);refine W_region rfl ?_;refine Wo rfl (opv_fieldAddr Tryd.underlying26 rfl rfl Tryd.sizeOf9 rfl) ?_;refine Wo (v:=.string _) rfl (opv_load Tryd.isAgg9 rfl (hB3.cell rfl)) ?_
     refine Wo rfl (opv_add_str rfl rfl (by simp <;> omega)) ?_;refine Wo rfl (opv_fieldAddr Tryd.underlying26 rfl rfl Tryd.sizeOf9 rfl) ?_;refine Wo_st (v:=.string _) rfl Tryd.sizeOf9 rfl rfl rfl hB3 (by simp) (by omega) Ehr4 ?_
     rintro w16 E16 hB3 K4 hz4;simp only [List.set] at hB3;have hr4:=hr4.wrote E16 (K4 _ (by omega)) hz4;have hB1:=hB1.of_heap (K4 _ (by omega));have hB2:=hB2.of_heap (K4 _ (by omega));have hO:=hO.wrote K4 (by omega)
     have hB4:=hB4.of_heap (K4 _ (by omega));have hO1:=hO1.wrote K4 (by omega);have hO2:=hO2.wrote K4 (by omega);have hG:=grownBy_wrote hG Ehr4 E16 K4 hz4 (by first | exact .inr rfl | omega);refine Wo_nil ?_;refine W_seq ?_
     refine W_region rfl ?_;refine Wo (v:=.agg _) rfl (opv_load3 Tryd.isAgg26 Tryd.sizeOf26 rfl hB3) ?_
     refine Wo_st3 rfl Tryd.sizeOf26 rfl rfl (by first | rfl | assumption) (by first | rfl | assumption) (by first | rfl | assumption) hB2 (by omega) E16 ?_;rintro w17 E17 hB2 K5 hz5;have hB3:=hB3.of_heap (K5 _ (by omega))
     have hr4:=hr4.wrote E17 (K5 _ (by omega)) hz5;have hB1:=hB1.of_heap (K5 _ (by omega));have hO:=hO.wrote K5 (by omega);have hB4:=hB4.of_heap (K5 _ (by omega));have hO1:=hO1.wrote K5 (by omega)
     have hO2:=hO2.wrote K5 (by omega);have hG:=grownBy_wrote hG E16 E17 K5 hz5 (by first | exact .inr rfl | omega);refine Wo_nil ?_;refine W_ret ?_;rotate_left;refine W_skip ?_;refine W_seq ?_;refine W_region rfl ?_
     refine Wo (v:=.agg _) rfl (opv_load3 Tryd.isAgg26 Tryd.sizeOf26 rfl hB3) ?_;refine Wo_st3 rfl Tryd.sizeOf26 rfl rfl (by first | rfl | assumption) (by first | rfl | assumption) (by first | rfl | assumption) hB2 (by omega) Ehr4 ?_
     rintro w16 E16 hB2 K4 hz4;have hr4:=hr4.wrote E16 (K4 _ (by omega)) hz4;have hB3:=hB3.of_heap (K4 _ (by omega));have hB1:=hB1.of_heap (K4 _ (by omega));have hO:=hO.wrote K4 (by omega)
     have hB4:=hB4.of_heap (K4 _ (by omega));have hO1:=hO1.wrote K4 (by omega);have hO2:=hO2.wrote K4 (by omega);have hG:=grownBy_wrote hG Ehr4 E16 K4 hz4 (by first | exact .inr rfl | omega);refine Wo_nil ?_;refine W_ret ?_
     rotate_left;exact WhAll_nil;exact WhAll_nil;exact WhAll_nil;exact WhAll_nil;exact WhAll_nil;exact WhAll_nil
    all_goals
     refine ⟨b2,_,_,_,rfl,hB2,_,_,_,rfl,hG,?_,?_⟩
     ·first | exact hr7.le (by omega) | exact hr6.le (by omega) | exact hr5.le (by omega) | exact hr4.le (by omega) | exact hr3.le (by omega) | exact hr2.le (by omega) | exact hr1.le (by omega) | exact hr.le (by omega)
     ·unfold DrP;simp only [List.length_append,List.length_cons,List.length_nil];omega
   ·refine ⟨b2,_,_,_,rfl,hB2,_,_,_,rfl,hG,?_,?_⟩
    ·first | exact hr7.le (by omega) | exact hr6.le (by omega) | exact hr5.le (by omega) | exact hr4.le (by omega) | exact hr3.le (by omega) | exact hr2.le (by omega) | exact hr1.le (by omega) | exact hr.le (by omega)
    ·unfold DrP;simp only [List.length_append,List.length_cons,List.length_nil];omega
   ·refine ⟨b2,_,_,_,rfl,hB2,_,_,_,rfl,hG,?_,?_⟩
    ·first | exact hr7.le (by omega) | exact hr6.le (by omega) | exact hr5.le (by omega) | exact hr4.le (by omega) | exact hr3.le (by omega) | exact hr2.le (by omega) | exact hr1.le (by omega) | exact hr.le (by omega)
    ·unfold DrP;simp only [List.length_append,List.length_cons,List.length_nil];omega
   ·refine ⟨b2,_,_,_,rfl,hB2,_,_,_,rfl,hG,?_,?_⟩
    ·first | exact hr7.le (by omega) | exact hr6.le (by omega) | exact hr5.le (by omega) | exact hr4.le (by omega) | exact hr3.le (by omega) | exact hr2.le (by omega) | exact hr1.le (by omega) | exact hr.le (by omega)
    ·unfold DrP;simp only [List.length_append,List.length_cons,List.length_nil];omega
   ·refine ⟨b2,_,_,_,rfl,hB2,_,_,_,rfl,hG,?_,?_⟩
    ·first | exact hr7.le (by omega) | exact hr6.le (by omega) | exact hr5.le (by omega) | exact hr4.le (by omega) | exact hr3.le (by omega) | exact hr2.le (by omega) | exact hr1.le (by omega) | exact hr.le (by omega)
    ·unfold DrP;simp only [List.length_append,List.length_cons,List.length_nil];omega
   ·clear stop9
    obtain ⟨lb,lc,rfl,_⟩:=hO1.lit (by omega)
    focus
     have szE9:=E9.size;have szE8:=E8.size;have szEhr2:=Ehr2.size;have szE6:=E6.size;have szEhr1:=Ehr1.size;have szE4:=E4.size;have szE3:=E3.size;have szE2:=E2.size;have szE1:=E1.size;have szE0:=E0.size
     refine W_held (fun _=>True) mixed rfl (by kernel_rfl) ?_;intro w10 E10 K2 hz2;have hr2:=hr2.ext E10;have hG:=grownBy_ext hG E10;have hs9:=E10.size
     refine Wh_take 0 rfl (by kernel_rfl) (by kernel_rfl) rfl (fun _ _=>opv_fieldAddr Tryd.underlying53 rfl rfl Tryd.sizeOf49 rfl) trivial ?_
     refine Wh_take 2 rfl (by kernel_rfl) (by kernel_rfl) rfl (fun _ _=>opv_move (v:=.slice _ _ _) rfl) trivial ?_;refine Wh_take 3 rfl (by kernel_rfl) (by kernel_rfl) rfl (fun _ _=>opv_move (v:=.pointer _) rfl) trivial ?_
     refine Wh_take 4 rfl (by kernel_rfl) (by kernel_rfl) rfl (fun _ _=>opv_move (v:=.slice _ _ _) rfl) trivial ?_
     refine Wh_take 5 rfl (by kernel_rfl) (by kernel_rfl) rfl (fun _ _=>opv_len Tryd.underlying80 rfl (Owned.read hO1)) trivial ?_;refine Wh_all (rs:=[1,6]) (by kernel_rfl) rfl ?_;refine WhAll_cons rfl ?_ ?_
     refine Wo (v:=u1) rfl (opv_load Tryd.isAgg49 rfl ((hB1.ext ((E8.trans E9).trans E10)).cell rfl)) ?_;refine Wo_nil ?_;refine ⟨trivial,?_⟩;refine Wh_all (rs:=[6]) (by kernel_rfl) rfl ?_;refine WhAll_cons rfl ?_ ?_
     refine Wo_call rfl (opc2 (a:=.pointer _) (b:=.int _ _) Tryd.call54 rfl rfl) (pick_ok _ _ (by assumption) (by omega)) ?_;rintro _ w11 ⟨y3,rfl,E11,hr3,hy3⟩;(try dsimp only at hy3);have hlhr3:=hr3.lt;have Ehr3:=hr3.old
     have hB3:=(hB3.ext ((E8.trans E9).trans E10)).grown E11 (by simp only [ne_eq,Option.some.injEq];omega);have hB1:=(hB1.ext ((E8.trans E9).trans E10)).grown E11 (by simp only [ne_eq,Option.some.injEq];omega)
     have hB2:=(hB2.ext ((E8.trans E9).trans E10)).grown E11 (by simp only [ne_eq,Option.some.injEq];omega);have hO:=(hO.ext ((E8.trans E9).trans E10)).grown E11 (by omega)
     have hB4:=(hB4.ext ((E8.trans E9).trans E10)).grown E11 (by simp only [ne_eq,Option.some.injEq];omega);have hO1:=(hO1.toB.ext (E9.trans E10)).grown E11 (by omega);have hG:=grownBy_trans hG E11;have hs10:=E11.size
     refine Wo_nil ?_;refine ⟨trivial,?_⟩;refine Wh_take 7 rfl (by kernel_rfl) (by kernel_rfl) rfl (fun _ _=>opv_indexAddr Tryd.underlying80 Tryd.sizeOf3 rfl rfl (by omega)) trivial ?_
     refine Wh_all (rs:=[8]) (by kernel_rfl) rfl ?_;refine WhAll_cons rfl ?_ ?_;refine Wo_ldAt Tryd.isAgg3 rfl rfl (OwnedB.read hO1) (by first | omega | (simp <;> omega)) ?_;rintro _ rfl;refine Wo_nil ?_;refine ⟨trivial,?_⟩
     refine Wh_all (rs:=[9]) (by kernel_rfl) rfl ?_;refine WhAll_cons rfl ?_ ?_;refine Wo_call rfl (opc2 (a:=u1) (b:=.int _ _) Tryd.call60 rfl rfl) (c3 _ _ _ _ ((OwnedB.read hO))) ?_;rintro u3 w12 ⟨x1,E12,hO2,hy4⟩
     have hr3:=hr3.ext E12;have hG:=grownBy_ext hG E12;have hs11:=E12.size;refine Wo_nil ?_;refine ⟨trivial,?_⟩;refine Wh_all (rs:=[10]) (by kernel_rfl) rfl ?_;refine WhAll_cons rfl ?_ ?_
     refine Wo_call rfl (opc1 (a:=u3) Tryd.call71 rfl) (c4 _ _ _ ((Owned.read hO2)) (by assumption)) ?_;rintro _ w13 ⟨E13,y4,rfl,hy5⟩;have hr3:=hr3.ext E13;have hG:=grownBy_ext hG E13;have hs12:=E13.size;refine Wo_nil ?_
     refine ⟨trivial,?_⟩;refine Wh_take 11 rfl (by kernel_rfl) (by kernel_rfl) rfl (fun _ _=>opv_fieldAddr Tryd.underlying26 rfl rfl Tryd.sizeOf9 rfl) trivial ?_;refine Wh_all (rs:=[12]) (by kernel_rfl) rfl ?_
     refine WhAll_cons rfl ?_ ?_;refine Wo_st (v:=.string _) rfl Tryd.sizeOf9 rfl rfl rfl (hB3.ext (E12.trans E13)) (by simp) (by omega) ((Ehr3.trans E12).trans E13) ?_;rintro w14 E14 hB3 K3 hz3;simp only [List.set] at hB3
     have hB1:=(hB1.ext (E12.trans E13)).of_heap (K3 _ (by omega));have hB2:=(hB2.ext (E12.trans E13)).of_heap (K3 _ (by omega));have hO:=(hO.ext (E12.trans E13)).wrote K3 (by omega)
     have hB4:=(hB4.ext (E12.trans E13)).of_heap (K3 _ (by omega));have hO1:=(hO1.ext (E12.trans E13)).wrote K3 (by omega);have hO2:=(hO2.toB.ext E13).wrote K3 (by omega);have hr3:=hr3.wrote E14 (K3 _ (by omega)) hz3
     have hG:=grownBy_wrote hG ((Ehr3.trans E12).trans E13) E14 K3 hz3 (by first | exact .inr rfl | omega);refine Wo_nil ?_;refine ⟨trivial,?_⟩;refine Wh_done (by kernel_rfl) ?_;refine W_seq ?_;refine W_seq ?_
     refine W_region rfl ?_;refine Wo rfl (opv_move (v:=.pointer _) rfl) ?_;refine Wo_call rfl (opc2 (a:=.pointer _) (b:=.int _ _) Tryd.call57 rfl rfl) (odd_ok _ _ (by assumption) (by omega) (by omega)) ?_
     rintro _ w15 ⟨y5,rfl,E15,hr4,hy6⟩;(try dsimp only at hy6);have hlhr4:=hr4.lt;have Ehr4:=hr4.old;have hB3:=hB3.grown E15 (by simp only [ne_eq,Option.some.injEq];omega)
     have hB1:=hB1.grown E15 (by simp only [ne_eq,Option.some.injEq];omega);have hB2:=hB2.grown E15 (by simp only [ne_eq,Option.some.injEq];omega);have hO:=hO.grown E15 (by omega)
     have hB4:=hB4.grown E15 (by simp only [ne_eq,Option.some.injEq];omega);have hO1:=hO1.grown E15 (by omega);have hO2:=hO2.grown E15 (by omega);have hG:=grownBy_trans hG E15;have hs13:=E15.size;refine Wo_nil ?_
     refine W_cond rfl (fun h6=>?_) (fun h6=>?_);refine W_region rfl ?_;refine Wo rfl (opv_fieldAddr Tryd.underlying26 rfl rfl Tryd.sizeOf9 rfl) ?_;refine Wo (v:=.string _) rfl (opv_load Tryd.isAgg9 rfl (hB3.cell rfl)) ?_
     refine Wo rfl (opv_add_str rfl rfl (by simp <;> omega)) ?_;refine Wo rfl (opv_fieldAddr Tryd.underlying26 rfl rfl Tryd.sizeOf9 rfl) ?_;refine Wo_st (v:=.string _) rfl Tryd.sizeOf9 rfl rfl rfl hB3 (by simp) (by omega) Ehr4 ?_
     rintro w16 E16 hB3 K4 hz4;simp only [List.set] at hB3;have hr4:=hr4.wrote E16 (K4 _ (by omega)) hz4;have hB1:=hB1.of_heap (K4 _ (by omega));have hB2:=hB2.of_heap (K4 _ (by omega));have hO:=hO.wrote K4 (by omega)
     have hB4:=hB4.of_heap (K4 _ (by omega));have hO1:=hO1.wrote K4 (by omega);have hO2:=hO2.wrote K4 (by omega);have hG:=grownBy_wrote hG Ehr4 E16 K4 hz4 (by first | exact .inr rfl | omega);refine Wo_nil ?_;refine W_seq ?_
     refine W_region rfl ?_;refine Wo (v:=.agg _) rfl (opv_load3 Tryd.isAgg26 Tryd.sizeOf26 rfl hB3) ?_
     refine Wo_st3 rfl Tryd.sizeOf26 rfl rfl (by first | rfl | assumption) (by first | rfl | assumption) (by first | rfl | assumption) hB2 (by omega) E16 ?_;rintro w17 E17 hB2 K5 hz5;have hB3:=hB3.of_heap (K5 _ (by omega))
     have hr4:=hr4.wrote E17 (K5 _ (by omega)) hz5;have hB1:=hB1.of_heap (K5 _ (by omega));have hO:=hO.wrote K5 (by omega);have hB4:=hB4.of_heap (K5 _ (by omega));have hO1:=hO1.wrote K5 (by omega)
     have hO2:=hO2.wrote K5 (by omega);have hG:=grownBy_wrote hG E16 E17 K5 hz5 (by first | exact .inr rfl | omega);refine Wo_nil ?_;refine W_ret ?_;rotate_left;refine W_skip ?_;refine W_seq ?_;refine W_region rfl ?_
     refine Wo (v:=.agg _) rfl (opv_load3 Tryd.isAgg26 Tryd.sizeOf26 rfl hB3) ?_;refine Wo_st3 rfl Tryd.sizeOf26 rfl rfl (by first | rfl | assumption) (by first | rfl | assumption) (by first | rfl | assumption) hB2 (by omega) Ehr4 ?_
     rintro w16 E16 hB2 K4 hz4;have hr4:=hr4.wrote E16 (K4 _ (by omega)) hz4;have hB3:=hB3.of_heap (K4 _ (by omega));have hB1:=hB1.of_heap (K4 _ (by omega));have hO:=hO.wrote K4 (by omega)
     have hB4:=hB4.of_heap (K4 _ (by omega));have hO1:=hO1.wrote K4 (by omega);have hO2:=hO2.wrote K4 (by omega);have hG:=grownBy_wrote hG Ehr4 E16 K4 hz4 (by first | exact .inr rfl | omega);refine Wo_nil ?_;refine W_ret ?_
     rotate_left;exact WhAll_nil;exact WhAll_nil;exact WhAll_nil;exact WhAll_nil;exact WhAll_nil;refine WhAll_cons rfl ?_ ?_
     refine Wo_call rfl (opc2 (a:=.pointer _) (b:=.int _ _) Tryd.call54 rfl rfl) (pick_ok _ _ (by assumption) (by omega)) ?_;rintro _ w11 ⟨y3,rfl,E11,hr3,hy3⟩;(try dsimp only at hy3);have hlhr3:=hr3.lt;have Ehr3:=hr3.old
     have hB3:=(hB3.ext ((E8.trans E9).trans E10)).grown E11 (by simp only [ne_eq,Option.some.injEq];omega);have hB1:=(hB1.ext ((E8.trans E9).trans E10)).grown E11 (by simp only [ne_eq,Option.some.injEq];omega)
     have hB2:=(hB2.ext ((E8.trans E9).trans E10)).grown E11 (by simp only [ne_eq,Option.some.injEq];omega);have hO:=(hO.ext ((E8.trans E9).trans E10)).grown E11 (by omega)
     have hB4:=(hB4.ext ((E8.trans E9).trans E10)).grown E11 (by simp only [ne_eq,Option.some.injEq];omega);have hO1:=(hO1.toB.ext (E9.trans E10)).grown E11 (by omega);have hG:=grownBy_trans hG E11;have hs10:=E11.size
     refine Wo_nil ?_;refine ⟨trivial,?_⟩;refine Wh_take 7 rfl (by kernel_rfl) (by kernel_rfl) rfl (fun _ _=>opv_indexAddr Tryd.underlying80 Tryd.sizeOf3 rfl rfl (by omega)) trivial ?_
     refine Wh_all (rs:=[1,8]) (by kernel_rfl) rfl ?_;refine WhAll_cons rfl ?_ ?_;refine Wo (v:=u1) rfl (opv_load Tryd.isAgg49 rfl (hB1.cell rfl)) ?_;refine Wo_nil ?_;refine ⟨trivial,?_⟩
     refine Wh_all (rs:=[8]) (by kernel_rfl) rfl ?_;refine WhAll_cons rfl ?_ ?_;refine Wo_ldAt Tryd.isAgg3 rfl rfl (OwnedB.read hO1) (by first | omega | (simp <;> omega)) ?_;rintro _ rfl;refine Wo_nil ?_;refine ⟨trivial,?_⟩
     refine Wh_all (rs:=[9]) (by kernel_rfl) rfl ?_;refine WhAll_cons rfl ?_ ?_;refine Wo_call rfl (opc2 (a:=u1) (b:=.int _ _) Tryd.call60 rfl rfl) (c3 _ _ _ _ ((OwnedB.read hO))) ?_;rintro u3 w12 ⟨x1,E12,hO2,hy4⟩
     have hr3:=hr3.ext E12;have hG:=grownBy_ext hG E12;have hs11:=E12.size;refine Wo_nil ?_;refine ⟨trivial,?_⟩;refine Wh_all (rs:=[10]) (by kernel_rfl) rfl ?_;refine WhAll_cons rfl ?_ ?_
     refine Wo_call rfl (opc1 (a:=u3) Tryd.call71 rfl) (c4 _ _ _ ((Owned.read hO2)) (by assumption)) ?_;rintro _ w13 ⟨E13,y4,rfl,hy5⟩;have hr3:=hr3.ext E13;have hG:=grownBy_ext hG E13;have hs12:=E13.size;refine Wo_nil ?_
     refine ⟨trivial,?_⟩;refine Wh_take 11 rfl (by kernel_rfl) (by kernel_rfl) rfl (fun _ _=>opv_fieldAddr Tryd.underlying26 rfl rfl Tryd.sizeOf9 rfl) trivial ?_;refine Wh_all (rs:=[12]) (by kernel_rfl) rfl ?_
     refine WhAll_cons rfl ?_ ?_;refine Wo_st (v:=.string _) rfl Tryd.sizeOf9 rfl rfl rfl (hB3.ext (E12.trans E13)) (by simp) (by omega) ((Ehr3.trans E12).trans E13) ?_;rintro w14 E14 hB3 K3 hz3;simp only [List.set] at hB3
     have hB1:=(hB1.ext (E12.trans E13)).of_heap (K3 _ (by omega));have hB2:=(hB2.ext (E12.trans E13)).of_heap (K3 _ (by omega));have hO:=(hO.ext (E12.trans E13)).wrote K3 (by omega)
     have hB4:=(hB4.ext (E12.trans E13)).of_heap (K3 _ (by omega));have hO1:=(hO1.ext (E12.trans E13)).wrote K3 (by omega);have hO2:=(hO2.toB.ext E13).wrote K3 (by omega);have hr3:=hr3.wrote E14 (K3 _ (by omega)) hz3
     have hG:=grownBy_wrote hG ((Ehr3.trans E12).trans E13) E14 K3 hz3 (by first | exact .inr rfl | omega);refine Wo_nil ?_;refine ⟨trivial,?_⟩;refine Wh_done (by kernel_rfl) ?_;refine W_seq ?_;refine W_seq ?_
     refine W_region rfl ?_;refine Wo rfl (opv_move (v:=.pointer _) rfl) ?_;refine Wo_call rfl (opc2 (a:=.pointer _) (b:=.int _ _) Tryd.call57 rfl rfl) (odd_ok _ _ (by assumption) (by omega) (by omega)) ?_
     rintro _ w15 ⟨y5,rfl,E15,hr4,hy6⟩;(try dsimp only at hy6);have hlhr4:=hr4.lt;have Ehr4:=hr4.old;have hB3:=hB3.grown E15 (by simp only [ne_eq,Option.some.injEq];omega)
     have hB1:=hB1.grown E15 (by simp only [ne_eq,Option.some.injEq];omega);have hB2:=hB2.grown E15 (by simp only [ne_eq,Option.some.injEq];omega);have hO:=hO.grown E15 (by omega)
     have hB4:=hB4.grown E15 (by simp only [ne_eq,Option.some.injEq];omega);have hO1:=hO1.grown E15 (by omega);have hO2:=hO2.grown E15 (by omega);have hG:=grownBy_trans hG E15;have hs13:=E15.size;refine Wo_nil ?_
     refine W_cond rfl (fun h6=>?_) (fun h6=>?_);refine W_region rfl ?_;refine Wo rfl (opv_fieldAddr Tryd.underlying26 rfl rfl Tryd.sizeOf9 rfl) ?_;refine Wo (v:=.string _) rfl (opv_load Tryd.isAgg9 rfl (hB3.cell rfl)) ?_
     refine Wo rfl (opv_add_str rfl rfl (by simp <;> omega)) ?_;refine Wo rfl (opv_fieldAddr Tryd.underlying26 rfl rfl Tryd.sizeOf9 rfl) ?_;refine Wo_st (v:=.string _) rfl Tryd.sizeOf9 rfl rfl rfl hB3 (by simp) (by omega) Ehr4 ?_
     rintro w16 E16 hB3 K4 hz4;simp only [List.set] at hB3;have hr4:=hr4.wrote E16 (K4 _ (by omega)) hz4;have hB1:=hB1.of_heap (K4 _ (by omega));have hB2:=hB2.of_heap (K4 _ (by omega));have hO:=hO.wrote K4 (by omega)
     have hB4:=hB4.of_heap (K4 _ (by omega));have hO1:=hO1.wrote K4 (by omega);have hO2:=hO2.wrote K4 (by omega);have hG:=grownBy_wrote hG Ehr4 E16 K4 hz4 (by first | exact .inr rfl | omega);refine Wo_nil ?_;refine W_seq ?_
     refine W_region rfl ?_;refine Wo (v:=.agg _) rfl (opv_load3 Tryd.isAgg26 Tryd.sizeOf26 rfl hB3) ?_
     refine Wo_st3 rfl Tryd.sizeOf26 rfl rfl (by first | rfl | assumption) (by first | rfl | assumption) (by first | rfl | assumption) hB2 (by omega) E16 ?_;rintro w17 E17 hB2 K5 hz5;have hB3:=hB3.of_heap (K5 _ (by omega))
     have hr4:=hr4.wrote E17 (K5 _ (by omega)) hz5;have hB1:=hB1.of_heap (K5 _ (by omega));have hO:=hO.wrote K5 (by omega);have hB4:=hB4.of_heap (K5 _ (by omega));have hO1:=hO1.wrote K5 (by omega)
     have hO2:=hO2.wrote K5 (by omega);have hG:=grownBy_wrote hG E16 E17 K5 hz5 (by first | exact .inr rfl | omega);refine Wo_nil ?_;refine W_ret ?_;rotate_left;refine W_skip ?_;refine W_seq ?_;refine W_region rfl ?_
     refine Wo (v:=.agg _) rfl (opv_load3 Tryd.isAgg26 Tryd.sizeOf26 rfl hB3) ?_;refine Wo_st3 rfl Tryd.sizeOf26 rfl rfl (by first | rfl | assumption) (by first | rfl | assumption) (by first | rfl | assumption) hB2 (by omega) Ehr4 ?_
     rintro w16 E16 hB2 K4 hz4;have hr4:=hr4.wrote E16 (K4 _ (by omega)) hz4;have hB3:=hB3.of_heap (K4 _ (by omega));have hB1:=hB1.of_heap (K4 _ (by omega));have hO:=hO.wrote K4 (by omega)
     have hB4:=hB4.of_heap (K4 _ (by omega));have hO1:=hO1.wrote K4 (by omega);have hO2:=hO2.wrote K4 (by omega);have hG:=grownBy_wrote hG Ehr4 E16 K4 hz4 (by first | exact .inr rfl | omega);refine Wo_nil ?_;refine W_ret ?_
     rotate_left;exact WhAll_nil;exact WhAll_nil;exact WhAll_nil;exact WhAll_nil;refine WhAll_cons rfl ?_ ?_;refine Wo_ldAt Tryd.isAgg3 rfl rfl (OwnedB.read hO1) (by first | omega | (simp <;> omega)) ?_;rintro _ rfl
     refine Wo_nil ?_;refine ⟨trivial,?_⟩;refine Wh_all (rs:=[1]) (by kernel_rfl) rfl ?_;refine WhAll_cons rfl ?_ ?_;refine Wo (v:=u1) rfl (opv_load Tryd.isAgg49 rfl (hB1.cell rfl)) ?_;refine Wo_nil ?_;refine ⟨trivial,?_⟩
     refine Wh_all (rs:=[9]) (by kernel_rfl) rfl ?_;refine WhAll_cons rfl ?_ ?_;refine Wo_call rfl (opc2 (a:=u1) (b:=.int _ _) Tryd.call60 rfl rfl) (c3 _ _ _ _ ((OwnedB.read hO))) ?_;rintro u3 w12 ⟨x1,E12,hO2,hy4⟩
     have hr3:=hr3.ext E12;have hG:=grownBy_ext hG E12;have hs11:=E12.size;refine Wo_nil ?_;refine ⟨trivial,?_⟩;refine Wh_all (rs:=[10]) (by kernel_rfl) rfl ?_;refine WhAll_cons rfl ?_ ?_
     refine Wo_call rfl (opc1 (a:=u3) Tryd.call71 rfl) (c4 _ _ _ ((Owned.read hO2)) (by assumption)) ?_;rintro _ w13 ⟨E13,y4,rfl,hy5⟩;have hr3:=hr3.ext E13;have hG:=grownBy_ext hG E13;have hs12:=E13.size;refine Wo_nil ?_
     refine ⟨trivial,?_⟩;refine Wh_take 11 rfl (by kernel_rfl) (by kernel_rfl) rfl (fun _ _=>opv_fieldAddr Tryd.underlying26 rfl rfl Tryd.sizeOf9 rfl) trivial ?_;refine Wh_all (rs:=[12]) (by kernel_rfl) rfl ?_
     refine WhAll_cons rfl ?_ ?_;refine Wo_st (v:=.string _) rfl Tryd.sizeOf9 rfl rfl rfl (hB3.ext (E12.trans E13)) (by simp) (by omega) ((Ehr3.trans E12).trans E13) ?_;rintro w14 E14 hB3 K3 hz3;simp only [List.set] at hB3
     have hB1:=(hB1.ext (E12.trans E13)).of_heap (K3 _ (by omega));have hB2:=(hB2.ext (E12.trans E13)).of_heap (K3 _ (by omega));have hO:=(hO.ext (E12.trans E13)).wrote K3 (by omega)
     have hB4:=(hB4.ext (E12.trans E13)).of_heap (K3 _ (by omega));have hO1:=(hO1.ext (E12.trans E13)).wrote K3 (by omega);have hO2:=(hO2.toB.ext E13).wrote K3 (by omega);have hr3:=hr3.wrote E14 (K3 _ (by omega)) hz3
     have hG:=grownBy_wrote hG ((Ehr3.trans E12).trans E13) E14 K3 hz3 (by first | exact .inr rfl | omega);refine Wo_nil ?_;refine ⟨trivial,?_⟩;refine Wh_done (by kernel_rfl) ?_;refine W_seq ?_;refine W_seq ?_
     refine W_region rfl ?_;refine Wo rfl (opv_move (v:=.pointer _) rfl) ?_;refine Wo_call rfl (opc2 (a:=.pointer _) (b:=.int _ _) Tryd.call57 rfl rfl) (odd_ok _ _ (by assumption) (by omega) (by omega)) ?_
     rintro _ w15 ⟨y5,rfl,E15,hr4,hy6⟩;(try dsimp only at hy6);have hlhr4:=hr4.lt;have Ehr4:=hr4.old;have hB3:=hB3.grown E15 (by simp only [ne_eq,Option.some.injEq];omega)
     have hB1:=hB1.grown E15 (by simp only [ne_eq,Option.some.injEq];omega);have hB2:=hB2.grown E15 (by simp only [ne_eq,Option.some.injEq];omega);have hO:=hO.grown E15 (by omega)
     have hB4:=hB4.grown E15 (by simp only [ne_eq,Option.some.injEq];omega);have hO1:=hO1.grown E15 (by omega);have hO2:=hO2.grown E15 (by omega);have hG:=grownBy_trans hG E15;have hs13:=E15.size;refine Wo_nil ?_
     refine W_cond rfl (fun h6=>?_) (fun h6=>?_);refine W_region rfl ?_;refine Wo rfl (opv_fieldAddr Tryd.underlying26 rfl rfl Tryd.sizeOf9 rfl) ?_;refine Wo (v:=.string _) rfl (opv_load Tryd.isAgg9 rfl (hB3.cell rfl)) ?_
     refine Wo rfl (opv_add_str rfl rfl (by simp <;> omega)) ?_;refine Wo rfl (opv_fieldAddr Tryd.underlying26 rfl rfl Tryd.sizeOf9 rfl) ?_;refine Wo_st (v:=.string _) rfl Tryd.sizeOf9 rfl rfl rfl hB3 (by simp) (by omega) Ehr4 ?_
     rintro w16 E16 hB3 K4 hz4;simp only [List.set] at hB3;have hr4:=hr4.wrote E16 (K4 _ (by omega)) hz4;have hB1:=hB1.of_heap (K4 _ (by omega));have hB2:=hB2.of_heap (K4 _ (by omega));have hO:=hO.wrote K4 (by omega)
     have hB4:=hB4.of_heap (K4 _ (by omega));have hO1:=hO1.wrote K4 (by omega);have hO2:=hO2.wrote K4 (by omega);have hG:=grownBy_wrote hG Ehr4 E16 K4 hz4 (by first | exact .inr rfl | omega);refine Wo_nil ?_;refine W_seq ?_
     refine W_region rfl ?_;refine Wo (v:=.agg _) rfl (opv_load3 Tryd.isAgg26 Tryd.sizeOf26 rfl hB3) ?_
     refine Wo_st3 rfl Tryd.sizeOf26 rfl rfl (by first | rfl | assumption) (by first | rfl | assumption) (by first | rfl | assumption) hB2 (by omega) E16 ?_;rintro w17 E17 hB2 K5 hz5;have hB3:=hB3.of_heap (K5 _ (by omega))
     have hr4:=hr4.wrote E17 (K5 _ (by omega)) hz5;have hB1:=hB1.of_heap (K5 _ (by omega));have hO:=hO.wrote K5 (by omega);have hB4:=hB4.of_heap (K5 _ (by omega));have hO1:=hO1.wrote K5 (by omega)
     have hO2:=hO2.wrote K5 (by omega);have hG:=grownBy_wrote hG E16 E17 K5 hz5 (by first | exact .inr rfl | omega);refine Wo_nil ?_;refine W_ret ?_;rotate_left;refine W_skip ?_;refine W_seq ?_;refine W_region rfl ?_
     refine Wo (v:=.agg _) rfl (opv_load3 Tryd.isAgg26 Tryd.sizeOf26 rfl hB3) ?_;refine Wo_st3 rfl Tryd.sizeOf26 rfl rfl (by first | rfl | assumption) (by first | rfl | assumption) (by first | rfl | assumption) hB2 (by omega) Ehr4 ?_
     rintro w16 E16 hB2 K4 hz4;have hr4:=hr4.wrote E16 (K4 _ (by omega)) hz4;have hB3:=hB3.of_heap (K4 _ (by omega));have hB1:=hB1.of_heap (K4 _ (by omega));have hO:=hO.wrote K4 (by omega)
     have hB4:=hB4.of_heap (K4 _ (by omega));have hO1:=hO1.wrote K4 (by omega);have hO2:=hO2.wrote K4 (by omega);have hG:=grownBy_wrote hG Ehr4 E16 K4 hz4 (by first | exact .inr rfl | omega);refine Wo_nil ?_;refine W_ret ?_
     rotate_left;exact WhAll_nil;exact WhAll_nil;exact WhAll_nil;exact WhAll_nil;exact WhAll_nil;exact WhAll_nil
    all_goals
     refine ⟨b2,_,_,_,rfl,hB2,_,_,_,rfl,hG,?_,?_⟩
     ·first | exact hr7.le (by omega) | exact hr6.le (by omega) | exact hr5.le (by omega) | exact hr4.le (by omega) | exact hr3.le (by omega) | exact hr2.le (by omega) | exact hr1.le (by omega) | exact hr.le (by omega)
     ·unfold DrP;simp only [List.length_append,List.length_cons,List.length_nil];omega
   all_goals
    refine ⟨b2,_,_,_,rfl,hB2,_,_,_,rfl,hG,?_,?_⟩
    ·first | exact hr7.le (by omega) | exact hr6.le (by omega) | exact hr5.le (by omega) | exact hr4.le (by omega) | exact hr3.le (by omega) | exact hr2.le (by omega) | exact hr1.le (by omega) | exact hr.le (by omega)
    ·unfold DrP;simp only [List.length_append,List.length_cons,List.length_nil];omega
  ·have c2 : ∀ (w:World) (v:Value),ESl Ints w v p→Does Tryd.prog 76 [v] w (Ret w (.bool false)):=fun w v h=>by
    have:=LeastOk_ok w v p h;rwa [decide_eq_false hL] at this
   focus
    have szE3:=E3.size;have szE2:=E2.size;have szE1:=E1.size;have szE0:=E0.size;refine W_seq ?_;refine W_seq ?_;refine W_region rfl ?_;refine Wo rfl (opv_fieldAddr Tryd.underlying26 rfl rfl Tryd.sizeOf3 rfl) ?_
    refine Wo (v:=.int _ _) rfl (opv_load Tryd.isAgg3 rfl (hB3.cell rfl)) ?_;refine Wo_nil ?_;refine W_block ?_;refine W_seq ?_;refine W_seq ?_;refine W_region rfl ?_;refine Wo rfl (opv_eql rfl rfl) ?_
    refine Wo rfl (opv_assign (v:=.bool _) rfl) ?_;refine Wo_nil ?_;refine W_cond_dec rfl (fun h1=>?_) (fun h1=>?_);refine W_skip ?_;refine W_cond_dec rfl (fun h2=>?_) (fun h2=>?_);refine W_seq ?_;refine W_region rfl ?_
    refine Wo_buildSlice (ps:=[(0,.string _),(1,.string _),(2,.string _),(3,.string _),(4,.string _)]) (cs:=[_,_,_,_,_]) rfl Tryd.underlying65 Tryd.sizeOf9 Tryd.zeroValue9 rfl rfl rfl rfl ?_;rintro b3 w4 hb5 E4 hB4
    have hlb3:=hB4.lt;have hG:=grownBy_ext hG E4;have hr:=hr.ext E4;have hs4:=E4.size;refine Wo rfl (opv_move (v:=.pointer _) rfl) ?_
    refine Wo_call rfl (opc2 (a:=.pointer _) (b:=.int _ _) Tryd.call54 rfl rfl) (pick_ok _ _ (by assumption) (by omega)) ?_;rintro _ w5 ⟨y1,rfl,E5,hr1,hy1⟩;(try dsimp only at hy1);have hlhr1:=hr1.lt;have Ehr1:=hr1.old
    have hB1:=(hB1.ext E4).grown E5 (by simp only [ne_eq,Option.some.injEq];omega);have hB2:=(hB2.ext E4).grown E5 (by simp only [ne_eq,Option.some.injEq];omega)
    have hB3:=(hB3.ext E4).grown E5 (by simp only [ne_eq,Option.some.injEq];omega);have hO:=(hO.ext E4).grown E5 (by omega);have hB4:=hB4.grown E5 (by simp only [ne_eq,Option.some.injEq];omega)
    have hG:=grownBy_trans hG E5;have hs5:=E5.size;refine Wo rfl (opv_indexAddr Tryd.underlying65 Tryd.sizeOf9 rfl rfl (by omega)) ?_
    refine Wo_tbl 0 Tryd.isAgg9 rfl rfl hB4 (by repeat (first | exact trivial | refine And.intro ⟨_,rfl,by decide⟩ ?_)) (by simp only [List.length_cons,List.length_nil];omega) ?_;intro s1 hs1
    refine Wo rfl (opv_fieldAddr Tryd.underlying26 rfl rfl Tryd.sizeOf9 rfl) ?_;refine Wo_st (v:=.string _) rfl Tryd.sizeOf9 rfl rfl rfl hB3 (by simp) (by omega) Ehr1 ?_;rintro w6 E6 hB3 K1 hz1;simp only [List.set] at hB3
    have hr1:=hr1.wrote E6 (K1 _ (by omega)) hz1;have hB1:=hB1.of_heap (K1 _ (by omega));have hB2:=hB2.of_heap (K1 _ (by omega));have hO:=hO.wrote K1 (by omega);have hB4:=hB4.of_heap (K1 _ (by omega))
    have hG:=grownBy_wrote hG Ehr1 E6 K1 hz1 (by first | exact .inr rfl | omega);refine Wo_nil ?_;refine W_seq ?_;refine W_region rfl ?_;refine Wo rfl (opv_fieldAddr Tryd.underlying53 rfl rfl Tryd.sizeOf49 rfl) ?_
    refine Wo (v:=u1) rfl (opv_load Tryd.isAgg49 rfl (hB1.cell rfl)) ?_;refine Wo rfl (opv_len Tryd.underlying49 rfl (OwnedB.read hO)) ?_;refine Wo rfl (opv_gtr rfl rfl) ?_
    refine Wo_split_dec rfl (opv_move (v:=.bool _) rfl) (fun h3=>?_) (fun h3=>?_);refine Wo rfl (opv_move (v:=.pointer _) rfl) ?_
    refine Wo_call rfl (opc2 (a:=.pointer _) (b:=.int _ _) Tryd.call54 rfl rfl) (pick_ok _ _ (by assumption) (by omega)) ?_;rintro _ w7 ⟨y2,rfl,E7,hr2,hy2⟩;(try dsimp only at hy2);have hlhr2:=hr2.lt;have Ehr2:=hr2.old
    have hB3:=hB3.grown E7 (by simp only [ne_eq,Option.some.injEq];omega);have hB1:=hB1.grown E7 (by simp only [ne_eq,Option.some.injEq];omega);have hB2:=hB2.grown E7 (by simp only [ne_eq,Option.some.injEq];omega)
    have hO:=hO.grown E7 (by omega);have hB4:=hB4.grown E7 (by simp only [ne_eq,Option.some.injEq];omega);have hG:=grownBy_trans hG E7;have hs6:=E7.size;refine Wo rfl (opv_eql rfl rfl) ?_
    refine Wo rfl (opv_pick_t (v:=.bool _) rfl rfl) ?_;refine Wo_nil ?_;refine W_cond_dec rfl (fun h4=>?_) (fun h4=>?_);refine W_seq ?_;refine W_region rfl ?_
    refine Wo rfl (opv_fieldAddr Tryd.underlying53 rfl rfl Tryd.sizeOf49 rfl) ?_;refine Wo (v:=u1) rfl (opv_load Tryd.isAgg49 rfl (hB1.cell rfl)) ?_
    refine Wo_call rfl (opc2 (a:=u1) (b:=.int _ _) Tryd.call75 rfl rfl) (c1 _ _ ((OwnedB.read hO))) ?_;rintro u3 w8 ⟨E8,hO1⟩;have hr2:=hr2.ext E8;have hG:=grownBy_ext hG E8;have hs7:=E8.size
    refine Wo rfl (opv_assign (v:=u3) rfl) ?_;refine Wo_nil ?_;refine W_seq ?_;refine W_region rfl ?_;refine Wo rfl (opv_move (v:=u3) rfl) ?_;refine Wo rfl (opv_len Tryd.underlying80 rfl (Owned.read hO1)) ?_
    refine Wo rfl (opv_gtr rfl rfl) ?_;refine Wo_split_dec rfl (opv_move (v:=.bool _) rfl) (fun h5=>?_) (fun h5=>?_);refine Wo rfl (opv_fieldAddr Tryd.underlying53 rfl rfl Tryd.sizeOf49 rfl) ?_
    refine Wo (v:=u1) rfl (opv_load Tryd.isAgg49 rfl ((hB1.ext E8).cell rfl)) ?_;refine Wo_call rfl (opc1 (a:=u1) Tryd.call76 rfl) (c2 _ _ ((Mono.mono E8 (OwnedB.read hO)))) ?_;rintro _ w9 ⟨rfl,E9⟩;have hr2:=hr2.ext E9
    have hG:=grownBy_ext hG E9;have hs8:=E9.size;refine Wo rfl (opv_pick_t (v:=.bool _) rfl rfl) ?_;refine Wo_nil ?_;refine W_cond_false rfl ?_;refine W_skip ?_;refine W_seq ?_;refine W_seq ?_;refine W_region rfl ?_
    refine Wo rfl (opv_move (v:=.pointer _) rfl) ?_;refine Wo_call rfl (opc2 (a:=.pointer _) (b:=.int _ _) Tryd.call57 rfl rfl) (odd_ok _ _ (by assumption) (by omega) (by omega)) ?_;rintro _ w10 ⟨y3,rfl,E10,hr3,hy3⟩
    (try dsimp only at hy3);have hlhr3:=hr3.lt;have Ehr3:=hr3.old;have hB3:=(hB3.ext (E8.trans E9)).grown E10 (by simp only [ne_eq,Option.some.injEq];omega)
    have hB1:=(hB1.ext (E8.trans E9)).grown E10 (by simp only [ne_eq,Option.some.injEq];omega);have hB2:=(hB2.ext (E8.trans E9)).grown E10 (by simp only [ne_eq,Option.some.injEq];omega)
    have hO:=(hO.ext (E8.trans E9)).grown E10 (by omega);have hB4:=(hB4.ext (E8.trans E9)).grown E10 (by simp only [ne_eq,Option.some.injEq];omega);have hO1:=(hO1.toB.ext E9).grown E10 (by omega)
    have hG:=grownBy_trans hG E10;have hs9:=E10.size;refine Wo_nil ?_;refine W_cond rfl (fun h6=>?_) (fun h6=>?_);refine W_region rfl ?_;refine Wo rfl (opv_fieldAddr Tryd.underlying26 rfl rfl Tryd.sizeOf9 rfl) ?_
    refine Wo (v:=.string _) rfl (opv_load Tryd.isAgg9 rfl (hB3.cell rfl)) ?_;refine Wo rfl (opv_add_str rfl rfl (by simp <;> omega)) ?_;refine Wo rfl (opv_fieldAddr Tryd.underlying26 rfl rfl Tryd.sizeOf9 rfl) ?_
    refine Wo_st (v:=.string _) rfl Tryd.sizeOf9 rfl rfl rfl hB3 (by simp) (by omega) Ehr3 ?_;rintro w11 E11 hB3 K2 hz2;simp only [List.set] at hB3;have hr3:=hr3.wrote E11 (K2 _ (by omega)) hz2
    have hB1:=hB1.of_heap (K2 _ (by omega));have hB2:=hB2.of_heap (K2 _ (by omega));have hO:=hO.wrote K2 (by omega);have hB4:=hB4.of_heap (K2 _ (by omega));have hO1:=hO1.wrote K2 (by omega)
    have hG:=grownBy_wrote hG Ehr3 E11 K2 hz2 (by first | exact .inr rfl | omega);refine Wo_nil ?_;refine W_seq ?_;refine W_region rfl ?_;refine Wo (v:=.agg _) rfl (opv_load3 Tryd.isAgg26 Tryd.sizeOf26 rfl hB3) ?_
    refine Wo_st3 rfl Tryd.sizeOf26 rfl rfl (by first | rfl | assumption) (by first | rfl | assumption) (by first | rfl | assumption) hB2 (by omega) E11 ?_;rintro w12 E12 hB2 K3 hz3;have hB3:=hB3.of_heap (K3 _ (by omega))
    have hr3:=hr3.wrote E12 (K3 _ (by omega)) hz3;have hB1:=hB1.of_heap (K3 _ (by omega));have hO:=hO.wrote K3 (by omega);have hB4:=hB4.of_heap (K3 _ (by omega));have hO1:=hO1.wrote K3 (by omega)
    have hG:=grownBy_wrote hG E11 E12 K3 hz3 (by first | exact .inr rfl | omega);refine Wo_nil ?_;refine W_ret ?_;rotate_left;refine W_skip ?_;refine W_seq ?_;refine W_region rfl ?_
    refine Wo (v:=.agg _) rfl (opv_load3 Tryd.isAgg26 Tryd.sizeOf26 rfl hB3) ?_;refine Wo_st3 rfl Tryd.sizeOf26 rfl rfl (by first | rfl | assumption) (by first | rfl | assumption) (by first | rfl | assumption) hB2 (by omega) Ehr3 ?_
    rintro w11 E11 hB2 K2 hz2;have hr3:=hr3.wrote E11 (K2 _ (by omega)) hz2;have hB3:=hB3.of_heap (K2 _ (by omega));have hB1:=hB1.of_heap (K2 _ (by omega));have hO:=hO.wrote K2 (by omega)
    have hB4:=hB4.of_heap (K2 _ (by omega));have hO1:=hO1.wrote K2 (by omega);have hG:=grownBy_wrote hG Ehr3 E11 K2 hz2 (by first | exact .inr rfl | omega);refine Wo_nil ?_;refine W_ret ?_;rotate_left;refine Wo_skip rfl ?_
    refine Wo_skip rfl ?_;refine Wo_skip rfl ?_;refine Wo rfl (opv_pick_f (v:=.bool _) rfl rfl) ?_;refine Wo_nil ?_;refine W_cond_false rfl ?_;refine W_skip ?_;refine W_seq ?_;refine W_seq ?_;refine W_region rfl ?_
    refine Wo rfl (opv_move (v:=.pointer _) rfl) ?_;refine Wo_call rfl (opc2 (a:=.pointer _) (b:=.int _ _) Tryd.call57 rfl rfl) (odd_ok _ _ (by assumption) (by omega) (by omega)) ?_;rintro _ w9 ⟨y3,rfl,E9,hr3,hy3⟩
    (try dsimp only at hy3);have hlhr3:=hr3.lt;have Ehr3:=hr3.old;have hB3:=(hB3.ext E8).grown E9 (by simp only [ne_eq,Option.some.injEq];omega)
    have hB1:=(hB1.ext E8).grown E9 (by simp only [ne_eq,Option.some.injEq];omega);have hB2:=(hB2.ext E8).grown E9 (by simp only [ne_eq,Option.some.injEq];omega);have hO:=(hO.ext E8).grown E9 (by omega)
    have hB4:=(hB4.ext E8).grown E9 (by simp only [ne_eq,Option.some.injEq];omega);have hO1:=hO1.toB.grown E9 (by omega);have hG:=grownBy_trans hG E9;have hs8:=E9.size;refine Wo_nil ?_
    refine W_cond rfl (fun h6=>?_) (fun h6=>?_);refine W_region rfl ?_;refine Wo rfl (opv_fieldAddr Tryd.underlying26 rfl rfl Tryd.sizeOf9 rfl) ?_;refine Wo (v:=.string _) rfl (opv_load Tryd.isAgg9 rfl (hB3.cell rfl)) ?_
    refine Wo rfl (opv_add_str rfl rfl (by simp <;> omega)) ?_;refine Wo rfl (opv_fieldAddr Tryd.underlying26 rfl rfl Tryd.sizeOf9 rfl) ?_;refine Wo_st (v:=.string _) rfl Tryd.sizeOf9 rfl rfl rfl hB3 (by simp) (by omega) Ehr3 ?_
    rintro w10 E10 hB3 K2 hz2;simp only [List.set] at hB3;have hr3:=hr3.wrote E10 (K2 _ (by omega)) hz2;have hB1:=hB1.of_heap (K2 _ (by omega));have hB2:=hB2.of_heap (K2 _ (by omega));have hO:=hO.wrote K2 (by omega)
    have hB4:=hB4.of_heap (K2 _ (by omega));have hO1:=hO1.wrote K2 (by omega);have hG:=grownBy_wrote hG Ehr3 E10 K2 hz2 (by first | exact .inr rfl | omega);refine Wo_nil ?_;refine W_seq ?_;refine W_region rfl ?_
    refine Wo (v:=.agg _) rfl (opv_load3 Tryd.isAgg26 Tryd.sizeOf26 rfl hB3) ?_;refine Wo_st3 rfl Tryd.sizeOf26 rfl rfl (by first | rfl | assumption) (by first | rfl | assumption) (by first | rfl | assumption) hB2 (by omega) E10 ?_
    rintro w11 E11 hB2 K3 hz3;have hB3:=hB3.of_heap (K3 _ (by omega));have hr3:=hr3.wrote E11 (K3 _ (by omega)) hz3;have hB1:=hB1.of_heap (K3 _ (by omega));have hO:=hO.wrote K3 (by omega)
    have hB4:=hB4.of_heap (K3 _ (by omega));have hO1:=hO1.wrote K3 (by omega);have hG:=grownBy_wrote hG E10 E11 K3 hz3 (by first | exact .inr rfl | omega);refine Wo_nil ?_;refine W_ret ?_;rotate_left;refine W_skip ?_
    refine W_seq ?_;refine W_region rfl ?_;refine Wo (v:=.agg _) rfl (opv_load3 Tryd.isAgg26 Tryd.sizeOf26 rfl hB3) ?_
    refine Wo_st3 rfl Tryd.sizeOf26 rfl rfl (by first | rfl | assumption) (by first | rfl | assumption) (by first | rfl | assumption) hB2 (by omega) Ehr3 ?_;rintro w10 E10 hB2 K2 hz2;have hr3:=hr3.wrote E10 (K2 _ (by omega)) hz2
    have hB3:=hB3.of_heap (K2 _ (by omega));have hB1:=hB1.of_heap (K2 _ (by omega));have hO:=hO.wrote K2 (by omega);have hB4:=hB4.of_heap (K2 _ (by omega));have hO1:=hO1.wrote K2 (by omega)
    have hG:=grownBy_wrote hG Ehr3 E10 K2 hz2 (by first | exact .inr rfl | omega);refine Wo_nil ?_;refine W_ret ?_;rotate_left;refine W_skip ?_;refine W_seq ?_;refine W_seq ?_;refine W_region rfl ?_
    refine Wo rfl (opv_move (v:=.pointer _) rfl) ?_;refine Wo_call rfl (opc2 (a:=.pointer _) (b:=.int _ _) Tryd.call57 rfl rfl) (odd_ok _ _ (by assumption) (by omega) (by omega)) ?_;rintro _ w8 ⟨y3,rfl,E8,hr3,hy3⟩
    (try dsimp only at hy3);have hlhr3:=hr3.lt;have Ehr3:=hr3.old;have hB3:=hB3.grown E8 (by simp only [ne_eq,Option.some.injEq];omega);have hB1:=hB1.grown E8 (by simp only [ne_eq,Option.some.injEq];omega)
    have hB2:=hB2.grown E8 (by simp only [ne_eq,Option.some.injEq];omega);have hO:=hO.grown E8 (by omega);have hB4:=hB4.grown E8 (by simp only [ne_eq,Option.some.injEq];omega);have hG:=grownBy_trans hG E8
    have hs7:=E8.size;refine Wo_nil ?_;refine W_cond rfl (fun h5=>?_) (fun h5=>?_);refine W_region rfl ?_;refine Wo rfl (opv_fieldAddr Tryd.underlying26 rfl rfl Tryd.sizeOf9 rfl) ?_
    refine Wo (v:=.string _) rfl (opv_load Tryd.isAgg9 rfl (hB3.cell rfl)) ?_;refine Wo rfl (opv_add_str rfl rfl (by simp <;> omega)) ?_;refine Wo rfl (opv_fieldAddr Tryd.underlying26 rfl rfl Tryd.sizeOf9 rfl) ?_
    refine Wo_st (v:=.string _) rfl Tryd.sizeOf9 rfl rfl rfl hB3 (by simp) (by omega) Ehr3 ?_;rintro w9 E9 hB3 K2 hz2;simp only [List.set] at hB3;have hr3:=hr3.wrote E9 (K2 _ (by omega)) hz2
    have hB1:=hB1.of_heap (K2 _ (by omega));have hB2:=hB2.of_heap (K2 _ (by omega));have hO:=hO.wrote K2 (by omega);have hB4:=hB4.of_heap (K2 _ (by omega))
    have hG:=grownBy_wrote hG Ehr3 E9 K2 hz2 (by first | exact .inr rfl | omega);refine Wo_nil ?_;refine W_seq ?_;refine W_region rfl ?_;refine Wo (v:=.agg _) rfl (opv_load3 Tryd.isAgg26 Tryd.sizeOf26 rfl hB3) ?_
    refine Wo_st3 rfl Tryd.sizeOf26 rfl rfl (by first | rfl | assumption) (by first | rfl | assumption) (by first | rfl | assumption) hB2 (by omega) E9 ?_;rintro w10 E10 hB2 K3 hz3;have hB3:=hB3.of_heap (K3 _ (by omega))
    have hr3:=hr3.wrote E10 (K3 _ (by omega)) hz3;have hB1:=hB1.of_heap (K3 _ (by omega));have hO:=hO.wrote K3 (by omega);have hB4:=hB4.of_heap (K3 _ (by omega))
    have hG:=grownBy_wrote hG E9 E10 K3 hz3 (by first | exact .inr rfl | omega);refine Wo_nil ?_;refine W_ret ?_;rotate_left;refine W_skip ?_;refine W_seq ?_;refine W_region rfl ?_
    refine Wo (v:=.agg _) rfl (opv_load3 Tryd.isAgg26 Tryd.sizeOf26 rfl hB3) ?_;refine Wo_st3 rfl Tryd.sizeOf26 rfl rfl (by first | rfl | assumption) (by first | rfl | assumption) (by first | rfl | assumption) hB2 (by omega) Ehr3 ?_
    rintro w9 E9 hB2 K2 hz2;have hr3:=hr3.wrote E9 (K2 _ (by omega)) hz2;have hB3:=hB3.of_heap (K2 _ (by omega));have hB1:=hB1.of_heap (K2 _ (by omega));have hO:=hO.wrote K2 (by omega)
    have hB4:=hB4.of_heap (K2 _ (by omega));have hG:=grownBy_wrote hG Ehr3 E9 K2 hz2 (by first | exact .inr rfl | omega);refine Wo_nil ?_;refine W_ret ?_;rotate_left;(exfalso;omega);contradiction;refine W_region rfl ?_
    refine Wo rfl (opv_eql rfl rfl) ?_;refine Wo rfl (opv_assign (v:=.bool _) rfl) ?_;refine Wo_nil ?_;refine W_cond_dec rfl (fun h2=>?_) (fun h2=>?_);refine W_seq ?_;refine W_region rfl ?_
    refine Wo_buildSlice (ps:=[(0,.string _),(1,.string _),(2,.string _),(3,.string _),(4,.string _)]) (cs:=[_,_,_,_,_]) rfl Tryd.underlying65 Tryd.sizeOf9 Tryd.zeroValue9 rfl rfl rfl rfl ?_;rintro b3 w4 hb5 E4 hB4
    have hlb3:=hB4.lt;have hG:=grownBy_ext hG E4;have hr:=hr.ext E4;have hs4:=E4.size;refine Wo rfl (opv_move (v:=.pointer _) rfl) ?_
    refine Wo_call rfl (opc2 (a:=.pointer _) (b:=.int _ _) Tryd.call54 rfl rfl) (pick_ok _ _ (by assumption) (by omega)) ?_;rintro _ w5 ⟨y1,rfl,E5,hr1,hy1⟩;(try dsimp only at hy1);have hlhr1:=hr1.lt;have Ehr1:=hr1.old
    have hB1:=(hB1.ext E4).grown E5 (by simp only [ne_eq,Option.some.injEq];omega);have hB2:=(hB2.ext E4).grown E5 (by simp only [ne_eq,Option.some.injEq];omega)
    have hB3:=(hB3.ext E4).grown E5 (by simp only [ne_eq,Option.some.injEq];omega);have hO:=(hO.ext E4).grown E5 (by omega);have hB4:=hB4.grown E5 (by simp only [ne_eq,Option.some.injEq];omega)
    have hG:=grownBy_trans hG E5;have hs5:=E5.size;refine Wo rfl (opv_indexAddr Tryd.underlying65 Tryd.sizeOf9 rfl rfl (by omega)) ?_
    refine Wo_tbl 0 Tryd.isAgg9 rfl rfl hB4 (by repeat (first | exact trivial | refine And.intro ⟨_,rfl,by decide⟩ ?_)) (by simp only [List.length_cons,List.length_nil];omega) ?_;intro s1 hs1
    refine Wo rfl (opv_fieldAddr Tryd.underlying26 rfl rfl Tryd.sizeOf9 rfl) ?_;refine Wo_st (v:=.string _) rfl Tryd.sizeOf9 rfl rfl rfl hB3 (by simp) (by omega) Ehr1 ?_;rintro w6 E6 hB3 K1 hz1;simp only [List.set] at hB3
    have hr1:=hr1.wrote E6 (K1 _ (by omega)) hz1;have hB1:=hB1.of_heap (K1 _ (by omega));have hB2:=hB2.of_heap (K1 _ (by omega));have hO:=hO.wrote K1 (by omega);have hB4:=hB4.of_heap (K1 _ (by omega))
    have hG:=grownBy_wrote hG Ehr1 E6 K1 hz1 (by first | exact .inr rfl | omega);refine Wo_nil ?_;refine W_seq ?_;refine W_region rfl ?_;refine Wo rfl (opv_fieldAddr Tryd.underlying53 rfl rfl Tryd.sizeOf49 rfl) ?_
    refine Wo (v:=u1) rfl (opv_load Tryd.isAgg49 rfl (hB1.cell rfl)) ?_;refine Wo rfl (opv_len Tryd.underlying49 rfl (OwnedB.read hO)) ?_;refine Wo rfl (opv_gtr rfl rfl) ?_
    refine Wo_split_dec rfl (opv_move (v:=.bool _) rfl) (fun h3=>?_) (fun h3=>?_);refine Wo rfl (opv_move (v:=.pointer _) rfl) ?_
    refine Wo_call rfl (opc2 (a:=.pointer _) (b:=.int _ _) Tryd.call54 rfl rfl) (pick_ok _ _ (by assumption) (by omega)) ?_;rintro _ w7 ⟨y2,rfl,E7,hr2,hy2⟩;(try dsimp only at hy2);have hlhr2:=hr2.lt;have Ehr2:=hr2.old
    have hB3:=hB3.grown E7 (by simp only [ne_eq,Option.some.injEq];omega);have hB1:=hB1.grown E7 (by simp only [ne_eq,Option.some.injEq];omega);have hB2:=hB2.grown E7 (by simp only [ne_eq,Option.some.injEq];omega)
    have hO:=hO.grown E7 (by omega);have hB4:=hB4.grown E7 (by simp only [ne_eq,Option.some.injEq];omega);have hG:=grownBy_trans hG E7;have hs6:=E7.size;refine Wo rfl (opv_eql rfl rfl) ?_
    refine Wo rfl (opv_pick_t (v:=.bool _) rfl rfl) ?_;refine Wo_nil ?_;refine W_cond_dec rfl (fun h4=>?_) (fun h4=>?_);refine W_seq ?_;refine W_region rfl ?_
    refine Wo rfl (opv_fieldAddr Tryd.underlying53 rfl rfl Tryd.sizeOf49 rfl) ?_;refine Wo (v:=u1) rfl (opv_load Tryd.isAgg49 rfl (hB1.cell rfl)) ?_
    refine Wo_call rfl (opc2 (a:=u1) (b:=.int _ _) Tryd.call75 rfl rfl) (c1 _ _ ((OwnedB.read hO))) ?_;rintro u3 w8 ⟨E8,hO1⟩;have hr2:=hr2.ext E8;have hG:=grownBy_ext hG E8;have hs7:=E8.size
    refine Wo rfl (opv_assign (v:=u3) rfl) ?_;refine Wo_nil ?_;refine W_seq ?_;refine W_region rfl ?_;refine Wo rfl (opv_move (v:=u3) rfl) ?_;refine Wo rfl (opv_len Tryd.underlying80 rfl (Owned.read hO1)) ?_
    refine Wo rfl (opv_gtr rfl rfl) ?_;refine Wo_split_dec rfl (opv_move (v:=.bool _) rfl) (fun h5=>?_) (fun h5=>?_);refine Wo rfl (opv_fieldAddr Tryd.underlying53 rfl rfl Tryd.sizeOf49 rfl) ?_
    refine Wo (v:=u1) rfl (opv_load Tryd.isAgg49 rfl ((hB1.ext E8).cell rfl)) ?_;refine Wo_call rfl (opc1 (a:=u1) Tryd.call76 rfl) (c2 _ _ ((Mono.mono E8 (OwnedB.read hO)))) ?_;rintro _ w9 ⟨rfl,E9⟩;have hr2:=hr2.ext E9
    have hG:=grownBy_ext hG E9;have hs8:=E9.size;refine Wo rfl (opv_pick_t (v:=.bool _) rfl rfl) ?_;refine Wo_nil ?_;refine W_cond_false rfl ?_;refine W_skip ?_;refine W_seq ?_;refine W_seq ?_;refine W_region rfl ?_
    refine Wo rfl (opv_move (v:=.pointer _) rfl) ?_;refine Wo_call rfl (opc2 (a:=.pointer _) (b:=.int _ _) Tryd.call57 rfl rfl) (odd_ok _ _ (by assumption) (by omega) (by omega)) ?_;rintro _ w10 ⟨y3,rfl,E10,hr3,hy3⟩
    (try dsimp only at hy3);have hlhr3:=hr3.lt;have Ehr3:=hr3.old;have hB3:=(hB3.ext (E8.trans E9)).grown E10 (by simp only [ne_eq,Option.some.injEq];omega)
    have hB1:=(hB1.ext (E8.trans E9)).grown E10 (by simp only [ne_eq,Option.some.injEq];omega);have hB2:=(hB2.ext (E8.trans E9)).grown E10 (by simp only [ne_eq,Option.some.injEq];omega)
    have hO:=(hO.ext (E8.trans E9)).grown E10 (by omega);have hB4:=(hB4.ext (E8.trans E9)).grown E10 (by simp only [ne_eq,Option.some.injEq];omega);have hO1:=(hO1.toB.ext E9).grown E10 (by omega)
    have hG:=grownBy_trans hG E10;have hs9:=E10.size;refine Wo_nil ?_;refine W_cond rfl (fun h6=>?_) (fun h6=>?_);refine W_region rfl ?_;refine Wo rfl (opv_fieldAddr Tryd.underlying26 rfl rfl Tryd.sizeOf9 rfl) ?_
    refine Wo (v:=.string _) rfl (opv_load Tryd.isAgg9 rfl (hB3.cell rfl)) ?_;refine Wo rfl (opv_add_str rfl rfl (by simp <;> omega)) ?_;refine Wo rfl (opv_fieldAddr Tryd.underlying26 rfl rfl Tryd.sizeOf9 rfl) ?_
    refine Wo_st (v:=.string _) rfl Tryd.sizeOf9 rfl rfl rfl hB3 (by simp) (by omega) Ehr3 ?_;rintro w11 E11 hB3 K2 hz2;simp only [List.set] at hB3;have hr3:=hr3.wrote E11 (K2 _ (by omega)) hz2
    have hB1:=hB1.of_heap (K2 _ (by omega));have hB2:=hB2.of_heap (K2 _ (by omega));have hO:=hO.wrote K2 (by omega);have hB4:=hB4.of_heap (K2 _ (by omega));have hO1:=hO1.wrote K2 (by omega)
    have hG:=grownBy_wrote hG Ehr3 E11 K2 hz2 (by first | exact .inr rfl | omega);refine Wo_nil ?_;refine W_seq ?_;refine W_region rfl ?_;refine Wo (v:=.agg _) rfl (opv_load3 Tryd.isAgg26 Tryd.sizeOf26 rfl hB3) ?_
    refine Wo_st3 rfl Tryd.sizeOf26 rfl rfl (by first | rfl | assumption) (by first | rfl | assumption) (by first | rfl | assumption) hB2 (by omega) E11 ?_;rintro w12 E12 hB2 K3 hz3;have hB3:=hB3.of_heap (K3 _ (by omega))
    have hr3:=hr3.wrote E12 (K3 _ (by omega)) hz3;have hB1:=hB1.of_heap (K3 _ (by omega));have hO:=hO.wrote K3 (by omega);have hB4:=hB4.of_heap (K3 _ (by omega));have hO1:=hO1.wrote K3 (by omega)
    have hG:=grownBy_wrote hG E11 E12 K3 hz3 (by first | exact .inr rfl | omega);refine Wo_nil ?_;refine W_ret ?_;rotate_left;refine W_skip ?_;refine W_seq ?_;refine W_region rfl ?_
    refine Wo (v:=.agg _) rfl (opv_load3 Tryd.isAgg26 Tryd.sizeOf26 rfl hB3) ?_;refine Wo_st3 rfl Tryd.sizeOf26 rfl rfl (by first | rfl | assumption) (by first | rfl | assumption) (by first | rfl | assumption) hB2 (by omega) Ehr3 ?_
    rintro w11 E11 hB2 K2 hz2;have hr3:=hr3.wrote E11 (K2 _ (by omega)) hz2;have hB3:=hB3.of_heap (K2 _ (by omega));have hB1:=hB1.of_heap (K2 _ (by omega));have hO:=hO.wrote K2 (by omega)
    have hB4:=hB4.of_heap (K2 _ (by omega));have hO1:=hO1.wrote K2 (by omega);have hG:=grownBy_wrote hG Ehr3 E11 K2 hz2 (by first | exact .inr rfl | omega);refine Wo_nil ?_;refine W_ret ?_;rotate_left;refine Wo_skip rfl ?_
    refine Wo_skip rfl ?_;refine Wo_skip rfl ?_;refine Wo rfl (opv_pick_f (v:=.bool _) rfl rfl) ?_;refine Wo_nil ?_;refine W_cond_false rfl ?_;refine W_skip ?_;refine W_seq ?_;refine W_seq ?_;refine W_region rfl ?_
    refine Wo rfl (opv_move (v:=.pointer _) rfl) ?_;refine Wo_call rfl (opc2 (a:=.pointer _) (b:=.int _ _) Tryd.call57 rfl rfl) (odd_ok _ _ (by assumption) (by omega) (by omega)) ?_;rintro _ w9 ⟨y3,rfl,E9,hr3,hy3⟩
    (try dsimp only at hy3);have hlhr3:=hr3.lt;have Ehr3:=hr3.old;have hB3:=(hB3.ext E8).grown E9 (by simp only [ne_eq,Option.some.injEq];omega)
    have hB1:=(hB1.ext E8).grown E9 (by simp only [ne_eq,Option.some.injEq];omega);have hB2:=(hB2.ext E8).grown E9 (by simp only [ne_eq,Option.some.injEq];omega);have hO:=(hO.ext E8).grown E9 (by omega)
    have hB4:=(hB4.ext E8).grown E9 (by simp only [ne_eq,Option.some.injEq];omega);have hO1:=hO1.toB.grown E9 (by omega);have hG:=grownBy_trans hG E9;have hs8:=E9.size;refine Wo_nil ?_
    refine W_cond rfl (fun h6=>?_) (fun h6=>?_);refine W_region rfl ?_;refine Wo rfl (opv_fieldAddr Tryd.underlying26 rfl rfl Tryd.sizeOf9 rfl) ?_;refine Wo (v:=.string _) rfl (opv_load Tryd.isAgg9 rfl (hB3.cell rfl)) ?_
    refine Wo rfl (opv_add_str rfl rfl (by simp <;> omega)) ?_;refine Wo rfl (opv_fieldAddr Tryd.underlying26 rfl rfl Tryd.sizeOf9 rfl) ?_;refine Wo_st (v:=.string _) rfl Tryd.sizeOf9 rfl rfl rfl hB3 (by simp) (by omega) Ehr3 ?_
    rintro w10 E10 hB3 K2 hz2;simp only [List.set] at hB3;have hr3:=hr3.wrote E10 (K2 _ (by omega)) hz2;have hB1:=hB1.of_heap (K2 _ (by omega));have hB2:=hB2.of_heap (K2 _ (by omega));have hO:=hO.wrote K2 (by omega)
    have hB4:=hB4.of_heap (K2 _ (by omega));have hO1:=hO1.wrote K2 (by omega);have hG:=grownBy_wrote hG Ehr3 E10 K2 hz2 (by first | exact .inr rfl | omega);refine Wo_nil ?_;refine W_seq ?_;refine W_region rfl ?_
    refine Wo (v:=.agg _) rfl (opv_load3 Tryd.isAgg26 Tryd.sizeOf26 rfl hB3) ?_;refine Wo_st3 rfl Tryd.sizeOf26 rfl rfl (by first | rfl | assumption) (by first | rfl | assumption) (by first | rfl | assumption) hB2 (by omega) E10 ?_
    rintro w11 E11 hB2 K3 hz3;have hB3:=hB3.of_heap (K3 _ (by omega));have hr3:=hr3.wrote E11 (K3 _ (by omega)) hz3;have hB1:=hB1.of_heap (K3 _ (by omega));have hO:=hO.wrote K3 (by omega)
    have hB4:=hB4.of_heap (K3 _ (by omega));have hO1:=hO1.wrote K3 (by omega);have hG:=grownBy_wrote hG E10 E11 K3 hz3 (by first | exact .inr rfl | omega);refine Wo_nil ?_;refine W_ret ?_;rotate_left;refine W_skip ?_
    refine W_seq ?_;refine W_region rfl ?_;refine Wo (v:=.agg _) rfl (opv_load3 Tryd.isAgg26 Tryd.sizeOf26 rfl hB3) ?_
    refine Wo_st3 rfl Tryd.sizeOf26 rfl rfl (by first | rfl | assumption) (by first | rfl | assumption) (by first | rfl | assumption) hB2 (by omega) Ehr3 ?_;rintro w10 E10 hB2 K2 hz2;have hr3:=hr3.wrote E10 (K2 _ (by omega)) hz2
    have hB3:=hB3.of_heap (K2 _ (by omega));have hB1:=hB1.of_heap (K2 _ (by omega));have hO:=hO.wrote K2 (by omega);have hB4:=hB4.of_heap (K2 _ (by omega));have hO1:=hO1.wrote K2 (by omega)
    have hG:=grownBy_wrote hG Ehr3 E10 K2 hz2 (by first | exact .inr rfl | omega);refine Wo_nil ?_;refine W_ret ?_;rotate_left;refine W_skip ?_;refine W_seq ?_;refine W_seq ?_;refine W_region rfl ?_
    refine Wo rfl (opv_move (v:=.pointer _) rfl) ?_;refine Wo_call rfl (opc2 (a:=.pointer _) (b:=.int _ _) Tryd.call57 rfl rfl) (odd_ok _ _ (by assumption) (by omega) (by omega)) ?_;rintro _ w8 ⟨y3,rfl,E8,hr3,hy3⟩
    (try dsimp only at hy3);have hlhr3:=hr3.lt;have Ehr3:=hr3.old;have hB3:=hB3.grown E8 (by simp only [ne_eq,Option.some.injEq];omega);have hB1:=hB1.grown E8 (by simp only [ne_eq,Option.some.injEq];omega)
    have hB2:=hB2.grown E8 (by simp only [ne_eq,Option.some.injEq];omega);have hO:=hO.grown E8 (by omega);have hB4:=hB4.grown E8 (by simp only [ne_eq,Option.some.injEq];omega);have hG:=grownBy_trans hG E8
    have hs7:=E8.size;refine Wo_nil ?_;refine W_cond rfl (fun h5=>?_) (fun h5=>?_);refine W_region rfl ?_;refine Wo rfl (opv_fieldAddr Tryd.underlying26 rfl rfl Tryd.sizeOf9 rfl) ?_
    refine Wo (v:=.string _) rfl (opv_load Tryd.isAgg9 rfl (hB3.cell rfl)) ?_;refine Wo rfl (opv_add_str rfl rfl (by simp <;> omega)) ?_;refine Wo rfl (opv_fieldAddr Tryd.underlying26 rfl rfl Tryd.sizeOf9 rfl) ?_
    refine Wo_st (v:=.string _) rfl Tryd.sizeOf9 rfl rfl rfl hB3 (by simp) (by omega) Ehr3 ?_;rintro w9 E9 hB3 K2 hz2;simp only [List.set] at hB3;have hr3:=hr3.wrote E9 (K2 _ (by omega)) hz2
    have hB1:=hB1.of_heap (K2 _ (by omega));have hB2:=hB2.of_heap (K2 _ (by omega));have hO:=hO.wrote K2 (by omega);have hB4:=hB4.of_heap (K2 _ (by omega))
    have hG:=grownBy_wrote hG Ehr3 E9 K2 hz2 (by first | exact .inr rfl | omega);refine Wo_nil ?_;refine W_seq ?_;refine W_region rfl ?_;refine Wo (v:=.agg _) rfl (opv_load3 Tryd.isAgg26 Tryd.sizeOf26 rfl hB3) ?_
    refine Wo_st3 rfl Tryd.sizeOf26 rfl rfl (by first | rfl | assumption) (by first | rfl | assumption) (by first | rfl | assumption) hB2 (by omega) E9 ?_;rintro w10 E10 hB2 K3 hz3;have hB3:=hB3.of_heap (K3 _ (by omega))
    have hr3:=hr3.wrote E10 (K3 _ (by omega)) hz3;have hB1:=hB1.of_heap (K3 _ (by omega));have hO:=hO.wrote K3 (by omega);have hB4:=hB4.of_heap (K3 _ (by omega))
    have hG:=grownBy_wrote hG E9 E10 K3 hz3 (by first | exact .inr rfl | omega);refine Wo_nil ?_;refine W_ret ?_;rotate_left;refine W_skip ?_;refine W_seq ?_;refine W_region rfl ?_
    refine Wo (v:=.agg _) rfl (opv_load3 Tryd.isAgg26 Tryd.sizeOf26 rfl hB3) ?_;refine Wo_st3 rfl Tryd.sizeOf26 rfl rfl (by first | rfl | assumption) (by first | rfl | assumption) (by first | rfl | assumption) hB2 (by omega) Ehr3 ?_
    rintro w9 E9 hB2 K2 hz2;have hr3:=hr3.wrote E9 (K2 _ (by omega)) hz2;have hB3:=hB3.of_heap (K2 _ (by omega));have hB1:=hB1.of_heap (K2 _ (by omega));have hO:=hO.wrote K2 (by omega)
    have hB4:=hB4.of_heap (K2 _ (by omega));have hG:=grownBy_wrote hG Ehr3 E9 K2 hz2 (by first | exact .inr rfl | omega);refine Wo_nil ?_;refine W_ret ?_;rotate_left;(exfalso;omega);refine W_seq ?_;refine W_region rfl ?_
    refine Wo rfl (opv_eql rfl rfl) ?_;refine Wo rfl (opv_assign (v:=.bool _) rfl) ?_;refine Wo_nil ?_;refine W_cond_dec rfl (fun h3=>?_) (fun h3=>?_);refine W_region rfl ?_;refine Wo rfl (opv_move (v:=.pointer _) rfl) ?_
    refine Wo rfl (opv_fieldAddr Tryd.underlying53 rfl rfl Tryd.sizeOf49 rfl) ?_;refine Wo (v:=u1) rfl (opv_load Tryd.isAgg49 rfl (hB1.cell rfl)) ?_;refine Wo rfl (opv_len Tryd.underlying49 rfl (OwnedB.read hO)) ?_
    refine Wo rfl (opv_max rfl rfl) ?_;refine Wo_call rfl (opc2 (a:=.pointer _) (b:=.int _ _) Tryd.call54 rfl rfl) (pick_ok _ _ (by assumption) (by omega)) ?_;rintro _ w4 ⟨y1,rfl,E4,hr1,hy1⟩;(try dsimp only at hy1)
    have hlhr1:=hr1.lt;have Ehr1:=hr1.old;have hG:=grownBy_trans hG E4;have hB1:=hB1.grown E4 (by simp only [ne_eq,Option.some.injEq];omega);have hB2:=hB2.grown E4 (by simp only [ne_eq,Option.some.injEq];omega)
    have hB3:=hB3.grown E4 (by simp only [ne_eq,Option.some.injEq];omega);have hO:=hO.grown E4 (by omega);have hs4:=E4.size;refine Wo rfl (opv_fieldAddr Tryd.underlying26 rfl rfl Tryd.sizeOf3 rfl) ?_
    refine Wo_st (v:=.int _ _) rfl Tryd.sizeOf3 rfl rfl rfl hB3 (by simp) (by omega) Ehr1 ?_;rintro w5 E5 hB3 K1 hz1;simp only [List.set] at hB3;have hr1:=hr1.wrote E5 (K1 _ (by omega)) hz1
    have hG:=grownBy_wrote hG Ehr1 E5 K1 hz1 (by first | exact .inr rfl | omega);have hB1:=hB1.of_heap (K1 _ (by omega));have hB2:=hB2.of_heap (K1 _ (by omega));have hO:=hO.wrote K1 (by omega);refine Wo_nil ?_
    refine W_seq ?_;refine W_seq ?_;refine W_region rfl ?_;refine Wo rfl (opv_move (v:=.pointer _) rfl) ?_
    refine Wo_call rfl (opc2 (a:=.pointer _) (b:=.int _ _) Tryd.call57 rfl rfl) (odd_ok _ _ (by assumption) (by omega) (by omega)) ?_;rintro _ w6 ⟨y2,rfl,E6,hr2,hy2⟩;(try dsimp only at hy2);have hlhr2:=hr2.lt
    have Ehr2:=hr2.old;have hB3:=hB3.grown E6 (by simp only [ne_eq,Option.some.injEq];omega);have hG:=grownBy_trans hG E6;have hB1:=hB1.grown E6 (by simp only [ne_eq,Option.some.injEq];omega)
    have hB2:=hB2.grown E6 (by simp only [ne_eq,Option.some.injEq];omega);have hO:=hO.grown E6 (by omega);have hs5:=E6.size;refine Wo_nil ?_;refine W_cond rfl (fun h4=>?_) (fun h4=>?_);refine W_region rfl ?_
    refine Wo rfl (opv_fieldAddr Tryd.underlying26 rfl rfl Tryd.sizeOf9 rfl) ?_;refine Wo (v:=.string _) rfl (opv_load Tryd.isAgg9 rfl (hB3.cell rfl)) ?_;refine Wo rfl (opv_add_str rfl rfl (by simp <;> omega)) ?_
    refine Wo rfl (opv_fieldAddr Tryd.underlying26 rfl rfl Tryd.sizeOf9 rfl) ?_;refine Wo_st (v:=.string _) rfl Tryd.sizeOf9 rfl rfl rfl hB3 (by simp) (by omega) Ehr2 ?_;rintro w7 E7 hB3 K2 hz2;simp only [List.set] at hB3
    have hr2:=hr2.wrote E7 (K2 _ (by omega)) hz2;have hG:=grownBy_wrote hG Ehr2 E7 K2 hz2 (by first | exact .inr rfl | omega);have hB1:=hB1.of_heap (K2 _ (by omega));have hB2:=hB2.of_heap (K2 _ (by omega))
    have hO:=hO.wrote K2 (by omega);refine Wo_nil ?_;refine W_seq ?_;refine W_region rfl ?_;refine Wo (v:=.agg _) rfl (opv_load3 Tryd.isAgg26 Tryd.sizeOf26 rfl hB3) ?_
    refine Wo_st3 rfl Tryd.sizeOf26 rfl rfl (by first | rfl | assumption) (by first | rfl | assumption) (by first | rfl | assumption) hB2 (by omega) E7 ?_;rintro w8 E8 hB2 K3 hz3;have hB3:=hB3.of_heap (K3 _ (by omega))
    have hr2:=hr2.wrote E8 (K3 _ (by omega)) hz3;have hG:=grownBy_wrote hG E7 E8 K3 hz3 (by first | exact .inr rfl | omega);have hB1:=hB1.of_heap (K3 _ (by omega));have hO:=hO.wrote K3 (by omega);refine Wo_nil ?_
    refine W_ret ?_;rotate_left;refine W_skip ?_;refine W_seq ?_;refine W_region rfl ?_;refine Wo (v:=.agg _) rfl (opv_load3 Tryd.isAgg26 Tryd.sizeOf26 rfl hB3) ?_
    refine Wo_st3 rfl Tryd.sizeOf26 rfl rfl (by first | rfl | assumption) (by first | rfl | assumption) (by first | rfl | assumption) hB2 (by omega) Ehr2 ?_;rintro w7 E7 hB2 K2 hz2;have hr2:=hr2.wrote E7 (K2 _ (by omega)) hz2
    have hB3:=hB3.of_heap (K2 _ (by omega));have hG:=grownBy_wrote hG Ehr2 E7 K2 hz2 (by first | exact .inr rfl | omega);have hB1:=hB1.of_heap (K2 _ (by omega));have hO:=hO.wrote K2 (by omega);refine Wo_nil ?_
    refine W_ret ?_;rotate_left;refine W_skip ?_;refine W_seq ?_;refine W_seq ?_;refine W_region rfl ?_;refine Wo rfl (opv_move (v:=.pointer _) rfl) ?_
    refine Wo_call rfl (opc2 (a:=.pointer _) (b:=.int _ _) Tryd.call57 rfl rfl) (odd_ok _ _ (by assumption) (by omega) (by omega)) ?_;rintro _ w4 ⟨y1,rfl,E4,hr1,hy1⟩;(try dsimp only at hy1);have hlhr1:=hr1.lt
    have Ehr1:=hr1.old;have hG:=grownBy_trans hG E4;have hB1:=hB1.grown E4 (by simp only [ne_eq,Option.some.injEq];omega);have hB2:=hB2.grown E4 (by simp only [ne_eq,Option.some.injEq];omega)
    have hB3:=hB3.grown E4 (by simp only [ne_eq,Option.some.injEq];omega);have hO:=hO.grown E4 (by omega);have hs4:=E4.size;refine Wo_nil ?_;refine W_cond rfl (fun h4=>?_) (fun h4=>?_);refine W_region rfl ?_
    refine Wo rfl (opv_fieldAddr Tryd.underlying26 rfl rfl Tryd.sizeOf9 rfl) ?_;refine Wo (v:=.string _) rfl (opv_load Tryd.isAgg9 rfl (hB3.cell rfl)) ?_;refine Wo rfl (opv_add_str rfl rfl (by simp <;> omega)) ?_
    refine Wo rfl (opv_fieldAddr Tryd.underlying26 rfl rfl Tryd.sizeOf9 rfl) ?_;refine Wo_st (v:=.string _) rfl Tryd.sizeOf9 rfl rfl rfl hB3 (by simp) (by omega) Ehr1 ?_;rintro w5 E5 hB3 K1 hz1;simp only [List.set] at hB3
    have hr1:=hr1.wrote E5 (K1 _ (by omega)) hz1;have hG:=grownBy_wrote hG Ehr1 E5 K1 hz1 (by first | exact .inr rfl | omega);have hB1:=hB1.of_heap (K1 _ (by omega));have hB2:=hB2.of_heap (K1 _ (by omega))
    have hO:=hO.wrote K1 (by omega);refine Wo_nil ?_;refine W_seq ?_;refine W_region rfl ?_;refine Wo (v:=.agg _) rfl (opv_load3 Tryd.isAgg26 Tryd.sizeOf26 rfl hB3) ?_
    refine Wo_st3 rfl Tryd.sizeOf26 rfl rfl (by first | rfl | assumption) (by first | rfl | assumption) (by first | rfl | assumption) hB2 (by omega) E5 ?_;rintro w6 E6 hB2 K2 hz2;have hB3:=hB3.of_heap (K2 _ (by omega))
    have hr1:=hr1.wrote E6 (K2 _ (by omega)) hz2;have hG:=grownBy_wrote hG E5 E6 K2 hz2 (by first | exact .inr rfl | omega);have hB1:=hB1.of_heap (K2 _ (by omega));have hO:=hO.wrote K2 (by omega);refine Wo_nil ?_
    refine W_ret ?_;rotate_left;refine W_skip ?_;refine W_seq ?_;refine W_region rfl ?_;refine Wo (v:=.agg _) rfl (opv_load3 Tryd.isAgg26 Tryd.sizeOf26 rfl hB3) ?_
    refine Wo_st3 rfl Tryd.sizeOf26 rfl rfl (by first | rfl | assumption) (by first | rfl | assumption) (by first | rfl | assumption) hB2 (by omega) Ehr1 ?_;rintro w5 E5 hB2 K1 hz1;have hr1:=hr1.wrote E5 (K1 _ (by omega)) hz1
    have hG:=grownBy_wrote hG Ehr1 E5 K1 hz1 (by first | exact .inr rfl | omega);have hB1:=hB1.of_heap (K1 _ (by omega));have hB3:=hB3.of_heap (K1 _ (by omega));have hO:=hO.wrote K1 (by omega);refine Wo_nil ?_
    refine W_ret ?_;rotate_left
   all_goals
    refine ⟨b2,_,_,_,rfl,hB2,_,_,_,rfl,hG,?_,?_⟩
    ·first | exact hr7.le (by omega) | exact hr6.le (by omega) | exact hr5.le (by omega) | exact hr4.le (by omega) | exact hr3.le (by omega) | exact hr2.le (by omega) | exact hr1.le (by omega) | exact hr.le (by omega)
    ·unfold DrP;simp only [List.length_append,List.length_cons,List.length_nil];omega
end Go.Proofs.YtgphoihilheoeaaDoor
