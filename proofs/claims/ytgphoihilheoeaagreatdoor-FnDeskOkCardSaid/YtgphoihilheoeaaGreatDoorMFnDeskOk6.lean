/- Lemmas for FnDeskOk. -/
import Derived.Test.YtgphoihilheoeaaGreatDoorMFnDeskOk5
namespace Go.Proofs.YtgphoihilheoeaaGreatDoor
open Go.Hs
set_option maxRecDepth 10000
set_option maxHeartbeats 4000000
set_option linter.unusedVariables false
set_option linter.unusedSimpArgs false

open Classical in
theorem Deed_ok {w0 : World} (w : World) {br m lo : Nat} (u1 u2 : Value) (p : List (List Int)) (hr : Rdr w0 w br m) (hm : m ≤ 10000000) (hA : Above lo (ESl Ints) w u1 p) (hlo : br < lo) (hlo2 : lo < w.heap.size) (i2 : isCell u2 = true) (hp : NowP p) :
    Does Tryz.prog 63 [.pointer (some ⟨br, 0, none⟩), .agg #[u1, u2]] w (RetDD w0 w br (m + 10) DrP) := by
  have i1 : isCell u1 = true := ESl_isC hA.here
  have hle := hA.here.le
  have hO := hA.xrd hlo2 i1
  clear hA
  refine fn_of_Wc3 Tryz.func63 rfl Tryz.results63 Tryz.ntmps63 rfl Tryz.isAgg75 Tryz.sizeOf75 ?_
  have hG : w.grownBy w (some br) := grownBy_refl _ _
  have hlr := hr.lt
  have hgr := hr.ge
  have E0 := hr.old
  have stop1 : True := trivial
  focus
    have szE0 := E0.size; refine W_seq ?_; refine W_region rfl ?_; refine Wo_box rfl rfl rfl ?_; rintro b1 w1 hb1 E1 hB1; have hlb1 := hB1.lt; have hr := hr.ext E1; have hG := grownBy_ext hG E1; have hs1 := E1.size
    refine Wo_allocN rfl flat75 ?_; rintro b2 w2 hb2 E2 hB2; have hlb2 := hB2.lt; have hr := hr.ext E2; have hG := grownBy_ext hG E2; have hs2 := E2.size; refine Wo_nil ?_; refine W_seq ?_
  clear stop1
  refine W_mid [5, 7, 8, 9, 10, 11, 12, 13, 14, 15, 16, 17] (fun ((b, k) : Nat × Int) => [(5, .pointer (some ⟨b, 0, none⟩))]) (fun (b, k) w' => w.grownBy w' (some br) ∧ Rdr w0 w' br (m + 2) ∧ w2.heap.size ≤ b ∧ b < w'.heap.size ∧ Blk w' b1 [u1, u2] ∧ Blk w' b2 [.int .i64 0, str [], .int .i64 0] ∧ Blk w' b [.int .i64 k, str [], .int .i64 0] ∧ OwnedB lo w.heap.size (XRd (ESl Ints)) w' u1 p ∧ 0 ≤ k ∧ k ≤ 20) ?_ ?_
  · focus
      have szE2 := E2.size; have szE1 := E1.size; have szE0 := E0.size; refine W_held (fun _ => True) mixed rfl (by kernel_rfl) ?_; intro w3 E3 K1 hz1; have hr := hr.ext E3; have hG := grownBy_ext hG E3; have hs3 := E3.size
      refine Wh_take 1 rfl (by kernel_rfl) (by kernel_rfl) rfl (fun _ _ => opv_move (v := .pointer _) rfl) trivial ?_; refine Wh_take 5 rfl (by kernel_rfl) (by kernel_rfl) rfl (fun _ _ => opv_move (v := .pointer _) rfl) trivial ?_
      refine Wh_all (rs := [0, 2, 11]) (by kernel_rfl) rfl ?_; refine WhAll_cons rfl ?_ ?_
      refine Wo_buildSliceH (ps := [(0, .int _ _), (1, .int _ _), (2, .int _ _), (3, .int _ _), (4, .int _ _), (5, .int _ _), (6, .int _ _), (7, .int _ _)]) (cs := [_, _, _, _, _, _, _, _]) rfl Tryz.underlying58 Tryz.sizeOf3 Tryz.zeroValue3 rfl rfl rfl rfl ?_
      rintro b3 w4 hb3 E4 hB3 hHb3; have hlb3 := hB3.lt; have hr := hr.ext E4; have hG := grownBy_ext hG E4; have hs4 := E4.size; refine Wo_nil ?_; refine ⟨trivial, ?_⟩; refine Wh_all (rs := [2, 11]) (by kernel_rfl) rfl ?_
      refine WhAll_cons rfl ?_ ?_; refine Wo_call rfl (opc2 (a := .pointer _) (b := .int _ _) Tryz.call46 rfl rfl) (pick_ok _ _ (by assumption) (by omega)) ?_; rintro _ w5 ⟨y1, rfl, E5, hr1, hy1⟩; (try dsimp only at hy1)
      have hlhr1 := hr1.lt; have Ehr1 := hr1.old; have hO := (hO.ext (((E1.trans E2).trans E3).trans E4)).grown E5 (by omega); have hB1 := (hB1.ext ((E2.trans E3).trans E4)).grown E5 (by simp only [ne_eq, Option.some.injEq]; omega)
      have hB2 := (hB2.ext (E3.trans E4)).grown E5 (by simp only [ne_eq, Option.some.injEq]; omega); have hB3 := hB3.grown E5 (by simp only [ne_eq, Option.some.injEq]; omega); have hG := grownBy_trans hG E5; have hs5 := E5.size
      refine Wo_nil ?_; refine ⟨trivial, ?_⟩; refine Wh_take 3 rfl (by kernel_rfl) (by kernel_rfl) rfl (fun _ _ => opv_indexAddr Tryz.underlying58 Tryz.sizeOf3 rfl rfl (by omega)) trivial ?_
      refine Wh_all (rs := [4, 6, 11]) (by kernel_rfl) rfl ?_; refine WhAll_cons rfl ?_ ?_
      refine Wo_tblI Tryz.isAgg3 rfl rfl hB3 (by repeat (first | exact trivial | refine And.intro ⟨_, rfl, by decide⟩ ?_)) (by simp only [List.length_cons, List.length_nil]; omega) ?_; intro z1 hz1; refine Wo_nil ?_; refine ⟨trivial, ?_⟩
      refine Wh_all (rs := [6, 11]) (by kernel_rfl) rfl ?_; refine WhAll_cons rfl ?_ ?_; refine Wo_call rfl (opc2 (a := .pointer _) (b := .int _ _) Tryz.call46 rfl rfl) (pick_ok _ _ (by assumption) (by omega)) ?_
      rintro _ w6 ⟨y2, rfl, E6, hr2, hy2⟩; (try dsimp only at hy2); have hlhr2 := hr2.lt; have Ehr2 := hr2.old; have hO := hO.grown E6 (by omega); have hB1 := hB1.grown E6 (by simp only [ne_eq, Option.some.injEq]; omega)
      have hB2 := hB2.grown E6 (by simp only [ne_eq, Option.some.injEq]; omega); have hB3 := hB3.grown E6 (by simp only [ne_eq, Option.some.injEq]; omega); have hG := grownBy_trans hG E6; have hs6 := E6.size; refine Wo_nil ?_
      refine ⟨trivial, ?_⟩; refine Wh_take 7 rfl (by kernel_rfl) (by kernel_rfl) rfl (fun _ _ => opv_quo rfl rfl (by omega)) trivial ?_
      refine Wh_take 8 rfl (by kernel_rfl) (by kernel_rfl) rfl (fun _ _ => opv_mul rfl rfl (by omega)) trivial ?_; refine Wh_take 9 rfl (by kernel_rfl) (by kernel_rfl) rfl (fun _ _ => opv_add rfl rfl (by omega)) trivial ?_
      refine Wh_take 10 rfl (by kernel_rfl) (by kernel_rfl) rfl (fun _ _ => opv_build (ps := [(0, .int _ _)]) (cs := [_, _, _]) flat75 rfl rfl) trivial ?_; refine Wh_all (rs := [11]) (by kernel_rfl) rfl ?_; refine WhAll_cons rfl ?_ ?_
      refine Wo_allocN rfl flat75 ?_; rintro b4 w7 hb4 E7 hB4; have hlb4 := hB4.lt; have hr2 := hr2.ext E7; have hG := grownBy_ext hG E7; have hs7 := E7.size; refine Wo_nil ?_; refine ⟨trivial, ?_⟩
      refine Wh_all (rs := [12]) (by kernel_rfl) rfl ?_; refine WhAll_cons rfl ?_ ?_
      refine Wo_st3 rfl Tryz.sizeOf75 rfl rfl (by first | rfl | assumption) (by first | rfl | assumption) (by first | rfl | assumption) hB4 (by omega) (Ehr2.trans E7) ?_; rintro w8 E8 hB4 K2 hz2
      have E9 := E7.wroteAt (Ehr2.trans E7) E8 K2 hz2 (by omega); have szE9 := E9.size; have hO := (hO.ext E7).wrote K2 (by omega); have hB1 := (hB1.ext E7).of_heap (K2 _ (by omega)); have hB2 := (hB2.ext E7).of_heap (K2 _ (by omega))
      have hB3 := (hB3.ext E7).of_heap (K2 _ (by omega)); have hr2 := hr2.wrote E8 (K2 _ (by omega)) hz2; have hG := grownBy_wrote hG (Ehr2.trans E7) E8 K2 hz2 (by first | exact .inr rfl | omega); refine Wo_nil ?_; refine ⟨trivial, ?_⟩
      refine Wh_done (by kernel_rfl) ?_; rotate_left; exact WhAll_nil; exact WhAll_nil; refine WhAll_cons rfl ?_ ?_; refine Wo_allocN rfl flat75 ?_; rintro b4 w6 hb4 E6 hB4; have hlb4 := hB4.lt; have hr1 := hr1.ext E6
      have hG := grownBy_ext hG E6; have hs6 := E6.size; refine Wo_nil ?_; refine ⟨trivial, ?_⟩; refine Wh_all (rs := [6]) (by kernel_rfl) rfl ?_; refine WhAll_cons rfl ?_ ?_
      refine Wo_call rfl (opc2 (a := .pointer _) (b := .int _ _) Tryz.call46 rfl rfl) (pick_ok _ _ (by assumption) (by omega)) ?_; rintro _ w7 ⟨y2, rfl, E7, hr2, hy2⟩; (try dsimp only at hy2); have hlhr2 := hr2.lt; have Ehr2 := hr2.old
      have hO := (hO.ext E6).grown E7 (by omega); have hB1 := (hB1.ext E6).grown E7 (by simp only [ne_eq, Option.some.injEq]; omega); have hB2 := (hB2.ext E6).grown E7 (by simp only [ne_eq, Option.some.injEq]; omega)
      have hB3 := (hB3.ext E6).grown E7 (by simp only [ne_eq, Option.some.injEq]; omega); have hB4 := hB4.grown E7 (by simp only [ne_eq, Option.some.injEq]; omega); have hG := grownBy_trans hG E7; have hs7 := E7.size; refine Wo_nil ?_
      refine ⟨trivial, ?_⟩; refine Wh_take 7 rfl (by kernel_rfl) (by kernel_rfl) rfl (fun _ _ => opv_quo rfl rfl (by omega)) trivial ?_
      refine Wh_take 8 rfl (by kernel_rfl) (by kernel_rfl) rfl (fun _ _ => opv_mul rfl rfl (by omega)) trivial ?_; refine Wh_take 9 rfl (by kernel_rfl) (by kernel_rfl) rfl (fun _ _ => opv_add rfl rfl (by omega)) trivial ?_
      refine Wh_take 10 rfl (by kernel_rfl) (by kernel_rfl) rfl (fun _ _ => opv_build (ps := [(0, .int _ _)]) (cs := [_, _, _]) flat75 rfl rfl) trivial ?_; refine Wh_all (rs := [12]) (by kernel_rfl) rfl ?_; refine WhAll_cons rfl ?_ ?_
      refine Wo_st3 rfl Tryz.sizeOf75 rfl rfl (by first | rfl | assumption) (by first | rfl | assumption) (by first | rfl | assumption) hB4 (by omega) Ehr2 ?_; rintro w8 E8 hB4 K2 hz2; have hr2 := hr2.wrote E8 (K2 _ (by omega)) hz2
      have hO := hO.wrote K2 (by omega); have hB1 := hB1.of_heap (K2 _ (by omega)); have hB2 := hB2.of_heap (K2 _ (by omega)); have hB3 := hB3.of_heap (K2 _ (by omega))
      have hG := grownBy_wrote hG Ehr2 E8 K2 hz2 (by first | exact .inr rfl | omega); refine Wo_nil ?_; refine ⟨trivial, ?_⟩; refine Wh_done (by kernel_rfl) ?_; rotate_left; exact WhAll_nil; exact WhAll_nil; exact WhAll_nil
      refine WhAll_cons rfl ?_ ?_; refine Wo_call rfl (opc2 (a := .pointer _) (b := .int _ _) Tryz.call46 rfl rfl) (pick_ok _ _ (by assumption) (by omega)) ?_; rintro _ w6 ⟨y2, rfl, E6, hr2, hy2⟩; (try dsimp only at hy2)
      have hlhr2 := hr2.lt; have Ehr2 := hr2.old; have hO := hO.grown E6 (by omega); have hB1 := hB1.grown E6 (by simp only [ne_eq, Option.some.injEq]; omega); have hB2 := hB2.grown E6 (by simp only [ne_eq, Option.some.injEq]; omega)
      have hB3 := hB3.grown E6 (by simp only [ne_eq, Option.some.injEq]; omega); have hG := grownBy_trans hG E6; have hs6 := E6.size; refine Wo_nil ?_; refine ⟨trivial, ?_⟩
      refine Wh_take 7 rfl (by kernel_rfl) (by kernel_rfl) rfl (fun _ _ => opv_quo rfl rfl (by omega)) trivial ?_; refine Wh_take 8 rfl (by kernel_rfl) (by kernel_rfl) rfl (fun _ _ => opv_mul rfl rfl (by omega)) trivial ?_
      refine Wh_all (rs := [4, 11]) (by kernel_rfl) rfl ?_; refine WhAll_cons rfl ?_ ?_
      refine Wo_tblI Tryz.isAgg3 rfl rfl hB3 (by repeat (first | exact trivial | refine And.intro ⟨_, rfl, by decide⟩ ?_)) (by simp only [List.length_cons, List.length_nil]; omega) ?_; intro z1 hz1; refine Wo_nil ?_; refine ⟨trivial, ?_⟩
      refine Wh_take 9 rfl (by kernel_rfl) (by kernel_rfl) rfl (fun _ _ => opv_add rfl rfl (by omega)) trivial ?_
      refine Wh_take 10 rfl (by kernel_rfl) (by kernel_rfl) rfl (fun _ _ => opv_build (ps := [(0, .int _ _)]) (cs := [_, _, _]) flat75 rfl rfl) trivial ?_; refine Wh_all (rs := [11]) (by kernel_rfl) rfl ?_; refine WhAll_cons rfl ?_ ?_
      refine Wo_allocN rfl flat75 ?_; rintro b4 w7 hb4 E7 hB4; have hlb4 := hB4.lt; have hr2 := hr2.ext E7; have hG := grownBy_ext hG E7; have hs7 := E7.size; refine Wo_nil ?_; refine ⟨trivial, ?_⟩
      refine Wh_all (rs := [12]) (by kernel_rfl) rfl ?_; refine WhAll_cons rfl ?_ ?_
      refine Wo_st3 rfl Tryz.sizeOf75 rfl rfl (by first | rfl | assumption) (by first | rfl | assumption) (by first | rfl | assumption) hB4 (by omega) (Ehr2.trans E7) ?_; rintro w8 E8 hB4 K2 hz2
      have E9 := E7.wroteAt (Ehr2.trans E7) E8 K2 hz2 (by omega); have szE9 := E9.size; have hO := (hO.ext E7).wrote K2 (by omega); have hB1 := (hB1.ext E7).of_heap (K2 _ (by omega)); have hB2 := (hB2.ext E7).of_heap (K2 _ (by omega))
      have hB3 := (hB3.ext E7).of_heap (K2 _ (by omega)); have hr2 := hr2.wrote E8 (K2 _ (by omega)) hz2; have hG := grownBy_wrote hG (Ehr2.trans E7) E8 K2 hz2 (by first | exact .inr rfl | omega); refine Wo_nil ?_; refine ⟨trivial, ?_⟩
      refine Wh_done (by kernel_rfl) ?_; rotate_left; exact WhAll_nil; exact WhAll_nil; refine WhAll_cons rfl ?_ ?_; refine Wo_allocN rfl flat75 ?_; rintro b4 w7 hb4 E7 hB4; have hlb4 := hB4.lt; have hr2 := hr2.ext E7
      have hG := grownBy_ext hG E7; have hs7 := E7.size; refine Wo_nil ?_; refine ⟨trivial, ?_⟩; refine Wh_all (rs := [4]) (by kernel_rfl) rfl ?_; refine WhAll_cons rfl ?_ ?_
      refine Wo_tblI Tryz.isAgg3 rfl rfl (hB3.ext E7) (by repeat (first | exact trivial | refine And.intro ⟨_, rfl, by decide⟩ ?_)) (by simp only [List.length_cons, List.length_nil]; omega) ?_; intro z1 hz1; refine Wo_nil ?_
      refine ⟨trivial, ?_⟩; refine Wh_take 9 rfl (by kernel_rfl) (by kernel_rfl) rfl (fun _ _ => opv_add rfl rfl (by omega)) trivial ?_
      refine Wh_take 10 rfl (by kernel_rfl) (by kernel_rfl) rfl (fun _ _ => opv_build (ps := [(0, .int _ _)]) (cs := [_, _, _]) flat75 rfl rfl) trivial ?_; refine Wh_all (rs := [12]) (by kernel_rfl) rfl ?_; refine WhAll_cons rfl ?_ ?_
      refine Wo_st3 rfl Tryz.sizeOf75 rfl rfl (by first | rfl | assumption) (by first | rfl | assumption) (by first | rfl | assumption) hB4 (by omega) (Ehr2.trans E7) ?_; rintro w8 E8 hB4 K2 hz2
      have E9 := E7.wroteAt (Ehr2.trans E7) E8 K2 hz2 (by omega); have szE9 := E9.size; have hO := (hO.ext E7).wrote K2 (by omega); have hB1 := (hB1.ext E7).of_heap (K2 _ (by omega)); have hB2 := (hB2.ext E7).of_heap (K2 _ (by omega))
      have hB3 := (hB3.ext E7).of_heap (K2 _ (by omega)); have hr2 := hr2.wrote E8 (K2 _ (by omega)) hz2; have hG := grownBy_wrote hG (Ehr2.trans E7) E8 K2 hz2 (by first | exact .inr rfl | omega); refine Wo_nil ?_; refine ⟨trivial, ?_⟩
      refine Wh_done (by kernel_rfl) ?_; rotate_left; exact WhAll_nil; exact WhAll_nil; exact WhAll_nil; refine WhAll_cons rfl ?_ ?_; refine Wo_allocN rfl flat75 ?_; rintro b4 w6 hb4 E6 hB4; have hlb4 := hB4.lt; have hr1 := hr1.ext E6
      have hG := grownBy_ext hG E6; have hs6 := E6.size; refine Wo_nil ?_; refine ⟨trivial, ?_⟩; refine Wh_all (rs := [4, 6]) (by kernel_rfl) rfl ?_; refine WhAll_cons rfl ?_ ?_
      refine Wo_tblI Tryz.isAgg3 rfl rfl (hB3.ext E6) (by repeat (first | exact trivial | refine And.intro ⟨_, rfl, by decide⟩ ?_)) (by simp only [List.length_cons, List.length_nil]; omega) ?_; intro z1 hz1; refine Wo_nil ?_
      refine ⟨trivial, ?_⟩; refine Wh_all (rs := [6]) (by kernel_rfl) rfl ?_; refine WhAll_cons rfl ?_ ?_; refine Wo_call rfl (opc2 (a := .pointer _) (b := .int _ _) Tryz.call46 rfl rfl) (pick_ok _ _ (by assumption) (by omega)) ?_
      rintro _ w7 ⟨y2, rfl, E7, hr2, hy2⟩; (try dsimp only at hy2); have hlhr2 := hr2.lt; have Ehr2 := hr2.old; have hO := (hO.ext E6).grown E7 (by omega); have hB1 := (hB1.ext E6).grown E7 (by simp only [ne_eq, Option.some.injEq]; omega)
      have hB2 := (hB2.ext E6).grown E7 (by simp only [ne_eq, Option.some.injEq]; omega); have hB3 := (hB3.ext E6).grown E7 (by simp only [ne_eq, Option.some.injEq]; omega)
      have hB4 := hB4.grown E7 (by simp only [ne_eq, Option.some.injEq]; omega); have hG := grownBy_trans hG E7; have hs7 := E7.size; refine Wo_nil ?_; refine ⟨trivial, ?_⟩
      refine Wh_take 7 rfl (by kernel_rfl) (by kernel_rfl) rfl (fun _ _ => opv_quo rfl rfl (by omega)) trivial ?_; refine Wh_take 8 rfl (by kernel_rfl) (by kernel_rfl) rfl (fun _ _ => opv_mul rfl rfl (by omega)) trivial ?_
      refine Wh_take 9 rfl (by kernel_rfl) (by kernel_rfl) rfl (fun _ _ => opv_add rfl rfl (by omega)) trivial ?_
      refine Wh_take 10 rfl (by kernel_rfl) (by kernel_rfl) rfl (fun _ _ => opv_build (ps := [(0, .int _ _)]) (cs := [_, _, _]) flat75 rfl rfl) trivial ?_; refine Wh_all (rs := [12]) (by kernel_rfl) rfl ?_; refine WhAll_cons rfl ?_ ?_
      refine Wo_st3 rfl Tryz.sizeOf75 rfl rfl (by first | rfl | assumption) (by first | rfl | assumption) (by first | rfl | assumption) hB4 (by omega) Ehr2 ?_; rintro w8 E8 hB4 K2 hz2; have hr2 := hr2.wrote E8 (K2 _ (by omega)) hz2
      have hO := hO.wrote K2 (by omega); have hB1 := hB1.of_heap (K2 _ (by omega)); have hB2 := hB2.of_heap (K2 _ (by omega)); have hB3 := hB3.of_heap (K2 _ (by omega))
      have hG := grownBy_wrote hG Ehr2 E8 K2 hz2 (by first | exact .inr rfl | omega); refine Wo_nil ?_; refine ⟨trivial, ?_⟩; refine Wh_done (by kernel_rfl) ?_; rotate_left; exact WhAll_nil; exact WhAll_nil; refine WhAll_cons rfl ?_ ?_
      refine Wo_call rfl (opc2 (a := .pointer _) (b := .int _ _) Tryz.call46 rfl rfl) (pick_ok _ _ (by assumption) (by omega)) ?_; rintro _ w7 ⟨y2, rfl, E7, hr2, hy2⟩; (try dsimp only at hy2); have hlhr2 := hr2.lt; have Ehr2 := hr2.old
      have hO := (hO.ext E6).grown E7 (by omega); have hB1 := (hB1.ext E6).grown E7 (by simp only [ne_eq, Option.some.injEq]; omega); have hB2 := (hB2.ext E6).grown E7 (by simp only [ne_eq, Option.some.injEq]; omega)
      have hB3 := (hB3.ext E6).grown E7 (by simp only [ne_eq, Option.some.injEq]; omega); have hB4 := hB4.grown E7 (by simp only [ne_eq, Option.some.injEq]; omega); have hG := grownBy_trans hG E7; have hs7 := E7.size; refine Wo_nil ?_
      refine ⟨trivial, ?_⟩; refine Wh_take 7 rfl (by kernel_rfl) (by kernel_rfl) rfl (fun _ _ => opv_quo rfl rfl (by omega)) trivial ?_
      refine Wh_take 8 rfl (by kernel_rfl) (by kernel_rfl) rfl (fun _ _ => opv_mul rfl rfl (by omega)) trivial ?_; refine Wh_all (rs := [4]) (by kernel_rfl) rfl ?_; refine WhAll_cons rfl ?_ ?_
      refine Wo_tblI Tryz.isAgg3 rfl rfl hB3 (by repeat (first | exact trivial | refine And.intro ⟨_, rfl, by decide⟩ ?_)) (by simp only [List.length_cons, List.length_nil]; omega) ?_; intro z1 hz1; refine Wo_nil ?_; refine ⟨trivial, ?_⟩
      refine Wh_take 9 rfl (by kernel_rfl) (by kernel_rfl) rfl (fun _ _ => opv_add rfl rfl (by omega)) trivial ?_
      refine Wh_take 10 rfl (by kernel_rfl) (by kernel_rfl) rfl (fun _ _ => opv_build (ps := [(0, .int _ _)]) (cs := [_, _, _]) flat75 rfl rfl) trivial ?_; refine Wh_all (rs := [12]) (by kernel_rfl) rfl ?_; refine WhAll_cons rfl ?_ ?_
      refine Wo_st3 rfl Tryz.sizeOf75 rfl rfl (by first | rfl | assumption) (by first | rfl | assumption) (by first | rfl | assumption) hB4 (by omega) Ehr2 ?_; rintro w8 E8 hB4 K2 hz2; have hr2 := hr2.wrote E8 (K2 _ (by omega)) hz2
      have hO := hO.wrote K2 (by omega); have hB1 := hB1.of_heap (K2 _ (by omega)); have hB2 := hB2.of_heap (K2 _ (by omega)); have hB3 := hB3.of_heap (K2 _ (by omega))
      have hG := grownBy_wrote hG Ehr2 E8 K2 hz2 (by first | exact .inr rfl | omega); refine Wo_nil ?_; refine ⟨trivial, ?_⟩; refine Wh_done (by kernel_rfl) ?_; rotate_left; exact WhAll_nil; exact WhAll_nil; exact WhAll_nil
      exact WhAll_nil; refine WhAll_cons rfl ?_ ?_; refine Wo_allocN rfl flat75 ?_; rintro b4 w5 hb4 E5 hB4; have hlb4 := hB4.lt; have hr := hr.ext E5; have hG := grownBy_ext hG E5; have hs5 := E5.size; refine Wo_nil ?_
      refine ⟨trivial, ?_⟩; refine Wh_all (rs := [2]) (by kernel_rfl) rfl ?_; refine WhAll_cons rfl ?_ ?_; refine Wo_call rfl (opc2 (a := .pointer _) (b := .int _ _) Tryz.call46 rfl rfl) (pick_ok _ _ (by assumption) (by omega)) ?_
      rintro _ w6 ⟨y1, rfl, E6, hr1, hy1⟩; (try dsimp only at hy1); have hlhr1 := hr1.lt; have Ehr1 := hr1.old; have hO := (hO.ext ((((E1.trans E2).trans E3).trans E4).trans E5)).grown E6 (by omega)
      have hB1 := (hB1.ext (((E2.trans E3).trans E4).trans E5)).grown E6 (by simp only [ne_eq, Option.some.injEq]; omega); have hB2 := (hB2.ext ((E3.trans E4).trans E5)).grown E6 (by simp only [ne_eq, Option.some.injEq]; omega)
      have hB3 := (hB3.ext E5).grown E6 (by simp only [ne_eq, Option.some.injEq]; omega); have hB4 := hB4.grown E6 (by simp only [ne_eq, Option.some.injEq]; omega); have hG := grownBy_trans hG E6; have hs6 := E6.size; refine Wo_nil ?_
      refine ⟨trivial, ?_⟩; refine Wh_take 3 rfl (by kernel_rfl) (by kernel_rfl) rfl (fun _ _ => opv_indexAddr Tryz.underlying58 Tryz.sizeOf3 rfl rfl (by omega)) trivial ?_; refine Wh_all (rs := [4, 6]) (by kernel_rfl) rfl ?_
      refine WhAll_cons rfl ?_ ?_; refine Wo_tblI Tryz.isAgg3 rfl rfl hB3 (by repeat (first | exact trivial | refine And.intro ⟨_, rfl, by decide⟩ ?_)) (by simp only [List.length_cons, List.length_nil]; omega) ?_; intro z1 hz1
      refine Wo_nil ?_; refine ⟨trivial, ?_⟩; refine Wh_all (rs := [6]) (by kernel_rfl) rfl ?_; refine WhAll_cons rfl ?_ ?_
      refine Wo_call rfl (opc2 (a := .pointer _) (b := .int _ _) Tryz.call46 rfl rfl) (pick_ok _ _ (by assumption) (by omega)) ?_; rintro _ w7 ⟨y2, rfl, E7, hr2, hy2⟩; (try dsimp only at hy2); have hlhr2 := hr2.lt; have Ehr2 := hr2.old
      have hO := hO.grown E7 (by omega); have hB1 := hB1.grown E7 (by simp only [ne_eq, Option.some.injEq]; omega); have hB2 := hB2.grown E7 (by simp only [ne_eq, Option.some.injEq]; omega)
      have hB3 := hB3.grown E7 (by simp only [ne_eq, Option.some.injEq]; omega); have hB4 := hB4.grown E7 (by simp only [ne_eq, Option.some.injEq]; omega); have hG := grownBy_trans hG E7; have hs7 := E7.size; refine Wo_nil ?_
      refine ⟨trivial, ?_⟩; refine Wh_take 7 rfl (by kernel_rfl) (by kernel_rfl) rfl (fun _ _ => opv_quo rfl rfl (by omega)) trivial ?_
      refine Wh_take 8 rfl (by kernel_rfl) (by kernel_rfl) rfl (fun _ _ => opv_mul rfl rfl (by omega)) trivial ?_; refine Wh_take 9 rfl (by kernel_rfl) (by kernel_rfl) rfl (fun _ _ => opv_add rfl rfl (by omega)) trivial ?_
      refine Wh_take 10 rfl (by kernel_rfl) (by kernel_rfl) rfl (fun _ _ => opv_build (ps := [(0, .int _ _)]) (cs := [_, _, _]) flat75 rfl rfl) trivial ?_; refine Wh_all (rs := [12]) (by kernel_rfl) rfl ?_; refine WhAll_cons rfl ?_ ?_
      refine Wo_st3 rfl Tryz.sizeOf75 rfl rfl (by first | rfl | assumption) (by first | rfl | assumption) (by first | rfl | assumption) hB4 (by omega) Ehr2 ?_; rintro w8 E8 hB4 K2 hz2; have hr2 := hr2.wrote E8 (K2 _ (by omega)) hz2
      have hO := hO.wrote K2 (by omega); have hB1 := hB1.of_heap (K2 _ (by omega)); have hB2 := hB2.of_heap (K2 _ (by omega)); have hB3 := hB3.of_heap (K2 _ (by omega))
      have hG := grownBy_wrote hG Ehr2 E8 K2 hz2 (by first | exact .inr rfl | omega); refine Wo_nil ?_; refine ⟨trivial, ?_⟩; refine Wh_done (by kernel_rfl) ?_; rotate_left; exact WhAll_nil; exact WhAll_nil; refine WhAll_cons rfl ?_ ?_
      refine Wo_call rfl (opc2 (a := .pointer _) (b := .int _ _) Tryz.call46 rfl rfl) (pick_ok _ _ (by assumption) (by omega)) ?_; rintro _ w7 ⟨y2, rfl, E7, hr2, hy2⟩; (try dsimp only at hy2); have hlhr2 := hr2.lt; have Ehr2 := hr2.old
      have hO := hO.grown E7 (by omega); have hB1 := hB1.grown E7 (by simp only [ne_eq, Option.some.injEq]; omega); have hB2 := hB2.grown E7 (by simp only [ne_eq, Option.some.injEq]; omega)
      have hB3 := hB3.grown E7 (by simp only [ne_eq, Option.some.injEq]; omega); have hB4 := hB4.grown E7 (by simp only [ne_eq, Option.some.injEq]; omega); have hG := grownBy_trans hG E7; have hs7 := E7.size; refine Wo_nil ?_
      refine ⟨trivial, ?_⟩; refine Wh_take 7 rfl (by kernel_rfl) (by kernel_rfl) rfl (fun _ _ => opv_quo rfl rfl (by omega)) trivial ?_
      refine Wh_take 8 rfl (by kernel_rfl) (by kernel_rfl) rfl (fun _ _ => opv_mul rfl rfl (by omega)) trivial ?_; refine Wh_all (rs := [4]) (by kernel_rfl) rfl ?_; refine WhAll_cons rfl ?_ ?_
      refine Wo_tblI Tryz.isAgg3 rfl rfl hB3 (by repeat (first | exact trivial | refine And.intro ⟨_, rfl, by decide⟩ ?_)) (by simp only [List.length_cons, List.length_nil]; omega) ?_; intro z1 hz1; refine Wo_nil ?_; refine ⟨trivial, ?_⟩
      refine Wh_take 9 rfl (by kernel_rfl) (by kernel_rfl) rfl (fun _ _ => opv_add rfl rfl (by omega)) trivial ?_
      refine Wh_take 10 rfl (by kernel_rfl) (by kernel_rfl) rfl (fun _ _ => opv_build (ps := [(0, .int _ _)]) (cs := [_, _, _]) flat75 rfl rfl) trivial ?_; refine Wh_all (rs := [12]) (by kernel_rfl) rfl ?_; refine WhAll_cons rfl ?_ ?_
      refine Wo_st3 rfl Tryz.sizeOf75 rfl rfl (by first | rfl | assumption) (by first | rfl | assumption) (by first | rfl | assumption) hB4 (by omega) Ehr2 ?_; rintro w8 E8 hB4 K2 hz2; have hr2 := hr2.wrote E8 (K2 _ (by omega)) hz2
      have hO := hO.wrote K2 (by omega); have hB1 := hB1.of_heap (K2 _ (by omega)); have hB2 := hB2.of_heap (K2 _ (by omega)); have hB3 := hB3.of_heap (K2 _ (by omega))
      have hG := grownBy_wrote hG Ehr2 E8 K2 hz2 (by first | exact .inr rfl | omega); refine Wo_nil ?_; refine ⟨trivial, ?_⟩; refine Wh_done (by kernel_rfl) ?_; rotate_left; exact WhAll_nil; exact WhAll_nil; exact WhAll_nil
      exact WhAll_nil; exact WhAll_nil; refine WhAll_cons rfl ?_ ?_; refine Wo_call rfl (opc2 (a := .pointer _) (b := .int _ _) Tryz.call46 rfl rfl) (pick_ok _ _ (by assumption) (by omega)) ?_; rintro _ w4 ⟨y1, rfl, E4, hr1, hy1⟩
      (try dsimp only at hy1); have hlhr1 := hr1.lt; have Ehr1 := hr1.old; have hO := (hO.ext ((E1.trans E2).trans E3)).grown E4 (by omega); have hB1 := (hB1.ext (E2.trans E3)).grown E4 (by simp only [ne_eq, Option.some.injEq]; omega)
      have hB2 := (hB2.ext E3).grown E4 (by simp only [ne_eq, Option.some.injEq]; omega); have hG := grownBy_trans hG E4; have hs4 := E4.size; refine Wo_nil ?_; refine ⟨trivial, ?_⟩; refine Wh_all (rs := [0, 6, 11]) (by kernel_rfl) rfl ?_
      refine WhAll_cons rfl ?_ ?_
      refine Wo_buildSliceH (ps := [(0, .int _ _), (1, .int _ _), (2, .int _ _), (3, .int _ _), (4, .int _ _), (5, .int _ _), (6, .int _ _), (7, .int _ _)]) (cs := [_, _, _, _, _, _, _, _]) rfl Tryz.underlying58 Tryz.sizeOf3 Tryz.zeroValue3 rfl rfl rfl rfl ?_
      rintro b3 w5 hb3 E5 hB3 hHb3; have hlb3 := hB3.lt; have hr1 := hr1.ext E5; have hG := grownBy_ext hG E5; have hs5 := E5.size; refine Wo_nil ?_; refine ⟨trivial, ?_⟩
      refine Wh_take 3 rfl (by kernel_rfl) (by kernel_rfl) rfl (fun _ _ => opv_indexAddr Tryz.underlying58 Tryz.sizeOf3 rfl rfl (by omega)) trivial ?_; refine Wh_all (rs := [4, 6, 11]) (by kernel_rfl) rfl ?_; refine WhAll_cons rfl ?_ ?_
      refine Wo_tblI Tryz.isAgg3 rfl rfl hB3 (by repeat (first | exact trivial | refine And.intro ⟨_, rfl, by decide⟩ ?_)) (by simp only [List.length_cons, List.length_nil]; omega) ?_; intro z1 hz1; refine Wo_nil ?_; refine ⟨trivial, ?_⟩
      refine Wh_all (rs := [6, 11]) (by kernel_rfl) rfl ?_; refine WhAll_cons rfl ?_ ?_; refine Wo_call rfl (opc2 (a := .pointer _) (b := .int _ _) Tryz.call46 rfl rfl) (pick_ok _ _ (by assumption) (by omega)) ?_
      rintro _ w6 ⟨y2, rfl, E6, hr2, hy2⟩; (try dsimp only at hy2); have hlhr2 := hr2.lt; have Ehr2 := hr2.old; have hO := (hO.ext E5).grown E6 (by omega); have hB1 := (hB1.ext E5).grown E6 (by simp only [ne_eq, Option.some.injEq]; omega)
      have hB2 := (hB2.ext E5).grown E6 (by simp only [ne_eq, Option.some.injEq]; omega); have hB3 := hB3.grown E6 (by simp only [ne_eq, Option.some.injEq]; omega); have hG := grownBy_trans hG E6; have hs6 := E6.size; refine Wo_nil ?_
      refine ⟨trivial, ?_⟩; refine Wh_take 7 rfl (by kernel_rfl) (by kernel_rfl) rfl (fun _ _ => opv_quo rfl rfl (by omega)) trivial ?_
      refine Wh_take 8 rfl (by kernel_rfl) (by kernel_rfl) rfl (fun _ _ => opv_mul rfl rfl (by omega)) trivial ?_; refine Wh_take 9 rfl (by kernel_rfl) (by kernel_rfl) rfl (fun _ _ => opv_add rfl rfl (by omega)) trivial ?_
      refine Wh_take 10 rfl (by kernel_rfl) (by kernel_rfl) rfl (fun _ _ => opv_build (ps := [(0, .int _ _)]) (cs := [_, _, _]) flat75 rfl rfl) trivial ?_; refine Wh_all (rs := [11]) (by kernel_rfl) rfl ?_; refine WhAll_cons rfl ?_ ?_
      refine Wo_allocN rfl flat75 ?_; rintro b4 w7 hb4 E7 hB4; have hlb4 := hB4.lt; have hr2 := hr2.ext E7; have hG := grownBy_ext hG E7; have hs7 := E7.size; refine Wo_nil ?_; refine ⟨trivial, ?_⟩
      refine Wh_all (rs := [12]) (by kernel_rfl) rfl ?_; refine WhAll_cons rfl ?_ ?_
      refine Wo_st3 rfl Tryz.sizeOf75 rfl rfl (by first | rfl | assumption) (by first | rfl | assumption) (by first | rfl | assumption) hB4 (by omega) (Ehr2.trans E7) ?_; rintro w8 E8 hB4 K2 hz2
      have E9 := E7.wroteAt (Ehr2.trans E7) E8 K2 hz2 (by omega); have szE9 := E9.size; have hO := (hO.ext E7).wrote K2 (by omega); have hB1 := (hB1.ext E7).of_heap (K2 _ (by omega)); have hB2 := (hB2.ext E7).of_heap (K2 _ (by omega))
      have hB3 := (hB3.ext E7).of_heap (K2 _ (by omega)); have hr2 := hr2.wrote E8 (K2 _ (by omega)) hz2; have hG := grownBy_wrote hG (Ehr2.trans E7) E8 K2 hz2 (by first | exact .inr rfl | omega); refine Wo_nil ?_; refine ⟨trivial, ?_⟩
      refine Wh_done (by kernel_rfl) ?_; rotate_left; exact WhAll_nil; exact WhAll_nil; refine WhAll_cons rfl ?_ ?_; refine Wo_allocN rfl flat75 ?_; rintro b4 w6 hb4 E6 hB4; have hlb4 := hB4.lt; have hr1 := hr1.ext E6
      have hG := grownBy_ext hG E6; have hs6 := E6.size; refine Wo_nil ?_; refine ⟨trivial, ?_⟩; refine Wh_all (rs := [6]) (by kernel_rfl) rfl ?_; refine WhAll_cons rfl ?_ ?_
      refine Wo_call rfl (opc2 (a := .pointer _) (b := .int _ _) Tryz.call46 rfl rfl) (pick_ok _ _ (by assumption) (by omega)) ?_; rintro _ w7 ⟨y2, rfl, E7, hr2, hy2⟩; (try dsimp only at hy2); have hlhr2 := hr2.lt; have Ehr2 := hr2.old
      have hO := (hO.ext (E5.trans E6)).grown E7 (by omega); have hB1 := (hB1.ext (E5.trans E6)).grown E7 (by simp only [ne_eq, Option.some.injEq]; omega)
      have hB2 := (hB2.ext (E5.trans E6)).grown E7 (by simp only [ne_eq, Option.some.injEq]; omega); have hB3 := (hB3.ext E6).grown E7 (by simp only [ne_eq, Option.some.injEq]; omega)
      have hB4 := hB4.grown E7 (by simp only [ne_eq, Option.some.injEq]; omega); have hG := grownBy_trans hG E7; have hs7 := E7.size; refine Wo_nil ?_; refine ⟨trivial, ?_⟩
      refine Wh_take 7 rfl (by kernel_rfl) (by kernel_rfl) rfl (fun _ _ => opv_quo rfl rfl (by omega)) trivial ?_; refine Wh_take 8 rfl (by kernel_rfl) (by kernel_rfl) rfl (fun _ _ => opv_mul rfl rfl (by omega)) trivial ?_
      refine Wh_take 9 rfl (by kernel_rfl) (by kernel_rfl) rfl (fun _ _ => opv_add rfl rfl (by omega)) trivial ?_
      refine Wh_take 10 rfl (by kernel_rfl) (by kernel_rfl) rfl (fun _ _ => opv_build (ps := [(0, .int _ _)]) (cs := [_, _, _]) flat75 rfl rfl) trivial ?_; refine Wh_all (rs := [12]) (by kernel_rfl) rfl ?_; refine WhAll_cons rfl ?_ ?_
      refine Wo_st3 rfl Tryz.sizeOf75 rfl rfl (by first | rfl | assumption) (by first | rfl | assumption) (by first | rfl | assumption) hB4 (by omega) Ehr2 ?_; rintro w8 E8 hB4 K2 hz2; have hr2 := hr2.wrote E8 (K2 _ (by omega)) hz2
      have hO := hO.wrote K2 (by omega); have hB1 := hB1.of_heap (K2 _ (by omega)); have hB2 := hB2.of_heap (K2 _ (by omega)); have hB3 := hB3.of_heap (K2 _ (by omega))
      have hG := grownBy_wrote hG Ehr2 E8 K2 hz2 (by first | exact .inr rfl | omega); refine Wo_nil ?_; refine ⟨trivial, ?_⟩; refine Wh_done (by kernel_rfl) ?_; rotate_left; exact WhAll_nil; exact WhAll_nil; exact WhAll_nil
      refine WhAll_cons rfl ?_ ?_; refine Wo_call rfl (opc2 (a := .pointer _) (b := .int _ _) Tryz.call46 rfl rfl) (pick_ok _ _ (by assumption) (by omega)) ?_; rintro _ w6 ⟨y2, rfl, E6, hr2, hy2⟩; (try dsimp only at hy2)
      have hlhr2 := hr2.lt; have Ehr2 := hr2.old; have hO := (hO.ext E5).grown E6 (by omega); have hB1 := (hB1.ext E5).grown E6 (by simp only [ne_eq, Option.some.injEq]; omega)
      have hB2 := (hB2.ext E5).grown E6 (by simp only [ne_eq, Option.some.injEq]; omega); have hB3 := hB3.grown E6 (by simp only [ne_eq, Option.some.injEq]; omega); have hG := grownBy_trans hG E6; have hs6 := E6.size; refine Wo_nil ?_
      refine ⟨trivial, ?_⟩; refine Wh_take 7 rfl (by kernel_rfl) (by kernel_rfl) rfl (fun _ _ => opv_quo rfl rfl (by omega)) trivial ?_
      refine Wh_take 8 rfl (by kernel_rfl) (by kernel_rfl) rfl (fun _ _ => opv_mul rfl rfl (by omega)) trivial ?_; refine Wh_all (rs := [4, 11]) (by kernel_rfl) rfl ?_; refine WhAll_cons rfl ?_ ?_
      refine Wo_tblI Tryz.isAgg3 rfl rfl hB3 (by repeat (first | exact trivial | refine And.intro ⟨_, rfl, by decide⟩ ?_)) (by simp only [List.length_cons, List.length_nil]; omega) ?_; intro z1 hz1; refine Wo_nil ?_; refine ⟨trivial, ?_⟩
      refine Wh_take 9 rfl (by kernel_rfl) (by kernel_rfl) rfl (fun _ _ => opv_add rfl rfl (by omega)) trivial ?_
      refine Wh_take 10 rfl (by kernel_rfl) (by kernel_rfl) rfl (fun _ _ => opv_build (ps := [(0, .int _ _)]) (cs := [_, _, _]) flat75 rfl rfl) trivial ?_; refine Wh_all (rs := [11]) (by kernel_rfl) rfl ?_; refine WhAll_cons rfl ?_ ?_
      refine Wo_allocN rfl flat75 ?_; rintro b4 w7 hb4 E7 hB4; have hlb4 := hB4.lt; have hr2 := hr2.ext E7; have hG := grownBy_ext hG E7; have hs7 := E7.size; refine Wo_nil ?_; refine ⟨trivial, ?_⟩
      refine Wh_all (rs := [12]) (by kernel_rfl) rfl ?_; refine WhAll_cons rfl ?_ ?_
      refine Wo_st3 rfl Tryz.sizeOf75 rfl rfl (by first | rfl | assumption) (by first | rfl | assumption) (by first | rfl | assumption) hB4 (by omega) (Ehr2.trans E7) ?_; rintro w8 E8 hB4 K2 hz2
      have E9 := E7.wroteAt (Ehr2.trans E7) E8 K2 hz2 (by omega); have szE9 := E9.size; have hO := (hO.ext E7).wrote K2 (by omega); have hB1 := (hB1.ext E7).of_heap (K2 _ (by omega)); have hB2 := (hB2.ext E7).of_heap (K2 _ (by omega))
      have hB3 := (hB3.ext E7).of_heap (K2 _ (by omega)); have hr2 := hr2.wrote E8 (K2 _ (by omega)) hz2; have hG := grownBy_wrote hG (Ehr2.trans E7) E8 K2 hz2 (by first | exact .inr rfl | omega); refine Wo_nil ?_; refine ⟨trivial, ?_⟩
      refine Wh_done (by kernel_rfl) ?_; rotate_left; exact WhAll_nil; exact WhAll_nil; refine WhAll_cons rfl ?_ ?_; refine Wo_allocN rfl flat75 ?_; rintro b4 w7 hb4 E7 hB4; have hlb4 := hB4.lt; have hr2 := hr2.ext E7
      have hG := grownBy_ext hG E7; have hs7 := E7.size; refine Wo_nil ?_; refine ⟨trivial, ?_⟩; refine Wh_all (rs := [4]) (by kernel_rfl) rfl ?_; refine WhAll_cons rfl ?_ ?_
      refine Wo_tblI Tryz.isAgg3 rfl rfl (hB3.ext E7) (by repeat (first | exact trivial | refine And.intro ⟨_, rfl, by decide⟩ ?_)) (by simp only [List.length_cons, List.length_nil]; omega) ?_; intro z1 hz1; refine Wo_nil ?_
      refine ⟨trivial, ?_⟩; refine Wh_take 9 rfl (by kernel_rfl) (by kernel_rfl) rfl (fun _ _ => opv_add rfl rfl (by omega)) trivial ?_
      refine Wh_take 10 rfl (by kernel_rfl) (by kernel_rfl) rfl (fun _ _ => opv_build (ps := [(0, .int _ _)]) (cs := [_, _, _]) flat75 rfl rfl) trivial ?_; refine Wh_all (rs := [12]) (by kernel_rfl) rfl ?_; refine WhAll_cons rfl ?_ ?_
      refine Wo_st3 rfl Tryz.sizeOf75 rfl rfl (by first | rfl | assumption) (by first | rfl | assumption) (by first | rfl | assumption) hB4 (by omega) (Ehr2.trans E7) ?_; rintro w8 E8 hB4 K2 hz2
      have E9 := E7.wroteAt (Ehr2.trans E7) E8 K2 hz2 (by omega); have szE9 := E9.size; have hO := (hO.ext E7).wrote K2 (by omega); have hB1 := (hB1.ext E7).of_heap (K2 _ (by omega)); have hB2 := (hB2.ext E7).of_heap (K2 _ (by omega))
      have hB3 := (hB3.ext E7).of_heap (K2 _ (by omega)); have hr2 := hr2.wrote E8 (K2 _ (by omega)) hz2; have hG := grownBy_wrote hG (Ehr2.trans E7) E8 K2 hz2 (by first | exact .inr rfl | omega); refine Wo_nil ?_; refine ⟨trivial, ?_⟩
      refine Wh_done (by kernel_rfl) ?_; rotate_left; exact WhAll_nil; exact WhAll_nil; exact WhAll_nil; refine WhAll_cons rfl ?_ ?_; refine Wo_allocN rfl flat75 ?_; rintro b4 w6 hb4 E6 hB4; have hlb4 := hB4.lt; have hr1 := hr1.ext E6
      have hG := grownBy_ext hG E6; have hs6 := E6.size; refine Wo_nil ?_; refine ⟨trivial, ?_⟩; refine Wh_all (rs := [4, 6]) (by kernel_rfl) rfl ?_; refine WhAll_cons rfl ?_ ?_
      refine Wo_tblI Tryz.isAgg3 rfl rfl (hB3.ext E6) (by repeat (first | exact trivial | refine And.intro ⟨_, rfl, by decide⟩ ?_)) (by simp only [List.length_cons, List.length_nil]; omega) ?_; intro z1 hz1; refine Wo_nil ?_
      refine ⟨trivial, ?_⟩; refine Wh_all (rs := [6]) (by kernel_rfl) rfl ?_; refine WhAll_cons rfl ?_ ?_; refine Wo_call rfl (opc2 (a := .pointer _) (b := .int _ _) Tryz.call46 rfl rfl) (pick_ok _ _ (by assumption) (by omega)) ?_
      rintro _ w7 ⟨y2, rfl, E7, hr2, hy2⟩; (try dsimp only at hy2); have hlhr2 := hr2.lt; have Ehr2 := hr2.old; have hO := (hO.ext (E5.trans E6)).grown E7 (by omega)
      have hB1 := (hB1.ext (E5.trans E6)).grown E7 (by simp only [ne_eq, Option.some.injEq]; omega); have hB2 := (hB2.ext (E5.trans E6)).grown E7 (by simp only [ne_eq, Option.some.injEq]; omega)
      have hB3 := (hB3.ext E6).grown E7 (by simp only [ne_eq, Option.some.injEq]; omega); have hB4 := hB4.grown E7 (by simp only [ne_eq, Option.some.injEq]; omega); have hG := grownBy_trans hG E7; have hs7 := E7.size; refine Wo_nil ?_
      refine ⟨trivial, ?_⟩; refine Wh_take 7 rfl (by kernel_rfl) (by kernel_rfl) rfl (fun _ _ => opv_quo rfl rfl (by omega)) trivial ?_
      refine Wh_take 8 rfl (by kernel_rfl) (by kernel_rfl) rfl (fun _ _ => opv_mul rfl rfl (by omega)) trivial ?_; refine Wh_take 9 rfl (by kernel_rfl) (by kernel_rfl) rfl (fun _ _ => opv_add rfl rfl (by omega)) trivial ?_
      refine Wh_take 10 rfl (by kernel_rfl) (by kernel_rfl) rfl (fun _ _ => opv_build (ps := [(0, .int _ _)]) (cs := [_, _, _]) flat75 rfl rfl) trivial ?_; refine Wh_all (rs := [12]) (by kernel_rfl) rfl ?_; refine WhAll_cons rfl ?_ ?_
      refine Wo_st3 rfl Tryz.sizeOf75 rfl rfl (by first | rfl | assumption) (by first | rfl | assumption) (by first | rfl | assumption) hB4 (by omega) Ehr2 ?_; rintro w8 E8 hB4 K2 hz2; have hr2 := hr2.wrote E8 (K2 _ (by omega)) hz2
      have hO := hO.wrote K2 (by omega); have hB1 := hB1.of_heap (K2 _ (by omega)); have hB2 := hB2.of_heap (K2 _ (by omega)); have hB3 := hB3.of_heap (K2 _ (by omega))
      have hG := grownBy_wrote hG Ehr2 E8 K2 hz2 (by first | exact .inr rfl | omega); refine Wo_nil ?_; refine ⟨trivial, ?_⟩; refine Wh_done (by kernel_rfl) ?_; rotate_left; exact WhAll_nil; exact WhAll_nil; refine WhAll_cons rfl ?_ ?_
      refine Wo_call rfl (opc2 (a := .pointer _) (b := .int _ _) Tryz.call46 rfl rfl) (pick_ok _ _ (by assumption) (by omega)) ?_; rintro _ w7 ⟨y2, rfl, E7, hr2, hy2⟩; (try dsimp only at hy2); have hlhr2 := hr2.lt; have Ehr2 := hr2.old
      have hO := (hO.ext (E5.trans E6)).grown E7 (by omega); have hB1 := (hB1.ext (E5.trans E6)).grown E7 (by simp only [ne_eq, Option.some.injEq]; omega)
      have hB2 := (hB2.ext (E5.trans E6)).grown E7 (by simp only [ne_eq, Option.some.injEq]; omega); have hB3 := (hB3.ext E6).grown E7 (by simp only [ne_eq, Option.some.injEq]; omega)
      have hB4 := hB4.grown E7 (by simp only [ne_eq, Option.some.injEq]; omega); have hG := grownBy_trans hG E7; have hs7 := E7.size; refine Wo_nil ?_; refine ⟨trivial, ?_⟩
      refine Wh_take 7 rfl (by kernel_rfl) (by kernel_rfl) rfl (fun _ _ => opv_quo rfl rfl (by omega)) trivial ?_; refine Wh_take 8 rfl (by kernel_rfl) (by kernel_rfl) rfl (fun _ _ => opv_mul rfl rfl (by omega)) trivial ?_
      refine Wh_all (rs := [4]) (by kernel_rfl) rfl ?_; refine WhAll_cons rfl ?_ ?_
      refine Wo_tblI Tryz.isAgg3 rfl rfl hB3 (by repeat (first | exact trivial | refine And.intro ⟨_, rfl, by decide⟩ ?_)) (by simp only [List.length_cons, List.length_nil]; omega) ?_; intro z1 hz1; refine Wo_nil ?_; refine ⟨trivial, ?_⟩
      refine Wh_take 9 rfl (by kernel_rfl) (by kernel_rfl) rfl (fun _ _ => opv_add rfl rfl (by omega)) trivial ?_
      refine Wh_take 10 rfl (by kernel_rfl) (by kernel_rfl) rfl (fun _ _ => opv_build (ps := [(0, .int _ _)]) (cs := [_, _, _]) flat75 rfl rfl) trivial ?_; refine Wh_all (rs := [12]) (by kernel_rfl) rfl ?_; refine WhAll_cons rfl ?_ ?_
      refine Wo_st3 rfl Tryz.sizeOf75 rfl rfl (by first | rfl | assumption) (by first | rfl | assumption) (by first | rfl | assumption) hB4 (by omega) Ehr2 ?_; rintro w8 E8 hB4 K2 hz2; have hr2 := hr2.wrote E8 (K2 _ (by omega)) hz2
      have hO := hO.wrote K2 (by omega); have hB1 := hB1.of_heap (K2 _ (by omega)); have hB2 := hB2.of_heap (K2 _ (by omega)); have hB3 := hB3.of_heap (K2 _ (by omega))
      have hG := grownBy_wrote hG Ehr2 E8 K2 hz2 (by first | exact .inr rfl | omega); refine Wo_nil ?_; refine ⟨trivial, ?_⟩; refine Wh_done (by kernel_rfl) ?_; rotate_left; exact WhAll_nil; exact WhAll_nil; exact WhAll_nil
      exact WhAll_nil; refine WhAll_cons rfl ?_ ?_; refine Wo_call rfl (opc2 (a := .pointer _) (b := .int _ _) Tryz.call46 rfl rfl) (pick_ok _ _ (by assumption) (by omega)) ?_; rintro _ w5 ⟨y2, rfl, E5, hr2, hy2⟩; (try dsimp only at hy2)
      have hlhr2 := hr2.lt; have Ehr2 := hr2.old; have hO := hO.grown E5 (by omega); have hB1 := hB1.grown E5 (by simp only [ne_eq, Option.some.injEq]; omega); have hB2 := hB2.grown E5 (by simp only [ne_eq, Option.some.injEq]; omega)
      have hG := grownBy_trans hG E5; have hs5 := E5.size; refine Wo_nil ?_; refine ⟨trivial, ?_⟩; refine Wh_take 7 rfl (by kernel_rfl) (by kernel_rfl) rfl (fun _ _ => opv_quo rfl rfl (by omega)) trivial ?_
      refine Wh_take 8 rfl (by kernel_rfl) (by kernel_rfl) rfl (fun _ _ => opv_mul rfl rfl (by omega)) trivial ?_; refine Wh_all (rs := [0, 11]) (by kernel_rfl) rfl ?_; refine WhAll_cons rfl ?_ ?_
      refine Wo_buildSliceH (ps := [(0, .int _ _), (1, .int _ _), (2, .int _ _), (3, .int _ _), (4, .int _ _), (5, .int _ _), (6, .int _ _), (7, .int _ _)]) (cs := [_, _, _, _, _, _, _, _]) rfl Tryz.underlying58 Tryz.sizeOf3 Tryz.zeroValue3 rfl rfl rfl rfl ?_
      rintro b3 w6 hb3 E6 hB3 hHb3; have hlb3 := hB3.lt; have hr2 := hr2.ext E6; have hG := grownBy_ext hG E6; have hs6 := E6.size; refine Wo_nil ?_; refine ⟨trivial, ?_⟩
      refine Wh_take 3 rfl (by kernel_rfl) (by kernel_rfl) rfl (fun _ _ => opv_indexAddr Tryz.underlying58 Tryz.sizeOf3 rfl rfl (by omega)) trivial ?_; refine Wh_all (rs := [4, 11]) (by kernel_rfl) rfl ?_; refine WhAll_cons rfl ?_ ?_
      refine Wo_tblI Tryz.isAgg3 rfl rfl hB3 (by repeat (first | exact trivial | refine And.intro ⟨_, rfl, by decide⟩ ?_)) (by simp only [List.length_cons, List.length_nil]; omega) ?_; intro z1 hz1; refine Wo_nil ?_; refine ⟨trivial, ?_⟩
      refine Wh_take 9 rfl (by kernel_rfl) (by kernel_rfl) rfl (fun _ _ => opv_add rfl rfl (by omega)) trivial ?_
      refine Wh_take 10 rfl (by kernel_rfl) (by kernel_rfl) rfl (fun _ _ => opv_build (ps := [(0, .int _ _)]) (cs := [_, _, _]) flat75 rfl rfl) trivial ?_; refine Wh_all (rs := [11]) (by kernel_rfl) rfl ?_; refine WhAll_cons rfl ?_ ?_
      refine Wo_allocN rfl flat75 ?_; rintro b4 w7 hb4 E7 hB4; have hlb4 := hB4.lt; have hr2 := hr2.ext E7; have hG := grownBy_ext hG E7; have hs7 := E7.size; refine Wo_nil ?_; refine ⟨trivial, ?_⟩
      refine Wh_all (rs := [12]) (by kernel_rfl) rfl ?_; refine WhAll_cons rfl ?_ ?_
      refine Wo_st3 rfl Tryz.sizeOf75 rfl rfl (by first | rfl | assumption) (by first | rfl | assumption) (by first | rfl | assumption) hB4 (by omega) ((Ehr2.trans E6).trans E7) ?_; rintro w8 E8 hB4 K2 hz2
      have E9 := (E6.trans E7).wroteAt ((Ehr2.trans E6).trans E7) E8 K2 hz2 (by omega); have szE9 := E9.size; have E10 := E7.wroteAt ((Ehr2.trans E6).trans E7) E8 K2 hz2 (by omega); have szE10 := E10.size
      have hO := (hO.ext (E6.trans E7)).wrote K2 (by omega); have hB1 := (hB1.ext (E6.trans E7)).of_heap (K2 _ (by omega)); have hB2 := (hB2.ext (E6.trans E7)).of_heap (K2 _ (by omega)); have hB3 := (hB3.ext E7).of_heap (K2 _ (by omega))
      have hr2 := hr2.wrote E8 (K2 _ (by omega)) hz2; have hG := grownBy_wrote hG ((Ehr2.trans E6).trans E7) E8 K2 hz2 (by first | exact .inr rfl | omega); refine Wo_nil ?_; refine ⟨trivial, ?_⟩; refine Wh_done (by kernel_rfl) ?_
      rotate_left; exact WhAll_nil; exact WhAll_nil; refine WhAll_cons rfl ?_ ?_; refine Wo_allocN rfl flat75 ?_; rintro b4 w7 hb4 E7 hB4; have hlb4 := hB4.lt; have hr2 := hr2.ext E7; have hG := grownBy_ext hG E7; have hs7 := E7.size
      refine Wo_nil ?_; refine ⟨trivial, ?_⟩; refine Wh_all (rs := [4]) (by kernel_rfl) rfl ?_; refine WhAll_cons rfl ?_ ?_
      refine Wo_tblI Tryz.isAgg3 rfl rfl (hB3.ext E7) (by repeat (first | exact trivial | refine And.intro ⟨_, rfl, by decide⟩ ?_)) (by simp only [List.length_cons, List.length_nil]; omega) ?_; intro z1 hz1; refine Wo_nil ?_
      refine ⟨trivial, ?_⟩; refine Wh_take 9 rfl (by kernel_rfl) (by kernel_rfl) rfl (fun _ _ => opv_add rfl rfl (by omega)) trivial ?_
      refine Wh_take 10 rfl (by kernel_rfl) (by kernel_rfl) rfl (fun _ _ => opv_build (ps := [(0, .int _ _)]) (cs := [_, _, _]) flat75 rfl rfl) trivial ?_; refine Wh_all (rs := [12]) (by kernel_rfl) rfl ?_; refine WhAll_cons rfl ?_ ?_
      refine Wo_st3 rfl Tryz.sizeOf75 rfl rfl (by first | rfl | assumption) (by first | rfl | assumption) (by first | rfl | assumption) hB4 (by omega) ((Ehr2.trans E6).trans E7) ?_; rintro w8 E8 hB4 K2 hz2
      have E9 := (E6.trans E7).wroteAt ((Ehr2.trans E6).trans E7) E8 K2 hz2 (by omega); have szE9 := E9.size; have E10 := E7.wroteAt ((Ehr2.trans E6).trans E7) E8 K2 hz2 (by omega); have szE10 := E10.size
      have hO := (hO.ext (E6.trans E7)).wrote K2 (by omega); have hB1 := (hB1.ext (E6.trans E7)).of_heap (K2 _ (by omega)); have hB2 := (hB2.ext (E6.trans E7)).of_heap (K2 _ (by omega)); have hB3 := (hB3.ext E7).of_heap (K2 _ (by omega))
      have hr2 := hr2.wrote E8 (K2 _ (by omega)) hz2; have hG := grownBy_wrote hG ((Ehr2.trans E6).trans E7) E8 K2 hz2 (by first | exact .inr rfl | omega); refine Wo_nil ?_; refine ⟨trivial, ?_⟩; refine Wh_done (by kernel_rfl) ?_
      rotate_left; exact WhAll_nil; exact WhAll_nil; exact WhAll_nil; refine WhAll_cons rfl ?_ ?_; refine Wo_allocN rfl flat75 ?_; rintro b3 w6 hb3 E6 hB3; have hlb3 := hB3.lt; have hr2 := hr2.ext E6; have hG := grownBy_ext hG E6
      have hs6 := E6.size; refine Wo_nil ?_; refine ⟨trivial, ?_⟩; refine Wh_all (rs := [0]) (by kernel_rfl) rfl ?_; refine WhAll_cons rfl ?_ ?_
      refine Wo_buildSliceH (ps := [(0, .int _ _), (1, .int _ _), (2, .int _ _), (3, .int _ _), (4, .int _ _), (5, .int _ _), (6, .int _ _), (7, .int _ _)]) (cs := [_, _, _, _, _, _, _, _]) rfl Tryz.underlying58 Tryz.sizeOf3 Tryz.zeroValue3 rfl rfl rfl rfl ?_
      rintro b4 w7 hb4 E7 hB4 hHb4; have hlb4 := hB4.lt; have hr2 := hr2.ext E7; have hG := grownBy_ext hG E7; have hs7 := E7.size; refine Wo_nil ?_; refine ⟨trivial, ?_⟩
      refine Wh_take 3 rfl (by kernel_rfl) (by kernel_rfl) rfl (fun _ _ => opv_indexAddr Tryz.underlying58 Tryz.sizeOf3 rfl rfl (by omega)) trivial ?_; refine Wh_all (rs := [4]) (by kernel_rfl) rfl ?_; refine WhAll_cons rfl ?_ ?_
      refine Wo_tblI Tryz.isAgg3 rfl rfl hB4 (by repeat (first | exact trivial | refine And.intro ⟨_, rfl, by decide⟩ ?_)) (by simp only [List.length_cons, List.length_nil]; omega) ?_; intro z1 hz1; refine Wo_nil ?_; refine ⟨trivial, ?_⟩
      refine Wh_take 9 rfl (by kernel_rfl) (by kernel_rfl) rfl (fun _ _ => opv_add rfl rfl (by omega)) trivial ?_
      refine Wh_take 10 rfl (by kernel_rfl) (by kernel_rfl) rfl (fun _ _ => opv_build (ps := [(0, .int _ _)]) (cs := [_, _, _]) flat75 rfl rfl) trivial ?_; refine Wh_all (rs := [12]) (by kernel_rfl) rfl ?_; refine WhAll_cons rfl ?_ ?_
      refine Wo_st3 rfl Tryz.sizeOf75 rfl rfl (by first | rfl | assumption) (by first | rfl | assumption) (by first | rfl | assumption) (hB3.ext E7) (by omega) ((Ehr2.trans E6).trans E7) ?_; rintro w8 E8 hB3 K2 hz2
      have E9 := (E6.trans E7).wroteAt ((Ehr2.trans E6).trans E7) E8 K2 hz2 (by omega); have szE9 := E9.size; have hO := (hO.ext (E6.trans E7)).wrote K2 (by omega); have hB1 := (hB1.ext (E6.trans E7)).of_heap (K2 _ (by omega))
      have hB2 := (hB2.ext (E6.trans E7)).of_heap (K2 _ (by omega)); have hB4 := hB4.of_heap (K2 _ (by omega)); have hr2 := hr2.wrote E8 (K2 _ (by omega)) hz2
      have hG := grownBy_wrote hG ((Ehr2.trans E6).trans E7) E8 K2 hz2 (by first | exact .inr rfl | omega); refine Wo_nil ?_; refine ⟨trivial, ?_⟩; refine Wh_done (by kernel_rfl) ?_; rotate_left; exact WhAll_nil; exact WhAll_nil
      exact WhAll_nil; exact WhAll_nil; refine WhAll_cons rfl ?_ ?_; refine Wo_allocN rfl flat75 ?_; rintro b3 w5 hb3 E5 hB3; have hlb3 := hB3.lt; have hr1 := hr1.ext E5; have hG := grownBy_ext hG E5; have hs5 := E5.size; refine Wo_nil ?_
      refine ⟨trivial, ?_⟩; refine Wh_all (rs := [0, 6]) (by kernel_rfl) rfl ?_; refine WhAll_cons rfl ?_ ?_
      refine Wo_buildSliceH (ps := [(0, .int _ _), (1, .int _ _), (2, .int _ _), (3, .int _ _), (4, .int _ _), (5, .int _ _), (6, .int _ _), (7, .int _ _)]) (cs := [_, _, _, _, _, _, _, _]) rfl Tryz.underlying58 Tryz.sizeOf3 Tryz.zeroValue3 rfl rfl rfl rfl ?_
      rintro b4 w6 hb4 E6 hB4 hHb4; have hlb4 := hB4.lt; have hr1 := hr1.ext E6; have hG := grownBy_ext hG E6; have hs6 := E6.size; refine Wo_nil ?_; refine ⟨trivial, ?_⟩
      refine Wh_take 3 rfl (by kernel_rfl) (by kernel_rfl) rfl (fun _ _ => opv_indexAddr Tryz.underlying58 Tryz.sizeOf3 rfl rfl (by omega)) trivial ?_; refine Wh_all (rs := [4, 6]) (by kernel_rfl) rfl ?_; refine WhAll_cons rfl ?_ ?_
      refine Wo_tblI Tryz.isAgg3 rfl rfl hB4 (by repeat (first | exact trivial | refine And.intro ⟨_, rfl, by decide⟩ ?_)) (by simp only [List.length_cons, List.length_nil]; omega) ?_; intro z1 hz1; refine Wo_nil ?_; refine ⟨trivial, ?_⟩
      refine Wh_all (rs := [6]) (by kernel_rfl) rfl ?_; refine WhAll_cons rfl ?_ ?_; refine Wo_call rfl (opc2 (a := .pointer _) (b := .int _ _) Tryz.call46 rfl rfl) (pick_ok _ _ (by assumption) (by omega)) ?_
      rintro _ w7 ⟨y2, rfl, E7, hr2, hy2⟩; (try dsimp only at hy2); have hlhr2 := hr2.lt; have Ehr2 := hr2.old; have hO := (hO.ext (E5.trans E6)).grown E7 (by omega)
      have hB1 := (hB1.ext (E5.trans E6)).grown E7 (by simp only [ne_eq, Option.some.injEq]; omega); have hB2 := (hB2.ext (E5.trans E6)).grown E7 (by simp only [ne_eq, Option.some.injEq]; omega)
      have hB3 := (hB3.ext E6).grown E7 (by simp only [ne_eq, Option.some.injEq]; omega); have hB4 := hB4.grown E7 (by simp only [ne_eq, Option.some.injEq]; omega); have hG := grownBy_trans hG E7; have hs7 := E7.size; refine Wo_nil ?_
      refine ⟨trivial, ?_⟩; refine Wh_take 7 rfl (by kernel_rfl) (by kernel_rfl) rfl (fun _ _ => opv_quo rfl rfl (by omega)) trivial ?_
      refine Wh_take 8 rfl (by kernel_rfl) (by kernel_rfl) rfl (fun _ _ => opv_mul rfl rfl (by omega)) trivial ?_; refine Wh_take 9 rfl (by kernel_rfl) (by kernel_rfl) rfl (fun _ _ => opv_add rfl rfl (by omega)) trivial ?_
      refine Wh_take 10 rfl (by kernel_rfl) (by kernel_rfl) rfl (fun _ _ => opv_build (ps := [(0, .int _ _)]) (cs := [_, _, _]) flat75 rfl rfl) trivial ?_; refine Wh_all (rs := [12]) (by kernel_rfl) rfl ?_; refine WhAll_cons rfl ?_ ?_
      refine Wo_st3 rfl Tryz.sizeOf75 rfl rfl (by first | rfl | assumption) (by first | rfl | assumption) (by first | rfl | assumption) hB3 (by omega) Ehr2 ?_; rintro w8 E8 hB3 K2 hz2; have hr2 := hr2.wrote E8 (K2 _ (by omega)) hz2
      have hO := hO.wrote K2 (by omega); have hB1 := hB1.of_heap (K2 _ (by omega)); have hB2 := hB2.of_heap (K2 _ (by omega)); have hB4 := hB4.of_heap (K2 _ (by omega))
      have hG := grownBy_wrote hG Ehr2 E8 K2 hz2 (by first | exact .inr rfl | omega); refine Wo_nil ?_; refine ⟨trivial, ?_⟩; refine Wh_done (by kernel_rfl) ?_; rotate_left; exact WhAll_nil; exact WhAll_nil; refine WhAll_cons rfl ?_ ?_
      refine Wo_call rfl (opc2 (a := .pointer _) (b := .int _ _) Tryz.call46 rfl rfl) (pick_ok _ _ (by assumption) (by omega)) ?_; rintro _ w7 ⟨y2, rfl, E7, hr2, hy2⟩; (try dsimp only at hy2); have hlhr2 := hr2.lt; have Ehr2 := hr2.old
      have hO := (hO.ext (E5.trans E6)).grown E7 (by omega); have hB1 := (hB1.ext (E5.trans E6)).grown E7 (by simp only [ne_eq, Option.some.injEq]; omega)
      have hB2 := (hB2.ext (E5.trans E6)).grown E7 (by simp only [ne_eq, Option.some.injEq]; omega); have hB3 := (hB3.ext E6).grown E7 (by simp only [ne_eq, Option.some.injEq]; omega)
      have hB4 := hB4.grown E7 (by simp only [ne_eq, Option.some.injEq]; omega); have hG := grownBy_trans hG E7; have hs7 := E7.size; refine Wo_nil ?_; refine ⟨trivial, ?_⟩
      refine Wh_take 7 rfl (by kernel_rfl) (by kernel_rfl) rfl (fun _ _ => opv_quo rfl rfl (by omega)) trivial ?_; refine Wh_take 8 rfl (by kernel_rfl) (by kernel_rfl) rfl (fun _ _ => opv_mul rfl rfl (by omega)) trivial ?_
      refine Wh_all (rs := [4]) (by kernel_rfl) rfl ?_; refine WhAll_cons rfl ?_ ?_
      refine Wo_tblI Tryz.isAgg3 rfl rfl hB4 (by repeat (first | exact trivial | refine And.intro ⟨_, rfl, by decide⟩ ?_)) (by simp only [List.length_cons, List.length_nil]; omega) ?_; intro z1 hz1; refine Wo_nil ?_; refine ⟨trivial, ?_⟩
      refine Wh_take 9 rfl (by kernel_rfl) (by kernel_rfl) rfl (fun _ _ => opv_add rfl rfl (by omega)) trivial ?_
      refine Wh_take 10 rfl (by kernel_rfl) (by kernel_rfl) rfl (fun _ _ => opv_build (ps := [(0, .int _ _)]) (cs := [_, _, _]) flat75 rfl rfl) trivial ?_; refine Wh_all (rs := [12]) (by kernel_rfl) rfl ?_; refine WhAll_cons rfl ?_ ?_
      refine Wo_st3 rfl Tryz.sizeOf75 rfl rfl (by first | rfl | assumption) (by first | rfl | assumption) (by first | rfl | assumption) hB3 (by omega) Ehr2 ?_; rintro w8 E8 hB3 K2 hz2; have hr2 := hr2.wrote E8 (K2 _ (by omega)) hz2
      have hO := hO.wrote K2 (by omega); have hB1 := hB1.of_heap (K2 _ (by omega)); have hB2 := hB2.of_heap (K2 _ (by omega)); have hB4 := hB4.of_heap (K2 _ (by omega))
      have hG := grownBy_wrote hG Ehr2 E8 K2 hz2 (by first | exact .inr rfl | omega); refine Wo_nil ?_; refine ⟨trivial, ?_⟩; refine Wh_done (by kernel_rfl) ?_; rotate_left; exact WhAll_nil; exact WhAll_nil; exact WhAll_nil
      refine WhAll_cons rfl ?_ ?_; refine Wo_call rfl (opc2 (a := .pointer _) (b := .int _ _) Tryz.call46 rfl rfl) (pick_ok _ _ (by assumption) (by omega)) ?_; rintro _ w6 ⟨y2, rfl, E6, hr2, hy2⟩; (try dsimp only at hy2)
      have hlhr2 := hr2.lt; have Ehr2 := hr2.old; have hO := (hO.ext E5).grown E6 (by omega); have hB1 := (hB1.ext E5).grown E6 (by simp only [ne_eq, Option.some.injEq]; omega)
      have hB2 := (hB2.ext E5).grown E6 (by simp only [ne_eq, Option.some.injEq]; omega); have hB3 := hB3.grown E6 (by simp only [ne_eq, Option.some.injEq]; omega); have hG := grownBy_trans hG E6; have hs6 := E6.size; refine Wo_nil ?_
      refine ⟨trivial, ?_⟩; refine Wh_take 7 rfl (by kernel_rfl) (by kernel_rfl) rfl (fun _ _ => opv_quo rfl rfl (by omega)) trivial ?_
      refine Wh_take 8 rfl (by kernel_rfl) (by kernel_rfl) rfl (fun _ _ => opv_mul rfl rfl (by omega)) trivial ?_; refine Wh_all (rs := [0]) (by kernel_rfl) rfl ?_; refine WhAll_cons rfl ?_ ?_
      refine Wo_buildSliceH (ps := [(0, .int _ _), (1, .int _ _), (2, .int _ _), (3, .int _ _), (4, .int _ _), (5, .int _ _), (6, .int _ _), (7, .int _ _)]) (cs := [_, _, _, _, _, _, _, _]) rfl Tryz.underlying58 Tryz.sizeOf3 Tryz.zeroValue3 rfl rfl rfl rfl ?_
      rintro b4 w7 hb4 E7 hB4 hHb4; have hlb4 := hB4.lt; have hr2 := hr2.ext E7; have hG := grownBy_ext hG E7; have hs7 := E7.size; refine Wo_nil ?_; refine ⟨trivial, ?_⟩
      refine Wh_take 3 rfl (by kernel_rfl) (by kernel_rfl) rfl (fun _ _ => opv_indexAddr Tryz.underlying58 Tryz.sizeOf3 rfl rfl (by omega)) trivial ?_; refine Wh_all (rs := [4]) (by kernel_rfl) rfl ?_; refine WhAll_cons rfl ?_ ?_
      refine Wo_tblI Tryz.isAgg3 rfl rfl hB4 (by repeat (first | exact trivial | refine And.intro ⟨_, rfl, by decide⟩ ?_)) (by simp only [List.length_cons, List.length_nil]; omega) ?_; intro z1 hz1; refine Wo_nil ?_; refine ⟨trivial, ?_⟩
      refine Wh_take 9 rfl (by kernel_rfl) (by kernel_rfl) rfl (fun _ _ => opv_add rfl rfl (by omega)) trivial ?_
      refine Wh_take 10 rfl (by kernel_rfl) (by kernel_rfl) rfl (fun _ _ => opv_build (ps := [(0, .int _ _)]) (cs := [_, _, _]) flat75 rfl rfl) trivial ?_; refine Wh_all (rs := [12]) (by kernel_rfl) rfl ?_; refine WhAll_cons rfl ?_ ?_
      refine Wo_st3 rfl Tryz.sizeOf75 rfl rfl (by first | rfl | assumption) (by first | rfl | assumption) (by first | rfl | assumption) (hB3.ext E7) (by omega) (Ehr2.trans E7) ?_; rintro w8 E8 hB3 K2 hz2
      have hO := (hO.ext E7).wrote K2 (by omega); have hB1 := (hB1.ext E7).of_heap (K2 _ (by omega)); have hB2 := (hB2.ext E7).of_heap (K2 _ (by omega)); have hB4 := hB4.of_heap (K2 _ (by omega))
      have hr2 := hr2.wrote E8 (K2 _ (by omega)) hz2; have hG := grownBy_wrote hG (Ehr2.trans E7) E8 K2 hz2 (by first | exact .inr rfl | omega); refine Wo_nil ?_; refine ⟨trivial, ?_⟩; refine Wh_done (by kernel_rfl) ?_; rotate_left
      exact WhAll_nil; exact WhAll_nil; exact WhAll_nil; exact WhAll_nil; exact WhAll_nil; refine WhAll_cons rfl ?_ ?_; refine Wo_allocN rfl flat75 ?_; rintro b3 w4 hb3 E4 hB3; have hlb3 := hB3.lt; have hr := hr.ext E4
      have hG := grownBy_ext hG E4; have hs4 := E4.size; refine Wo_nil ?_; refine ⟨trivial, ?_⟩; refine Wh_all (rs := [0, 2]) (by kernel_rfl) rfl ?_; refine WhAll_cons rfl ?_ ?_
      refine Wo_buildSliceH (ps := [(0, .int _ _), (1, .int _ _), (2, .int _ _), (3, .int _ _), (4, .int _ _), (5, .int _ _), (6, .int _ _), (7, .int _ _)]) (cs := [_, _, _, _, _, _, _, _]) rfl Tryz.underlying58 Tryz.sizeOf3 Tryz.zeroValue3 rfl rfl rfl rfl ?_
      rintro b4 w5 hb4 E5 hB4 hHb4; have hlb4 := hB4.lt; have hr := hr.ext E5; have hG := grownBy_ext hG E5; have hs5 := E5.size; refine Wo_nil ?_; refine ⟨trivial, ?_⟩; refine Wh_all (rs := [2]) (by kernel_rfl) rfl ?_
      refine WhAll_cons rfl ?_ ?_; refine Wo_call rfl (opc2 (a := .pointer _) (b := .int _ _) Tryz.call46 rfl rfl) (pick_ok _ _ (by assumption) (by omega)) ?_; rintro _ w6 ⟨y1, rfl, E6, hr1, hy1⟩; (try dsimp only at hy1)
      have hlhr1 := hr1.lt; have Ehr1 := hr1.old; have hO := (hO.ext ((((E1.trans E2).trans E3).trans E4).trans E5)).grown E6 (by omega)
      have hB1 := (hB1.ext (((E2.trans E3).trans E4).trans E5)).grown E6 (by simp only [ne_eq, Option.some.injEq]; omega); have hB2 := (hB2.ext ((E3.trans E4).trans E5)).grown E6 (by simp only [ne_eq, Option.some.injEq]; omega)
      have hB3 := (hB3.ext E5).grown E6 (by simp only [ne_eq, Option.some.injEq]; omega); have hB4 := hB4.grown E6 (by simp only [ne_eq, Option.some.injEq]; omega); have hG := grownBy_trans hG E6; have hs6 := E6.size; refine Wo_nil ?_
      refine ⟨trivial, ?_⟩; refine Wh_take 3 rfl (by kernel_rfl) (by kernel_rfl) rfl (fun _ _ => opv_indexAddr Tryz.underlying58 Tryz.sizeOf3 rfl rfl (by omega)) trivial ?_; refine Wh_all (rs := [4, 6]) (by kernel_rfl) rfl ?_
      refine WhAll_cons rfl ?_ ?_; refine Wo_tblI Tryz.isAgg3 rfl rfl hB4 (by repeat (first | exact trivial | refine And.intro ⟨_, rfl, by decide⟩ ?_)) (by simp only [List.length_cons, List.length_nil]; omega) ?_; intro z1 hz1
      refine Wo_nil ?_; refine ⟨trivial, ?_⟩; refine Wh_all (rs := [6]) (by kernel_rfl) rfl ?_; refine WhAll_cons rfl ?_ ?_
      refine Wo_call rfl (opc2 (a := .pointer _) (b := .int _ _) Tryz.call46 rfl rfl) (pick_ok _ _ (by assumption) (by omega)) ?_; rintro _ w7 ⟨y2, rfl, E7, hr2, hy2⟩; (try dsimp only at hy2); have hlhr2 := hr2.lt; have Ehr2 := hr2.old
      have hO := hO.grown E7 (by omega); have hB1 := hB1.grown E7 (by simp only [ne_eq, Option.some.injEq]; omega); have hB2 := hB2.grown E7 (by simp only [ne_eq, Option.some.injEq]; omega)
      have hB3 := hB3.grown E7 (by simp only [ne_eq, Option.some.injEq]; omega); have hB4 := hB4.grown E7 (by simp only [ne_eq, Option.some.injEq]; omega); have hG := grownBy_trans hG E7; have hs7 := E7.size; refine Wo_nil ?_
      refine ⟨trivial, ?_⟩; refine Wh_take 7 rfl (by kernel_rfl) (by kernel_rfl) rfl (fun _ _ => opv_quo rfl rfl (by omega)) trivial ?_
      refine Wh_take 8 rfl (by kernel_rfl) (by kernel_rfl) rfl (fun _ _ => opv_mul rfl rfl (by omega)) trivial ?_; refine Wh_take 9 rfl (by kernel_rfl) (by kernel_rfl) rfl (fun _ _ => opv_add rfl rfl (by omega)) trivial ?_
      refine Wh_take 10 rfl (by kernel_rfl) (by kernel_rfl) rfl (fun _ _ => opv_build (ps := [(0, .int _ _)]) (cs := [_, _, _]) flat75 rfl rfl) trivial ?_; refine Wh_all (rs := [12]) (by kernel_rfl) rfl ?_; refine WhAll_cons rfl ?_ ?_
      refine Wo_st3 rfl Tryz.sizeOf75 rfl rfl (by first | rfl | assumption) (by first | rfl | assumption) (by first | rfl | assumption) hB3 (by omega) Ehr2 ?_; rintro w8 E8 hB3 K2 hz2; have hr2 := hr2.wrote E8 (K2 _ (by omega)) hz2
      have hO := hO.wrote K2 (by omega); have hB1 := hB1.of_heap (K2 _ (by omega)); have hB2 := hB2.of_heap (K2 _ (by omega)); have hB4 := hB4.of_heap (K2 _ (by omega))
      have hG := grownBy_wrote hG Ehr2 E8 K2 hz2 (by first | exact .inr rfl | omega); refine Wo_nil ?_; refine ⟨trivial, ?_⟩; refine Wh_done (by kernel_rfl) ?_; rotate_left; exact WhAll_nil; exact WhAll_nil; refine WhAll_cons rfl ?_ ?_
      refine Wo_call rfl (opc2 (a := .pointer _) (b := .int _ _) Tryz.call46 rfl rfl) (pick_ok _ _ (by assumption) (by omega)) ?_; rintro _ w7 ⟨y2, rfl, E7, hr2, hy2⟩; (try dsimp only at hy2); have hlhr2 := hr2.lt; have Ehr2 := hr2.old
      have hO := hO.grown E7 (by omega); have hB1 := hB1.grown E7 (by simp only [ne_eq, Option.some.injEq]; omega); have hB2 := hB2.grown E7 (by simp only [ne_eq, Option.some.injEq]; omega)
      have hB3 := hB3.grown E7 (by simp only [ne_eq, Option.some.injEq]; omega); have hB4 := hB4.grown E7 (by simp only [ne_eq, Option.some.injEq]; omega); have hG := grownBy_trans hG E7; have hs7 := E7.size; refine Wo_nil ?_
      refine ⟨trivial, ?_⟩; refine Wh_take 7 rfl (by kernel_rfl) (by kernel_rfl) rfl (fun _ _ => opv_quo rfl rfl (by omega)) trivial ?_
      refine Wh_take 8 rfl (by kernel_rfl) (by kernel_rfl) rfl (fun _ _ => opv_mul rfl rfl (by omega)) trivial ?_; refine Wh_all (rs := [4]) (by kernel_rfl) rfl ?_; refine WhAll_cons rfl ?_ ?_
      refine Wo_tblI Tryz.isAgg3 rfl rfl hB4 (by repeat (first | exact trivial | refine And.intro ⟨_, rfl, by decide⟩ ?_)) (by simp only [List.length_cons, List.length_nil]; omega) ?_; intro z1 hz1; refine Wo_nil ?_; refine ⟨trivial, ?_⟩
      refine Wh_take 9 rfl (by kernel_rfl) (by kernel_rfl) rfl (fun _ _ => opv_add rfl rfl (by omega)) trivial ?_
      refine Wh_take 10 rfl (by kernel_rfl) (by kernel_rfl) rfl (fun _ _ => opv_build (ps := [(0, .int _ _)]) (cs := [_, _, _]) flat75 rfl rfl) trivial ?_; refine Wh_all (rs := [12]) (by kernel_rfl) rfl ?_; refine WhAll_cons rfl ?_ ?_
      refine Wo_st3 rfl Tryz.sizeOf75 rfl rfl (by first | rfl | assumption) (by first | rfl | assumption) (by first | rfl | assumption) hB3 (by omega) Ehr2 ?_; rintro w8 E8 hB3 K2 hz2; have hr2 := hr2.wrote E8 (K2 _ (by omega)) hz2
      have hO := hO.wrote K2 (by omega); have hB1 := hB1.of_heap (K2 _ (by omega)); have hB2 := hB2.of_heap (K2 _ (by omega)); have hB4 := hB4.of_heap (K2 _ (by omega))
      have hG := grownBy_wrote hG Ehr2 E8 K2 hz2 (by first | exact .inr rfl | omega); refine Wo_nil ?_; refine ⟨trivial, ?_⟩; refine Wh_done (by kernel_rfl) ?_; rotate_left; exact WhAll_nil; exact WhAll_nil; exact WhAll_nil
      exact WhAll_nil; refine WhAll_cons rfl ?_ ?_; refine Wo_call rfl (opc2 (a := .pointer _) (b := .int _ _) Tryz.call46 rfl rfl) (pick_ok _ _ (by assumption) (by omega)) ?_; rintro _ w5 ⟨y1, rfl, E5, hr1, hy1⟩; (try dsimp only at hy1)
      have hlhr1 := hr1.lt; have Ehr1 := hr1.old; have hO := (hO.ext (((E1.trans E2).trans E3).trans E4)).grown E5 (by omega); have hB1 := (hB1.ext ((E2.trans E3).trans E4)).grown E5 (by simp only [ne_eq, Option.some.injEq]; omega)
      have hB2 := (hB2.ext (E3.trans E4)).grown E5 (by simp only [ne_eq, Option.some.injEq]; omega); have hB3 := hB3.grown E5 (by simp only [ne_eq, Option.some.injEq]; omega); have hG := grownBy_trans hG E5; have hs5 := E5.size
      refine Wo_nil ?_; refine ⟨trivial, ?_⟩; refine Wh_all (rs := [0, 6]) (by kernel_rfl) rfl ?_; refine WhAll_cons rfl ?_ ?_
      refine Wo_buildSliceH (ps := [(0, .int _ _), (1, .int _ _), (2, .int _ _), (3, .int _ _), (4, .int _ _), (5, .int _ _), (6, .int _ _), (7, .int _ _)]) (cs := [_, _, _, _, _, _, _, _]) rfl Tryz.underlying58 Tryz.sizeOf3 Tryz.zeroValue3 rfl rfl rfl rfl ?_
      rintro b4 w6 hb4 E6 hB4 hHb4; have hlb4 := hB4.lt; have hr1 := hr1.ext E6; have hG := grownBy_ext hG E6; have hs6 := E6.size; refine Wo_nil ?_; refine ⟨trivial, ?_⟩
      refine Wh_take 3 rfl (by kernel_rfl) (by kernel_rfl) rfl (fun _ _ => opv_indexAddr Tryz.underlying58 Tryz.sizeOf3 rfl rfl (by omega)) trivial ?_; refine Wh_all (rs := [4, 6]) (by kernel_rfl) rfl ?_; refine WhAll_cons rfl ?_ ?_
      refine Wo_tblI Tryz.isAgg3 rfl rfl hB4 (by repeat (first | exact trivial | refine And.intro ⟨_, rfl, by decide⟩ ?_)) (by simp only [List.length_cons, List.length_nil]; omega) ?_; intro z1 hz1; refine Wo_nil ?_; refine ⟨trivial, ?_⟩
      refine Wh_all (rs := [6]) (by kernel_rfl) rfl ?_; refine WhAll_cons rfl ?_ ?_; refine Wo_call rfl (opc2 (a := .pointer _) (b := .int _ _) Tryz.call46 rfl rfl) (pick_ok _ _ (by assumption) (by omega)) ?_
      rintro _ w7 ⟨y2, rfl, E7, hr2, hy2⟩; (try dsimp only at hy2); have hlhr2 := hr2.lt; have Ehr2 := hr2.old; have hO := (hO.ext E6).grown E7 (by omega); have hB1 := (hB1.ext E6).grown E7 (by simp only [ne_eq, Option.some.injEq]; omega)
      have hB2 := (hB2.ext E6).grown E7 (by simp only [ne_eq, Option.some.injEq]; omega); have hB3 := (hB3.ext E6).grown E7 (by simp only [ne_eq, Option.some.injEq]; omega)
      have hB4 := hB4.grown E7 (by simp only [ne_eq, Option.some.injEq]; omega); have hG := grownBy_trans hG E7; have hs7 := E7.size; refine Wo_nil ?_; refine ⟨trivial, ?_⟩
      refine Wh_take 7 rfl (by kernel_rfl) (by kernel_rfl) rfl (fun _ _ => opv_quo rfl rfl (by omega)) trivial ?_; refine Wh_take 8 rfl (by kernel_rfl) (by kernel_rfl) rfl (fun _ _ => opv_mul rfl rfl (by omega)) trivial ?_
      refine Wh_take 9 rfl (by kernel_rfl) (by kernel_rfl) rfl (fun _ _ => opv_add rfl rfl (by omega)) trivial ?_
      refine Wh_take 10 rfl (by kernel_rfl) (by kernel_rfl) rfl (fun _ _ => opv_build (ps := [(0, .int _ _)]) (cs := [_, _, _]) flat75 rfl rfl) trivial ?_; refine Wh_all (rs := [12]) (by kernel_rfl) rfl ?_; refine WhAll_cons rfl ?_ ?_
      refine Wo_st3 rfl Tryz.sizeOf75 rfl rfl (by first | rfl | assumption) (by first | rfl | assumption) (by first | rfl | assumption) hB3 (by omega) Ehr2 ?_; rintro w8 E8 hB3 K2 hz2; have hr2 := hr2.wrote E8 (K2 _ (by omega)) hz2
      have hO := hO.wrote K2 (by omega); have hB1 := hB1.of_heap (K2 _ (by omega)); have hB2 := hB2.of_heap (K2 _ (by omega)); have hB4 := hB4.of_heap (K2 _ (by omega))
      have hG := grownBy_wrote hG Ehr2 E8 K2 hz2 (by first | exact .inr rfl | omega); refine Wo_nil ?_; refine ⟨trivial, ?_⟩; refine Wh_done (by kernel_rfl) ?_; rotate_left; exact WhAll_nil; exact WhAll_nil; refine WhAll_cons rfl ?_ ?_
      refine Wo_call rfl (opc2 (a := .pointer _) (b := .int _ _) Tryz.call46 rfl rfl) (pick_ok _ _ (by assumption) (by omega)) ?_; rintro _ w7 ⟨y2, rfl, E7, hr2, hy2⟩; (try dsimp only at hy2); have hlhr2 := hr2.lt; have Ehr2 := hr2.old
      have hO := (hO.ext E6).grown E7 (by omega); have hB1 := (hB1.ext E6).grown E7 (by simp only [ne_eq, Option.some.injEq]; omega); have hB2 := (hB2.ext E6).grown E7 (by simp only [ne_eq, Option.some.injEq]; omega)
      have hB3 := (hB3.ext E6).grown E7 (by simp only [ne_eq, Option.some.injEq]; omega); have hB4 := hB4.grown E7 (by simp only [ne_eq, Option.some.injEq]; omega); have hG := grownBy_trans hG E7; have hs7 := E7.size; refine Wo_nil ?_
      refine ⟨trivial, ?_⟩; refine Wh_take 7 rfl (by kernel_rfl) (by kernel_rfl) rfl (fun _ _ => opv_quo rfl rfl (by omega)) trivial ?_
      refine Wh_take 8 rfl (by kernel_rfl) (by kernel_rfl) rfl (fun _ _ => opv_mul rfl rfl (by omega)) trivial ?_; refine Wh_all (rs := [4]) (by kernel_rfl) rfl ?_; refine WhAll_cons rfl ?_ ?_
      refine Wo_tblI Tryz.isAgg3 rfl rfl hB4 (by repeat (first | exact trivial | refine And.intro ⟨_, rfl, by decide⟩ ?_)) (by simp only [List.length_cons, List.length_nil]; omega) ?_; intro z1 hz1; refine Wo_nil ?_; refine ⟨trivial, ?_⟩
      refine Wh_take 9 rfl (by kernel_rfl) (by kernel_rfl) rfl (fun _ _ => opv_add rfl rfl (by omega)) trivial ?_
      refine Wh_take 10 rfl (by kernel_rfl) (by kernel_rfl) rfl (fun _ _ => opv_build (ps := [(0, .int _ _)]) (cs := [_, _, _]) flat75 rfl rfl) trivial ?_; refine Wh_all (rs := [12]) (by kernel_rfl) rfl ?_; refine WhAll_cons rfl ?_ ?_
      refine Wo_st3 rfl Tryz.sizeOf75 rfl rfl (by first | rfl | assumption) (by first | rfl | assumption) (by first | rfl | assumption) hB3 (by omega) Ehr2 ?_; rintro w8 E8 hB3 K2 hz2; have hr2 := hr2.wrote E8 (K2 _ (by omega)) hz2
      have hO := hO.wrote K2 (by omega); have hB1 := hB1.of_heap (K2 _ (by omega)); have hB2 := hB2.of_heap (K2 _ (by omega)); have hB4 := hB4.of_heap (K2 _ (by omega))
      have hG := grownBy_wrote hG Ehr2 E8 K2 hz2 (by first | exact .inr rfl | omega); refine Wo_nil ?_; refine ⟨trivial, ?_⟩; refine Wh_done (by kernel_rfl) ?_; rotate_left; exact WhAll_nil; exact WhAll_nil; exact WhAll_nil
      refine WhAll_cons rfl ?_ ?_; refine Wo_call rfl (opc2 (a := .pointer _) (b := .int _ _) Tryz.call46 rfl rfl) (pick_ok _ _ (by assumption) (by omega)) ?_; rintro _ w6 ⟨y2, rfl, E6, hr2, hy2⟩; (try dsimp only at hy2)
      have hlhr2 := hr2.lt; have Ehr2 := hr2.old; have hO := hO.grown E6 (by omega); have hB1 := hB1.grown E6 (by simp only [ne_eq, Option.some.injEq]; omega); have hB2 := hB2.grown E6 (by simp only [ne_eq, Option.some.injEq]; omega)
      have hB3 := hB3.grown E6 (by simp only [ne_eq, Option.some.injEq]; omega); have hG := grownBy_trans hG E6; have hs6 := E6.size; refine Wo_nil ?_; refine ⟨trivial, ?_⟩
      refine Wh_take 7 rfl (by kernel_rfl) (by kernel_rfl) rfl (fun _ _ => opv_quo rfl rfl (by omega)) trivial ?_; refine Wh_take 8 rfl (by kernel_rfl) (by kernel_rfl) rfl (fun _ _ => opv_mul rfl rfl (by omega)) trivial ?_
      refine Wh_all (rs := [0]) (by kernel_rfl) rfl ?_; refine WhAll_cons rfl ?_ ?_
      refine Wo_buildSliceH (ps := [(0, .int _ _), (1, .int _ _), (2, .int _ _), (3, .int _ _), (4, .int _ _), (5, .int _ _), (6, .int _ _), (7, .int _ _)]) (cs := [_, _, _, _, _, _, _, _]) rfl Tryz.underlying58 Tryz.sizeOf3 Tryz.zeroValue3 rfl rfl rfl rfl ?_
      rintro b4 w7 hb4 E7 hB4 hHb4; have hlb4 := hB4.lt; have hr2 := hr2.ext E7; have hG := grownBy_ext hG E7; have hs7 := E7.size; refine Wo_nil ?_; refine ⟨trivial, ?_⟩
      refine Wh_take 3 rfl (by kernel_rfl) (by kernel_rfl) rfl (fun _ _ => opv_indexAddr Tryz.underlying58 Tryz.sizeOf3 rfl rfl (by omega)) trivial ?_; refine Wh_all (rs := [4]) (by kernel_rfl) rfl ?_; refine WhAll_cons rfl ?_ ?_
      refine Wo_tblI Tryz.isAgg3 rfl rfl hB4 (by repeat (first | exact trivial | refine And.intro ⟨_, rfl, by decide⟩ ?_)) (by simp only [List.length_cons, List.length_nil]; omega) ?_; intro z1 hz1; refine Wo_nil ?_; refine ⟨trivial, ?_⟩
      refine Wh_take 9 rfl (by kernel_rfl) (by kernel_rfl) rfl (fun _ _ => opv_add rfl rfl (by omega)) trivial ?_
      refine Wh_take 10 rfl (by kernel_rfl) (by kernel_rfl) rfl (fun _ _ => opv_build (ps := [(0, .int _ _)]) (cs := [_, _, _]) flat75 rfl rfl) trivial ?_; refine Wh_all (rs := [12]) (by kernel_rfl) rfl ?_; refine WhAll_cons rfl ?_ ?_
      refine Wo_st3 rfl Tryz.sizeOf75 rfl rfl (by first | rfl | assumption) (by first | rfl | assumption) (by first | rfl | assumption) (hB3.ext E7) (by omega) (Ehr2.trans E7) ?_; rintro w8 E8 hB3 K2 hz2
      have hO := (hO.ext E7).wrote K2 (by omega); have hB1 := (hB1.ext E7).of_heap (K2 _ (by omega)); have hB2 := (hB2.ext E7).of_heap (K2 _ (by omega)); have hB4 := hB4.of_heap (K2 _ (by omega))
      have hr2 := hr2.wrote E8 (K2 _ (by omega)) hz2; have hG := grownBy_wrote hG (Ehr2.trans E7) E8 K2 hz2 (by first | exact .inr rfl | omega); refine Wo_nil ?_; refine ⟨trivial, ?_⟩; refine Wh_done (by kernel_rfl) ?_; rotate_left
      exact WhAll_nil; exact WhAll_nil; exact WhAll_nil; exact WhAll_nil; exact WhAll_nil; exact WhAll_nil
    all_goals
      have hy2' := hy2 (by omega)
      first
        | exact ⟨(b3, _), ⟨rfl, trivial⟩, by repeat (first | with_reducible exact Same.refl | refine Same.upd rfl ?_ | refine Same.upds rfl ?_ | refine Same.mix rfl ?_), hG, hr2, by omega, by omega, hB1, hB2, hB3, hO, by omega, by omega⟩
        | exact ⟨(b4, _), ⟨rfl, trivial⟩, by repeat (first | with_reducible exact Same.refl | refine Same.upd rfl ?_ | refine Same.upds rfl ?_ | refine Same.mix rfl ?_), hG, hr2, by omega, by omega, hB1, hB2, hB4, hO, by omega, by omega⟩
  clear hr hG hB1 hB2 hO
  rintro ⟨b, k⟩ ρ1 w3 ⟨hG, hr, hb3, hb4, hB1, hB2, hB3, hO, hk1, hk2⟩
  have E3 := hr.old
  have hlr3 := hr.lt
  have hs3 := hG.size
  rcases hp with rfl | hp
  · have h0 : ([] : List (List Int)).length = 0 := rfl
    focus
      have szE3 := E3.size; have szE2 := E2.size; have szE1 := E1.size; have szE0 := E0.size; refine W_seq ?_; refine W_seq ?_; refine W_region rfl ?_; refine Wo rfl (opv_fieldAddr Tryz.underlying75 rfl rfl Tryz.sizeOf3 rfl) ?_
      refine Wo (v := .int _ _) rfl (opv_load Tryz.isAgg3 rfl (hB3.cell rfl)) ?_; refine Wo_nil ?_; refine W_block ?_; refine W_seq ?_; refine W_seq ?_; refine W_region rfl ?_; refine Wo rfl (opv_eql rfl rfl) ?_
      refine Wo rfl (opv_assign (v := .bool _) rfl) ?_; refine Wo_nil ?_; refine W_cond_dec rfl (fun h1 => ?_) (fun h1 => ?_); refine W_skip ?_; refine W_cond_dec rfl (fun h2 => ?_) (fun h2 => ?_); refine W_seq ?_; refine W_region rfl ?_
      refine Wo_buildSlice (ps := [(0, .string _), (1, .string _), (2, .string _), (3, .string _), (4, .string _)]) (cs := [_, _, _, _, _]) rfl Tryz.underlying82 Tryz.sizeOf9 Tryz.zeroValue9 rfl rfl rfl rfl ?_; rintro b3 w4 hb5 E4 hB4
      have hlb3 := hB4.lt; have hG := grownBy_ext hG E4; have hr := hr.ext E4; have hs4 := E4.size; refine Wo rfl (opv_move (v := .pointer _) rfl) ?_
      refine Wo_call rfl (opc2 (a := .pointer _) (b := .int _ _) Tryz.call46 rfl rfl) (pick_ok _ _ (by assumption) (by omega)) ?_; rintro _ w5 ⟨y1, rfl, E5, hr1, hy1⟩; (try dsimp only at hy1); have hlhr1 := hr1.lt; have Ehr1 := hr1.old
      have hB1 := (hB1.ext E4).grown E5 (by simp only [ne_eq, Option.some.injEq]; omega); have hB2 := (hB2.ext E4).grown E5 (by simp only [ne_eq, Option.some.injEq]; omega)
      have hB3 := (hB3.ext E4).grown E5 (by simp only [ne_eq, Option.some.injEq]; omega); have hO := (hO.ext E4).grown E5 (by omega); have hB4 := hB4.grown E5 (by simp only [ne_eq, Option.some.injEq]; omega)
      have hG := grownBy_trans hG E5; have hs5 := E5.size; refine Wo rfl (opv_indexAddr Tryz.underlying82 Tryz.sizeOf9 rfl rfl (by omega)) ?_
      refine Wo_tbl 0 Tryz.isAgg9 rfl rfl hB4 (by repeat (first | exact trivial | refine And.intro ⟨_, rfl, by decide⟩ ?_)) (by simp only [List.length_cons, List.length_nil]; omega) ?_; intro s1 hs1
      refine Wo rfl (opv_fieldAddr Tryz.underlying75 rfl rfl Tryz.sizeOf9 rfl) ?_; refine Wo_st (v := .string _) rfl Tryz.sizeOf9 rfl rfl rfl hB3 (by simp) (by omega) Ehr1 ?_; rintro w6 E6 hB3 K1 hz1; simp only [List.set] at hB3
      have hr1 := hr1.wrote E6 (K1 _ (by omega)) hz1; have hB1 := hB1.of_heap (K1 _ (by omega)); have hB2 := hB2.of_heap (K1 _ (by omega)); have hO := hO.wrote K1 (by omega); have hB4 := hB4.of_heap (K1 _ (by omega))
      have hG := grownBy_wrote hG Ehr1 E6 K1 hz1 (by first | exact .inr rfl | omega); refine Wo_nil ?_; refine W_seq ?_; refine W_region rfl ?_; refine Wo rfl (opv_fieldAddr Tryz.underlying28 rfl rfl Tryz.sizeOf22 rfl) ?_
      refine Wo (v := u1) rfl (opv_load Tryz.isAgg22 rfl (hB1.cell rfl)) ?_; refine Wo rfl (opv_len Tryz.underlying22 rfl (OwnedB.read hO)) ?_; refine Wo rfl (opv_gtr rfl rfl) ?_
      refine Wo_split_dec rfl (opv_move (v := .bool _) rfl) (fun h3 => ?_) (fun h3 => ?_); contradiction; refine Wo_skip rfl ?_; refine Wo_skip rfl ?_; refine Wo_skip rfl ?_; refine Wo rfl (opv_pick_f (v := .bool _) rfl rfl) ?_
      refine Wo_nil ?_; refine W_cond_false rfl ?_; refine W_skip ?_; refine W_seq ?_; refine W_seq ?_; refine W_region rfl ?_; refine Wo rfl (opv_move (v := .pointer _) rfl) ?_
      refine Wo_call rfl (opc2 (a := .pointer _) (b := .int _ _) Tryz.call64 rfl rfl) (odd_ok _ _ (by assumption) (by omega) (by omega)) ?_; rintro _ w7 ⟨y2, rfl, E7, hr2, hy2⟩; (try dsimp only at hy2); have hlhr2 := hr2.lt
      have Ehr2 := hr2.old; have hB3 := hB3.grown E7 (by simp only [ne_eq, Option.some.injEq]; omega); have hB1 := hB1.grown E7 (by simp only [ne_eq, Option.some.injEq]; omega)
      have hB2 := hB2.grown E7 (by simp only [ne_eq, Option.some.injEq]; omega); have hO := hO.grown E7 (by omega); have hB4 := hB4.grown E7 (by simp only [ne_eq, Option.some.injEq]; omega); have hG := grownBy_trans hG E7
      have hs6 := E7.size; refine Wo_nil ?_; refine W_cond rfl (fun h4 => ?_) (fun h4 => ?_); refine W_region rfl ?_; refine Wo rfl (opv_fieldAddr Tryz.underlying75 rfl rfl Tryz.sizeOf9 rfl) ?_
      refine Wo (v := .string _) rfl (opv_load Tryz.isAgg9 rfl (hB3.cell rfl)) ?_; refine Wo rfl (opv_add_str rfl rfl (by simp <;> omega)) ?_; refine Wo rfl (opv_fieldAddr Tryz.underlying75 rfl rfl Tryz.sizeOf9 rfl) ?_
      refine Wo_st (v := .string _) rfl Tryz.sizeOf9 rfl rfl rfl hB3 (by simp) (by omega) Ehr2 ?_; rintro w8 E8 hB3 K2 hz2; simp only [List.set] at hB3; have hr2 := hr2.wrote E8 (K2 _ (by omega)) hz2
      have hB1 := hB1.of_heap (K2 _ (by omega)); have hB2 := hB2.of_heap (K2 _ (by omega)); have hO := hO.wrote K2 (by omega); have hB4 := hB4.of_heap (K2 _ (by omega))
      have hG := grownBy_wrote hG Ehr2 E8 K2 hz2 (by first | exact .inr rfl | omega); refine Wo_nil ?_; refine W_seq ?_; refine W_region rfl ?_; refine Wo (v := .agg _) rfl (opv_load3 Tryz.isAgg75 Tryz.sizeOf75 rfl hB3) ?_
      refine Wo_st3 rfl Tryz.sizeOf75 rfl rfl (by first | rfl | assumption) (by first | rfl | assumption) (by first | rfl | assumption) hB2 (by omega) E8 ?_; rintro w9 E9 hB2 K3 hz3; have hB3 := hB3.of_heap (K3 _ (by omega))
      have hr2 := hr2.wrote E9 (K3 _ (by omega)) hz3; have hB1 := hB1.of_heap (K3 _ (by omega)); have hO := hO.wrote K3 (by omega); have hB4 := hB4.of_heap (K3 _ (by omega))
      have hG := grownBy_wrote hG E8 E9 K3 hz3 (by first | exact .inr rfl | omega); refine Wo_nil ?_; refine W_ret ?_; rotate_left; refine W_skip ?_; refine W_seq ?_; refine W_region rfl ?_
      refine Wo (v := .agg _) rfl (opv_load3 Tryz.isAgg75 Tryz.sizeOf75 rfl hB3) ?_; refine Wo_st3 rfl Tryz.sizeOf75 rfl rfl (by first | rfl | assumption) (by first | rfl | assumption) (by first | rfl | assumption) hB2 (by omega) Ehr2 ?_
      rintro w8 E8 hB2 K2 hz2; have hr2 := hr2.wrote E8 (K2 _ (by omega)) hz2; have hB3 := hB3.of_heap (K2 _ (by omega)); have hB1 := hB1.of_heap (K2 _ (by omega)); have hO := hO.wrote K2 (by omega)
      have hB4 := hB4.of_heap (K2 _ (by omega)); have hG := grownBy_wrote hG Ehr2 E8 K2 hz2 (by first | exact .inr rfl | omega); refine Wo_nil ?_; refine W_ret ?_; rotate_left; contradiction; refine W_region rfl ?_
      refine Wo rfl (opv_eql rfl rfl) ?_; refine Wo rfl (opv_assign (v := .bool _) rfl) ?_; refine Wo_nil ?_; refine W_cond_dec rfl (fun h2 => ?_) (fun h2 => ?_); refine W_seq ?_; refine W_region rfl ?_
      refine Wo_buildSlice (ps := [(0, .string _), (1, .string _), (2, .string _), (3, .string _), (4, .string _)]) (cs := [_, _, _, _, _]) rfl Tryz.underlying82 Tryz.sizeOf9 Tryz.zeroValue9 rfl rfl rfl rfl ?_; rintro b3 w4 hb5 E4 hB4
      have hlb3 := hB4.lt; have hG := grownBy_ext hG E4; have hr := hr.ext E4; have hs4 := E4.size; refine Wo rfl (opv_move (v := .pointer _) rfl) ?_
      refine Wo_call rfl (opc2 (a := .pointer _) (b := .int _ _) Tryz.call46 rfl rfl) (pick_ok _ _ (by assumption) (by omega)) ?_; rintro _ w5 ⟨y1, rfl, E5, hr1, hy1⟩; (try dsimp only at hy1); have hlhr1 := hr1.lt; have Ehr1 := hr1.old
      have hB1 := (hB1.ext E4).grown E5 (by simp only [ne_eq, Option.some.injEq]; omega); have hB2 := (hB2.ext E4).grown E5 (by simp only [ne_eq, Option.some.injEq]; omega)
      have hB3 := (hB3.ext E4).grown E5 (by simp only [ne_eq, Option.some.injEq]; omega); have hO := (hO.ext E4).grown E5 (by omega); have hB4 := hB4.grown E5 (by simp only [ne_eq, Option.some.injEq]; omega)
      have hG := grownBy_trans hG E5; have hs5 := E5.size; refine Wo rfl (opv_indexAddr Tryz.underlying82 Tryz.sizeOf9 rfl rfl (by omega)) ?_
      refine Wo_tbl 0 Tryz.isAgg9 rfl rfl hB4 (by repeat (first | exact trivial | refine And.intro ⟨_, rfl, by decide⟩ ?_)) (by simp only [List.length_cons, List.length_nil]; omega) ?_; intro s1 hs1
      refine Wo rfl (opv_fieldAddr Tryz.underlying75 rfl rfl Tryz.sizeOf9 rfl) ?_; refine Wo_st (v := .string _) rfl Tryz.sizeOf9 rfl rfl rfl hB3 (by simp) (by omega) Ehr1 ?_; rintro w6 E6 hB3 K1 hz1; simp only [List.set] at hB3
      have hr1 := hr1.wrote E6 (K1 _ (by omega)) hz1; have hB1 := hB1.of_heap (K1 _ (by omega)); have hB2 := hB2.of_heap (K1 _ (by omega)); have hO := hO.wrote K1 (by omega); have hB4 := hB4.of_heap (K1 _ (by omega))
      have hG := grownBy_wrote hG Ehr1 E6 K1 hz1 (by first | exact .inr rfl | omega); refine Wo_nil ?_; refine W_seq ?_; refine W_region rfl ?_; refine Wo rfl (opv_fieldAddr Tryz.underlying28 rfl rfl Tryz.sizeOf22 rfl) ?_
      refine Wo (v := u1) rfl (opv_load Tryz.isAgg22 rfl (hB1.cell rfl)) ?_; refine Wo rfl (opv_len Tryz.underlying22 rfl (OwnedB.read hO)) ?_; refine Wo rfl (opv_gtr rfl rfl) ?_
      refine Wo_split_dec rfl (opv_move (v := .bool _) rfl) (fun h3 => ?_) (fun h3 => ?_); contradiction; refine Wo_skip rfl ?_; refine Wo_skip rfl ?_; refine Wo_skip rfl ?_; refine Wo rfl (opv_pick_f (v := .bool _) rfl rfl) ?_
      refine Wo_nil ?_; refine W_cond_false rfl ?_; refine W_skip ?_; refine W_seq ?_; refine W_seq ?_; refine W_region rfl ?_; refine Wo rfl (opv_move (v := .pointer _) rfl) ?_
      refine Wo_call rfl (opc2 (a := .pointer _) (b := .int _ _) Tryz.call64 rfl rfl) (odd_ok _ _ (by assumption) (by omega) (by omega)) ?_; rintro _ w7 ⟨y2, rfl, E7, hr2, hy2⟩; (try dsimp only at hy2); have hlhr2 := hr2.lt
      have Ehr2 := hr2.old; have hB3 := hB3.grown E7 (by simp only [ne_eq, Option.some.injEq]; omega); have hB1 := hB1.grown E7 (by simp only [ne_eq, Option.some.injEq]; omega)
      have hB2 := hB2.grown E7 (by simp only [ne_eq, Option.some.injEq]; omega); have hO := hO.grown E7 (by omega); have hB4 := hB4.grown E7 (by simp only [ne_eq, Option.some.injEq]; omega); have hG := grownBy_trans hG E7
      have hs6 := E7.size; refine Wo_nil ?_; refine W_cond rfl (fun h4 => ?_) (fun h4 => ?_); refine W_region rfl ?_; refine Wo rfl (opv_fieldAddr Tryz.underlying75 rfl rfl Tryz.sizeOf9 rfl) ?_
      refine Wo (v := .string _) rfl (opv_load Tryz.isAgg9 rfl (hB3.cell rfl)) ?_; refine Wo rfl (opv_add_str rfl rfl (by simp <;> omega)) ?_; refine Wo rfl (opv_fieldAddr Tryz.underlying75 rfl rfl Tryz.sizeOf9 rfl) ?_
      refine Wo_st (v := .string _) rfl Tryz.sizeOf9 rfl rfl rfl hB3 (by simp) (by omega) Ehr2 ?_; rintro w8 E8 hB3 K2 hz2; simp only [List.set] at hB3; have hr2 := hr2.wrote E8 (K2 _ (by omega)) hz2
      have hB1 := hB1.of_heap (K2 _ (by omega)); have hB2 := hB2.of_heap (K2 _ (by omega)); have hO := hO.wrote K2 (by omega); have hB4 := hB4.of_heap (K2 _ (by omega))
      have hG := grownBy_wrote hG Ehr2 E8 K2 hz2 (by first | exact .inr rfl | omega); refine Wo_nil ?_; refine W_seq ?_; refine W_region rfl ?_; refine Wo (v := .agg _) rfl (opv_load3 Tryz.isAgg75 Tryz.sizeOf75 rfl hB3) ?_
      refine Wo_st3 rfl Tryz.sizeOf75 rfl rfl (by first | rfl | assumption) (by first | rfl | assumption) (by first | rfl | assumption) hB2 (by omega) E8 ?_; rintro w9 E9 hB2 K3 hz3; have hB3 := hB3.of_heap (K3 _ (by omega))
      have hr2 := hr2.wrote E9 (K3 _ (by omega)) hz3; have hB1 := hB1.of_heap (K3 _ (by omega)); have hO := hO.wrote K3 (by omega); have hB4 := hB4.of_heap (K3 _ (by omega))
      have hG := grownBy_wrote hG E8 E9 K3 hz3 (by first | exact .inr rfl | omega); refine Wo_nil ?_; refine W_ret ?_; rotate_left; refine W_skip ?_; refine W_seq ?_; refine W_region rfl ?_
      refine Wo (v := .agg _) rfl (opv_load3 Tryz.isAgg75 Tryz.sizeOf75 rfl hB3) ?_; refine Wo_st3 rfl Tryz.sizeOf75 rfl rfl (by first | rfl | assumption) (by first | rfl | assumption) (by first | rfl | assumption) hB2 (by omega) Ehr2 ?_
      rintro w8 E8 hB2 K2 hz2; have hr2 := hr2.wrote E8 (K2 _ (by omega)) hz2; have hB3 := hB3.of_heap (K2 _ (by omega)); have hB1 := hB1.of_heap (K2 _ (by omega)); have hO := hO.wrote K2 (by omega)
      have hB4 := hB4.of_heap (K2 _ (by omega)); have hG := grownBy_wrote hG Ehr2 E8 K2 hz2 (by first | exact .inr rfl | omega); refine Wo_nil ?_; refine W_ret ?_; rotate_left; refine W_seq ?_; refine W_region rfl ?_
      refine Wo rfl (opv_eql rfl rfl) ?_; refine Wo rfl (opv_assign (v := .bool _) rfl) ?_; refine Wo_nil ?_; refine W_cond_dec rfl (fun h3 => ?_) (fun h3 => ?_); refine W_region rfl ?_; refine Wo rfl (opv_move (v := .pointer _) rfl) ?_
      refine Wo rfl (opv_fieldAddr Tryz.underlying28 rfl rfl Tryz.sizeOf22 rfl) ?_; refine Wo (v := u1) rfl (opv_load Tryz.isAgg22 rfl (hB1.cell rfl)) ?_; refine Wo rfl (opv_len Tryz.underlying22 rfl (OwnedB.read hO)) ?_
      refine Wo rfl (opv_max rfl rfl) ?_; refine Wo_call rfl (opc2 (a := .pointer _) (b := .int _ _) Tryz.call46 rfl rfl) (pick_ok _ _ (by assumption) (by omega)) ?_; rintro _ w4 ⟨y1, rfl, E4, hr1, hy1⟩; (try dsimp only at hy1)
      have hlhr1 := hr1.lt; have Ehr1 := hr1.old; have hG := grownBy_trans hG E4; have hB1 := hB1.grown E4 (by simp only [ne_eq, Option.some.injEq]; omega); have hB2 := hB2.grown E4 (by simp only [ne_eq, Option.some.injEq]; omega)
      have hB3 := hB3.grown E4 (by simp only [ne_eq, Option.some.injEq]; omega); have hO := hO.grown E4 (by omega); have hs4 := E4.size; refine Wo rfl (opv_fieldAddr Tryz.underlying75 rfl rfl Tryz.sizeOf3 rfl) ?_
      refine Wo_st (v := .int _ _) rfl Tryz.sizeOf3 rfl rfl rfl hB3 (by simp) (by omega) Ehr1 ?_; rintro w5 E5 hB3 K1 hz1; simp only [List.set] at hB3; have hr1 := hr1.wrote E5 (K1 _ (by omega)) hz1
      have hG := grownBy_wrote hG Ehr1 E5 K1 hz1 (by first | exact .inr rfl | omega); have hB1 := hB1.of_heap (K1 _ (by omega)); have hB2 := hB2.of_heap (K1 _ (by omega)); have hO := hO.wrote K1 (by omega); refine Wo_nil ?_
      refine W_seq ?_; refine W_seq ?_; refine W_region rfl ?_; refine Wo rfl (opv_move (v := .pointer _) rfl) ?_
      refine Wo_call rfl (opc2 (a := .pointer _) (b := .int _ _) Tryz.call64 rfl rfl) (odd_ok _ _ (by assumption) (by omega) (by omega)) ?_; rintro _ w6 ⟨y2, rfl, E6, hr2, hy2⟩; (try dsimp only at hy2); have hlhr2 := hr2.lt
      have Ehr2 := hr2.old; have hB3 := hB3.grown E6 (by simp only [ne_eq, Option.some.injEq]; omega); have hG := grownBy_trans hG E6; have hB1 := hB1.grown E6 (by simp only [ne_eq, Option.some.injEq]; omega)
      have hB2 := hB2.grown E6 (by simp only [ne_eq, Option.some.injEq]; omega); have hO := hO.grown E6 (by omega); have hs5 := E6.size; refine Wo_nil ?_; refine W_cond rfl (fun h4 => ?_) (fun h4 => ?_); refine W_region rfl ?_
      refine Wo rfl (opv_fieldAddr Tryz.underlying75 rfl rfl Tryz.sizeOf9 rfl) ?_; refine Wo (v := .string _) rfl (opv_load Tryz.isAgg9 rfl (hB3.cell rfl)) ?_; refine Wo rfl (opv_add_str rfl rfl (by simp <;> omega)) ?_
      refine Wo rfl (opv_fieldAddr Tryz.underlying75 rfl rfl Tryz.sizeOf9 rfl) ?_; refine Wo_st (v := .string _) rfl Tryz.sizeOf9 rfl rfl rfl hB3 (by simp) (by omega) Ehr2 ?_; rintro w7 E7 hB3 K2 hz2; simp only [List.set] at hB3
      have hr2 := hr2.wrote E7 (K2 _ (by omega)) hz2; have hG := grownBy_wrote hG Ehr2 E7 K2 hz2 (by first | exact .inr rfl | omega); have hB1 := hB1.of_heap (K2 _ (by omega)); have hB2 := hB2.of_heap (K2 _ (by omega))
      have hO := hO.wrote K2 (by omega); refine Wo_nil ?_; refine W_seq ?_; refine W_region rfl ?_; refine Wo (v := .agg _) rfl (opv_load3 Tryz.isAgg75 Tryz.sizeOf75 rfl hB3) ?_
      refine Wo_st3 rfl Tryz.sizeOf75 rfl rfl (by first | rfl | assumption) (by first | rfl | assumption) (by first | rfl | assumption) hB2 (by omega) E7 ?_; rintro w8 E8 hB2 K3 hz3; have hB3 := hB3.of_heap (K3 _ (by omega))
      have hr2 := hr2.wrote E8 (K3 _ (by omega)) hz3; have hG := grownBy_wrote hG E7 E8 K3 hz3 (by first | exact .inr rfl | omega); have hB1 := hB1.of_heap (K3 _ (by omega)); have hO := hO.wrote K3 (by omega); refine Wo_nil ?_
      refine W_ret ?_; rotate_left; refine W_skip ?_; refine W_seq ?_; refine W_region rfl ?_; refine Wo (v := .agg _) rfl (opv_load3 Tryz.isAgg75 Tryz.sizeOf75 rfl hB3) ?_
      refine Wo_st3 rfl Tryz.sizeOf75 rfl rfl (by first | rfl | assumption) (by first | rfl | assumption) (by first | rfl | assumption) hB2 (by omega) Ehr2 ?_; rintro w7 E7 hB2 K2 hz2; have hr2 := hr2.wrote E7 (K2 _ (by omega)) hz2
      have hB3 := hB3.of_heap (K2 _ (by omega)); have hG := grownBy_wrote hG Ehr2 E7 K2 hz2 (by first | exact .inr rfl | omega); have hB1 := hB1.of_heap (K2 _ (by omega)); have hO := hO.wrote K2 (by omega); refine Wo_nil ?_
      refine W_ret ?_; rotate_left; refine W_skip ?_; refine W_seq ?_; refine W_seq ?_; refine W_region rfl ?_; refine Wo rfl (opv_move (v := .pointer _) rfl) ?_
      refine Wo_call rfl (opc2 (a := .pointer _) (b := .int _ _) Tryz.call64 rfl rfl) (odd_ok _ _ (by assumption) (by omega) (by omega)) ?_; rintro _ w4 ⟨y1, rfl, E4, hr1, hy1⟩; (try dsimp only at hy1); have hlhr1 := hr1.lt
      have Ehr1 := hr1.old; have hG := grownBy_trans hG E4; have hB1 := hB1.grown E4 (by simp only [ne_eq, Option.some.injEq]; omega); have hB2 := hB2.grown E4 (by simp only [ne_eq, Option.some.injEq]; omega)
      have hB3 := hB3.grown E4 (by simp only [ne_eq, Option.some.injEq]; omega); have hO := hO.grown E4 (by omega); have hs4 := E4.size; refine Wo_nil ?_; refine W_cond rfl (fun h4 => ?_) (fun h4 => ?_); refine W_region rfl ?_
      refine Wo rfl (opv_fieldAddr Tryz.underlying75 rfl rfl Tryz.sizeOf9 rfl) ?_; refine Wo (v := .string _) rfl (opv_load Tryz.isAgg9 rfl (hB3.cell rfl)) ?_; refine Wo rfl (opv_add_str rfl rfl (by simp <;> omega)) ?_
      refine Wo rfl (opv_fieldAddr Tryz.underlying75 rfl rfl Tryz.sizeOf9 rfl) ?_; refine Wo_st (v := .string _) rfl Tryz.sizeOf9 rfl rfl rfl hB3 (by simp) (by omega) Ehr1 ?_; rintro w5 E5 hB3 K1 hz1; simp only [List.set] at hB3
      have hr1 := hr1.wrote E5 (K1 _ (by omega)) hz1; have hG := grownBy_wrote hG Ehr1 E5 K1 hz1 (by first | exact .inr rfl | omega); have hB1 := hB1.of_heap (K1 _ (by omega)); have hB2 := hB2.of_heap (K1 _ (by omega))
      have hO := hO.wrote K1 (by omega); refine Wo_nil ?_; refine W_seq ?_; refine W_region rfl ?_; refine Wo (v := .agg _) rfl (opv_load3 Tryz.isAgg75 Tryz.sizeOf75 rfl hB3) ?_
      refine Wo_st3 rfl Tryz.sizeOf75 rfl rfl (by first | rfl | assumption) (by first | rfl | assumption) (by first | rfl | assumption) hB2 (by omega) E5 ?_; rintro w6 E6 hB2 K2 hz2; have hB3 := hB3.of_heap (K2 _ (by omega))
      have hr1 := hr1.wrote E6 (K2 _ (by omega)) hz2; have hG := grownBy_wrote hG E5 E6 K2 hz2 (by first | exact .inr rfl | omega); have hB1 := hB1.of_heap (K2 _ (by omega)); have hO := hO.wrote K2 (by omega); refine Wo_nil ?_
      refine W_ret ?_; rotate_left; refine W_skip ?_; refine W_seq ?_; refine W_region rfl ?_; refine Wo (v := .agg _) rfl (opv_load3 Tryz.isAgg75 Tryz.sizeOf75 rfl hB3) ?_
      refine Wo_st3 rfl Tryz.sizeOf75 rfl rfl (by first | rfl | assumption) (by first | rfl | assumption) (by first | rfl | assumption) hB2 (by omega) Ehr1 ?_; rintro w5 E5 hB2 K1 hz1; have hr1 := hr1.wrote E5 (K1 _ (by omega)) hz1
      have hG := grownBy_wrote hG Ehr1 E5 K1 hz1 (by first | exact .inr rfl | omega); have hB1 := hB1.of_heap (K1 _ (by omega)); have hB3 := hB3.of_heap (K1 _ (by omega)); have hO := hO.wrote K1 (by omega); refine Wo_nil ?_
      refine W_ret ?_; rotate_left
    all_goals
      refine ⟨b2, _, _, _, rfl, hB2, _, _, _, rfl, hG, ?_, ?_⟩
      · first | exact hr7.le (by omega) | exact hr6.le (by omega) | exact hr5.le (by omega) | exact hr4.le (by omega) | exact hr3.le (by omega) | exact hr2.le (by omega) | exact hr1.le (by omega) | exact hr.le (by omega)
      · unfold DrP; simp only [List.length_append, List.length_cons, List.length_nil]; omega
  · have hp1 := hp.1
    have hp5 := hp.2.1
    have hal := arr_le hp hp1
    have hail := ints_len (arr p 0)
    have c1 : ∀ (w : World) (v : Value), ESl Ints w v p → Does Tryz.prog 84 [v, .int .i64 0] w (RetO w XI (ints (arr p 0))) := fun w v h => l6Arrows_ok w v p h hp 0 hp1
    by_cases hL : LeastP p
    · have c2 : ∀ (w : World) (v : Value), ESl Ints w v p → Does Tryz.prog 21 [v] w (Ret w (.bool true)) := fun w v h => by
        have := LeastOk_ok w v p h; rwa [decide_eq_true hL] at this
      have c3 : ∀ (i : Nat) (hi : i < (ints (arr p 0)).length) (w : World) (v : Value), ESl Ints w v p → Does Tryz.prog 32 [v, .int .i64 (ints (arr p 0))[i]] w (RetDX w XR Pic) := fun i hi w v h => by
        have hi' : i < (arr p 0).length := by rw [← ints_len]; exact hi
        rw [ints_get hi']
        have hlt := arr_lt hp hp1 (List.getElem_mem hi')
        have hN : Nod p ((arr p 0)[i] : Nat) := ⟨hL.1, by omega, by omega⟩
        refine (LeastOf_ok w v p h _).mono fun u w' ho => ?_
        rw [if_pos hN] at ho
        exact ⟨_, ho.1, ho.2, lst_pic hL.1 (by simpa using hlt)⟩
      have c4 : ∀ (w : World) (v : Value) (c : List (List Int)), ESl Ints w v c → Pic c → Does Tryz.prog 38 [v] w (RetX w str (fun s _ => s.length ≤ 200)) := fun w v c h hc => by
        refine (PictureText_ok w v c h).mono fun u w' ho => ?_
        rw [if_pos hc] at ho
        exact ⟨ho.2, _, ho.1, txt_len hc.gr⟩
      have stop9 : True := trivial
      focus
        have szE3 := E3.size; have szE2 := E2.size; have szE1 := E1.size; have szE0 := E0.size; refine W_seq ?_; refine W_seq ?_; refine W_region rfl ?_; refine Wo rfl (opv_fieldAddr Tryz.underlying75 rfl rfl Tryz.sizeOf3 rfl) ?_
        refine Wo (v := .int _ _) rfl (opv_load Tryz.isAgg3 rfl (hB3.cell rfl)) ?_; refine Wo_nil ?_; refine W_block ?_; refine W_seq ?_; refine W_seq ?_; refine W_region rfl ?_; refine Wo rfl (opv_eql rfl rfl) ?_
        refine Wo rfl (opv_assign (v := .bool _) rfl) ?_; refine Wo_nil ?_; refine W_cond_dec rfl (fun h1 => ?_) (fun h1 => ?_); refine W_skip ?_; refine W_cond_dec rfl (fun h2 => ?_) (fun h2 => ?_); refine W_seq ?_; refine W_region rfl ?_
        refine Wo_buildSlice (ps := [(0, .string _), (1, .string _), (2, .string _), (3, .string _), (4, .string _)]) (cs := [_, _, _, _, _]) rfl Tryz.underlying82 Tryz.sizeOf9 Tryz.zeroValue9 rfl rfl rfl rfl ?_; rintro b3 w4 hb5 E4 hB4
        have hlb3 := hB4.lt; have hG := grownBy_ext hG E4; have hr := hr.ext E4; have hs4 := E4.size; refine Wo rfl (opv_move (v := .pointer _) rfl) ?_
        refine Wo_call rfl (opc2 (a := .pointer _) (b := .int _ _) Tryz.call46 rfl rfl) (pick_ok _ _ (by assumption) (by omega)) ?_; rintro _ w5 ⟨y1, rfl, E5, hr1, hy1⟩; (try dsimp only at hy1); have hlhr1 := hr1.lt; have Ehr1 := hr1.old
        have hB1 := (hB1.ext E4).grown E5 (by simp only [ne_eq, Option.some.injEq]; omega); have hB2 := (hB2.ext E4).grown E5 (by simp only [ne_eq, Option.some.injEq]; omega)
        have hB3 := (hB3.ext E4).grown E5 (by simp only [ne_eq, Option.some.injEq]; omega); have hO := (hO.ext E4).grown E5 (by omega); have hB4 := hB4.grown E5 (by simp only [ne_eq, Option.some.injEq]; omega)
        have hG := grownBy_trans hG E5; have hs5 := E5.size; refine Wo rfl (opv_indexAddr Tryz.underlying82 Tryz.sizeOf9 rfl rfl (by omega)) ?_
        refine Wo_tbl 0 Tryz.isAgg9 rfl rfl hB4 (by repeat (first | exact trivial | refine And.intro ⟨_, rfl, by decide⟩ ?_)) (by simp only [List.length_cons, List.length_nil]; omega) ?_; intro s1 hs1
        refine Wo rfl (opv_fieldAddr Tryz.underlying75 rfl rfl Tryz.sizeOf9 rfl) ?_; refine Wo_st (v := .string _) rfl Tryz.sizeOf9 rfl rfl rfl hB3 (by simp) (by omega) Ehr1 ?_; rintro w6 E6 hB3 K1 hz1; simp only [List.set] at hB3
        have hr1 := hr1.wrote E6 (K1 _ (by omega)) hz1; have hB1 := hB1.of_heap (K1 _ (by omega)); have hB2 := hB2.of_heap (K1 _ (by omega)); have hO := hO.wrote K1 (by omega); have hB4 := hB4.of_heap (K1 _ (by omega))
        have hG := grownBy_wrote hG Ehr1 E6 K1 hz1 (by first | exact .inr rfl | omega); refine Wo_nil ?_; refine W_seq ?_; refine W_region rfl ?_; refine Wo rfl (opv_fieldAddr Tryz.underlying28 rfl rfl Tryz.sizeOf22 rfl) ?_
        refine Wo (v := u1) rfl (opv_load Tryz.isAgg22 rfl (hB1.cell rfl)) ?_; refine Wo rfl (opv_len Tryz.underlying22 rfl (OwnedB.read hO)) ?_; refine Wo rfl (opv_gtr rfl rfl) ?_
        refine Wo_split_dec rfl (opv_move (v := .bool _) rfl) (fun h3 => ?_) (fun h3 => ?_); refine Wo rfl (opv_move (v := .pointer _) rfl) ?_
        refine Wo_call rfl (opc2 (a := .pointer _) (b := .int _ _) Tryz.call46 rfl rfl) (pick_ok _ _ (by assumption) (by omega)) ?_; rintro _ w7 ⟨y2, rfl, E7, hr2, hy2⟩; (try dsimp only at hy2); have hlhr2 := hr2.lt; have Ehr2 := hr2.old
        have hB3 := hB3.grown E7 (by simp only [ne_eq, Option.some.injEq]; omega); have hB1 := hB1.grown E7 (by simp only [ne_eq, Option.some.injEq]; omega); have hB2 := hB2.grown E7 (by simp only [ne_eq, Option.some.injEq]; omega)
        have hO := hO.grown E7 (by omega); have hB4 := hB4.grown E7 (by simp only [ne_eq, Option.some.injEq]; omega); have hG := grownBy_trans hG E7; have hs6 := E7.size; refine Wo rfl (opv_eql rfl rfl) ?_
        refine Wo rfl (opv_pick_t (v := .bool _) rfl rfl) ?_; refine Wo_nil ?_; refine W_cond_dec rfl (fun h4 => ?_) (fun h4 => ?_); refine W_seq ?_; refine W_region rfl ?_
        refine Wo rfl (opv_fieldAddr Tryz.underlying28 rfl rfl Tryz.sizeOf22 rfl) ?_; refine Wo (v := u1) rfl (opv_load Tryz.isAgg22 rfl (hB1.cell rfl)) ?_
        refine Wo_call rfl (opc2 (a := u1) (b := .int _ _) Tryz.call84 rfl rfl) (c1 _ _ ((OwnedB.read hO))) ?_; rintro u3 w8 ⟨E8, hO1⟩; have hr2 := hr2.ext E8; have hG := grownBy_ext hG E8; have hs7 := E8.size
        refine Wo rfl (opv_assign (v := u3) rfl) ?_; refine Wo_nil ?_; refine W_seq ?_; refine W_region rfl ?_; refine Wo rfl (opv_move (v := u3) rfl) ?_; refine Wo rfl (opv_len Tryz.underlying58 rfl (Owned.read hO1)) ?_
        refine Wo rfl (opv_gtr rfl rfl) ?_; refine Wo_split_dec rfl (opv_move (v := .bool _) rfl) (fun h5 => ?_) (fun h5 => ?_); refine Wo rfl (opv_fieldAddr Tryz.underlying28 rfl rfl Tryz.sizeOf22 rfl) ?_
        refine Wo (v := u1) rfl (opv_load Tryz.isAgg22 rfl ((hB1.ext E8).cell rfl)) ?_; refine Wo_call rfl (opc1 (a := u1) Tryz.call21 rfl) (c2 _ _ ((Mono.mono E8 (OwnedB.read hO)))) ?_; rintro _ w9 ⟨rfl, E9⟩; have hr2 := hr2.ext E9
        have hG := grownBy_ext hG E9; have hs8 := E9.size; refine Wo rfl (opv_pick_t (v := .bool _) rfl rfl) ?_; refine Wo_nil ?_; refine W_cond_true rfl ?_; rotate_left; refine Wo_skip rfl ?_; refine Wo_skip rfl ?_; refine Wo_skip rfl ?_
        refine Wo rfl (opv_pick_f (v := .bool _) rfl rfl) ?_; refine Wo_nil ?_; refine W_cond_false rfl ?_; refine W_skip ?_; refine W_seq ?_; refine W_seq ?_; refine W_region rfl ?_; refine Wo rfl (opv_move (v := .pointer _) rfl) ?_
        refine Wo_call rfl (opc2 (a := .pointer _) (b := .int _ _) Tryz.call64 rfl rfl) (odd_ok _ _ (by assumption) (by omega) (by omega)) ?_; rintro _ w9 ⟨y3, rfl, E9, hr3, hy3⟩; (try dsimp only at hy3); have hlhr3 := hr3.lt
        have Ehr3 := hr3.old; have hB3 := (hB3.ext E8).grown E9 (by simp only [ne_eq, Option.some.injEq]; omega); have hB1 := (hB1.ext E8).grown E9 (by simp only [ne_eq, Option.some.injEq]; omega)
        have hB2 := (hB2.ext E8).grown E9 (by simp only [ne_eq, Option.some.injEq]; omega); have hO := (hO.ext E8).grown E9 (by omega); have hB4 := (hB4.ext E8).grown E9 (by simp only [ne_eq, Option.some.injEq]; omega)
        have hO1 := hO1.toB.grown E9 (by omega); have hG := grownBy_trans hG E9; have hs8 := E9.size; refine Wo_nil ?_; refine W_cond rfl (fun h6 => ?_) (fun h6 => ?_); refine W_region rfl ?_
        refine Wo rfl (opv_fieldAddr Tryz.underlying75 rfl rfl Tryz.sizeOf9 rfl) ?_; refine Wo (v := .string _) rfl (opv_load Tryz.isAgg9 rfl (hB3.cell rfl)) ?_; refine Wo rfl (opv_add_str rfl rfl (by simp <;> omega)) ?_
        refine Wo rfl (opv_fieldAddr Tryz.underlying75 rfl rfl Tryz.sizeOf9 rfl) ?_; refine Wo_st (v := .string _) rfl Tryz.sizeOf9 rfl rfl rfl hB3 (by simp) (by omega) Ehr3 ?_; rintro w10 E10 hB3 K2 hz2; simp only [List.set] at hB3
        have hr3 := hr3.wrote E10 (K2 _ (by omega)) hz2; have hB1 := hB1.of_heap (K2 _ (by omega)); have hB2 := hB2.of_heap (K2 _ (by omega)); have hO := hO.wrote K2 (by omega); have hB4 := hB4.of_heap (K2 _ (by omega))
        have hO1 := hO1.wrote K2 (by omega); have hG := grownBy_wrote hG Ehr3 E10 K2 hz2 (by first | exact .inr rfl | omega); refine Wo_nil ?_; refine W_seq ?_; refine W_region rfl ?_
        refine Wo (v := .agg _) rfl (opv_load3 Tryz.isAgg75 Tryz.sizeOf75 rfl hB3) ?_; refine Wo_st3 rfl Tryz.sizeOf75 rfl rfl (by first | rfl | assumption) (by first | rfl | assumption) (by first | rfl | assumption) hB2 (by omega) E10 ?_
        rintro w11 E11 hB2 K3 hz3; have hB3 := hB3.of_heap (K3 _ (by omega)); have hr3 := hr3.wrote E11 (K3 _ (by omega)) hz3; have hB1 := hB1.of_heap (K3 _ (by omega)); have hO := hO.wrote K3 (by omega)
        have hB4 := hB4.of_heap (K3 _ (by omega)); have hO1 := hO1.wrote K3 (by omega); have hG := grownBy_wrote hG E10 E11 K3 hz3 (by first | exact .inr rfl | omega); refine Wo_nil ?_; refine W_ret ?_; rotate_left; refine W_skip ?_
        refine W_seq ?_; refine W_region rfl ?_; refine Wo (v := .agg _) rfl (opv_load3 Tryz.isAgg75 Tryz.sizeOf75 rfl hB3) ?_
        refine Wo_st3 rfl Tryz.sizeOf75 rfl rfl (by first | rfl | assumption) (by first | rfl | assumption) (by first | rfl | assumption) hB2 (by omega) Ehr3 ?_; rintro w10 E10 hB2 K2 hz2; have hr3 := hr3.wrote E10 (K2 _ (by omega)) hz2
        have hB3 := hB3.of_heap (K2 _ (by omega)); have hB1 := hB1.of_heap (K2 _ (by omega)); have hO := hO.wrote K2 (by omega); have hB4 := hB4.of_heap (K2 _ (by omega)); have hO1 := hO1.wrote K2 (by omega)
        have hG := grownBy_wrote hG Ehr3 E10 K2 hz2 (by first | exact .inr rfl | omega); refine Wo_nil ?_; refine W_ret ?_; rotate_left; refine W_skip ?_; refine W_seq ?_; refine W_seq ?_; refine W_region rfl ?_
        refine Wo rfl (opv_move (v := .pointer _) rfl) ?_; refine Wo_call rfl (opc2 (a := .pointer _) (b := .int _ _) Tryz.call64 rfl rfl) (odd_ok _ _ (by assumption) (by omega) (by omega)) ?_; rintro _ w8 ⟨y3, rfl, E8, hr3, hy3⟩
        (try dsimp only at hy3); have hlhr3 := hr3.lt; have Ehr3 := hr3.old; have hB3 := hB3.grown E8 (by simp only [ne_eq, Option.some.injEq]; omega); have hB1 := hB1.grown E8 (by simp only [ne_eq, Option.some.injEq]; omega)
        have hB2 := hB2.grown E8 (by simp only [ne_eq, Option.some.injEq]; omega); have hO := hO.grown E8 (by omega); have hB4 := hB4.grown E8 (by simp only [ne_eq, Option.some.injEq]; omega); have hG := grownBy_trans hG E8
        have hs7 := E8.size; refine Wo_nil ?_; refine W_cond rfl (fun h5 => ?_) (fun h5 => ?_); refine W_region rfl ?_; refine Wo rfl (opv_fieldAddr Tryz.underlying75 rfl rfl Tryz.sizeOf9 rfl) ?_
        refine Wo (v := .string _) rfl (opv_load Tryz.isAgg9 rfl (hB3.cell rfl)) ?_; refine Wo rfl (opv_add_str rfl rfl (by simp <;> omega)) ?_; refine Wo rfl (opv_fieldAddr Tryz.underlying75 rfl rfl Tryz.sizeOf9 rfl) ?_
        refine Wo_st (v := .string _) rfl Tryz.sizeOf9 rfl rfl rfl hB3 (by simp) (by omega) Ehr3 ?_; rintro w9 E9 hB3 K2 hz2; simp only [List.set] at hB3; have hr3 := hr3.wrote E9 (K2 _ (by omega)) hz2
        have hB1 := hB1.of_heap (K2 _ (by omega)); have hB2 := hB2.of_heap (K2 _ (by omega)); have hO := hO.wrote K2 (by omega); have hB4 := hB4.of_heap (K2 _ (by omega))
        have hG := grownBy_wrote hG Ehr3 E9 K2 hz2 (by first | exact .inr rfl | omega); refine Wo_nil ?_; refine W_seq ?_; refine W_region rfl ?_; refine Wo (v := .agg _) rfl (opv_load3 Tryz.isAgg75 Tryz.sizeOf75 rfl hB3) ?_
        refine Wo_st3 rfl Tryz.sizeOf75 rfl rfl (by first | rfl | assumption) (by first | rfl | assumption) (by first | rfl | assumption) hB2 (by omega) E9 ?_; rintro w10 E10 hB2 K3 hz3; have hB3 := hB3.of_heap (K3 _ (by omega))
        have hr3 := hr3.wrote E10 (K3 _ (by omega)) hz3; have hB1 := hB1.of_heap (K3 _ (by omega)); have hO := hO.wrote K3 (by omega); have hB4 := hB4.of_heap (K3 _ (by omega))
        have hG := grownBy_wrote hG E9 E10 K3 hz3 (by first | exact .inr rfl | omega); refine Wo_nil ?_; refine W_ret ?_; rotate_left; refine W_skip ?_; refine W_seq ?_; refine W_region rfl ?_
        refine Wo (v := .agg _) rfl (opv_load3 Tryz.isAgg75 Tryz.sizeOf75 rfl hB3) ?_; refine Wo_st3 rfl Tryz.sizeOf75 rfl rfl (by first | rfl | assumption) (by first | rfl | assumption) (by first | rfl | assumption) hB2 (by omega) Ehr3 ?_
        rintro w9 E9 hB2 K2 hz2; have hr3 := hr3.wrote E9 (K2 _ (by omega)) hz2; have hB3 := hB3.of_heap (K2 _ (by omega)); have hB1 := hB1.of_heap (K2 _ (by omega)); have hO := hO.wrote K2 (by omega)
        have hB4 := hB4.of_heap (K2 _ (by omega)); have hG := grownBy_wrote hG Ehr3 E9 K2 hz2 (by first | exact .inr rfl | omega); refine Wo_nil ?_; refine W_ret ?_; rotate_left; (exfalso; omega); contradiction; refine W_region rfl ?_
        refine Wo rfl (opv_eql rfl rfl) ?_; refine Wo rfl (opv_assign (v := .bool _) rfl) ?_; refine Wo_nil ?_; refine W_cond_dec rfl (fun h2 => ?_) (fun h2 => ?_); refine W_seq ?_; refine W_region rfl ?_
        refine Wo_buildSlice (ps := [(0, .string _), (1, .string _), (2, .string _), (3, .string _), (4, .string _)]) (cs := [_, _, _, _, _]) rfl Tryz.underlying82 Tryz.sizeOf9 Tryz.zeroValue9 rfl rfl rfl rfl ?_; rintro b3 w4 hb5 E4 hB4
        have hlb3 := hB4.lt; have hG := grownBy_ext hG E4; have hr := hr.ext E4; have hs4 := E4.size; refine Wo rfl (opv_move (v := .pointer _) rfl) ?_
        refine Wo_call rfl (opc2 (a := .pointer _) (b := .int _ _) Tryz.call46 rfl rfl) (pick_ok _ _ (by assumption) (by omega)) ?_; rintro _ w5 ⟨y1, rfl, E5, hr1, hy1⟩; (try dsimp only at hy1); have hlhr1 := hr1.lt; have Ehr1 := hr1.old
        have hB1 := (hB1.ext E4).grown E5 (by simp only [ne_eq, Option.some.injEq]; omega); have hB2 := (hB2.ext E4).grown E5 (by simp only [ne_eq, Option.some.injEq]; omega)
        have hB3 := (hB3.ext E4).grown E5 (by simp only [ne_eq, Option.some.injEq]; omega); have hO := (hO.ext E4).grown E5 (by omega); have hB4 := hB4.grown E5 (by simp only [ne_eq, Option.some.injEq]; omega)
        have hG := grownBy_trans hG E5; have hs5 := E5.size; refine Wo rfl (opv_indexAddr Tryz.underlying82 Tryz.sizeOf9 rfl rfl (by omega)) ?_
        refine Wo_tbl 0 Tryz.isAgg9 rfl rfl hB4 (by repeat (first | exact trivial | refine And.intro ⟨_, rfl, by decide⟩ ?_)) (by simp only [List.length_cons, List.length_nil]; omega) ?_; intro s1 hs1
        refine Wo rfl (opv_fieldAddr Tryz.underlying75 rfl rfl Tryz.sizeOf9 rfl) ?_; refine Wo_st (v := .string _) rfl Tryz.sizeOf9 rfl rfl rfl hB3 (by simp) (by omega) Ehr1 ?_; rintro w6 E6 hB3 K1 hz1; simp only [List.set] at hB3
        have hr1 := hr1.wrote E6 (K1 _ (by omega)) hz1; have hB1 := hB1.of_heap (K1 _ (by omega)); have hB2 := hB2.of_heap (K1 _ (by omega)); have hO := hO.wrote K1 (by omega); have hB4 := hB4.of_heap (K1 _ (by omega))
        have hG := grownBy_wrote hG Ehr1 E6 K1 hz1 (by first | exact .inr rfl | omega); refine Wo_nil ?_; refine W_seq ?_; refine W_region rfl ?_; refine Wo rfl (opv_fieldAddr Tryz.underlying28 rfl rfl Tryz.sizeOf22 rfl) ?_
        refine Wo (v := u1) rfl (opv_load Tryz.isAgg22 rfl (hB1.cell rfl)) ?_; refine Wo rfl (opv_len Tryz.underlying22 rfl (OwnedB.read hO)) ?_; refine Wo rfl (opv_gtr rfl rfl) ?_
        refine Wo_split_dec rfl (opv_move (v := .bool _) rfl) (fun h3 => ?_) (fun h3 => ?_); refine Wo rfl (opv_move (v := .pointer _) rfl) ?_
        refine Wo_call rfl (opc2 (a := .pointer _) (b := .int _ _) Tryz.call46 rfl rfl) (pick_ok _ _ (by assumption) (by omega)) ?_; rintro _ w7 ⟨y2, rfl, E7, hr2, hy2⟩; (try dsimp only at hy2); have hlhr2 := hr2.lt; have Ehr2 := hr2.old
        have hB3 := hB3.grown E7 (by simp only [ne_eq, Option.some.injEq]; omega); have hB1 := hB1.grown E7 (by simp only [ne_eq, Option.some.injEq]; omega); have hB2 := hB2.grown E7 (by simp only [ne_eq, Option.some.injEq]; omega)
        have hO := hO.grown E7 (by omega); have hB4 := hB4.grown E7 (by simp only [ne_eq, Option.some.injEq]; omega); have hG := grownBy_trans hG E7; have hs6 := E7.size; refine Wo rfl (opv_eql rfl rfl) ?_
        refine Wo rfl (opv_pick_t (v := .bool _) rfl rfl) ?_; refine Wo_nil ?_; refine W_cond_dec rfl (fun h4 => ?_) (fun h4 => ?_); refine W_seq ?_; refine W_region rfl ?_
        refine Wo rfl (opv_fieldAddr Tryz.underlying28 rfl rfl Tryz.sizeOf22 rfl) ?_; refine Wo (v := u1) rfl (opv_load Tryz.isAgg22 rfl (hB1.cell rfl)) ?_
        refine Wo_call rfl (opc2 (a := u1) (b := .int _ _) Tryz.call84 rfl rfl) (c1 _ _ ((OwnedB.read hO))) ?_; rintro u3 w8 ⟨E8, hO1⟩; have hr2 := hr2.ext E8; have hG := grownBy_ext hG E8; have hs7 := E8.size
        refine Wo rfl (opv_assign (v := u3) rfl) ?_; refine Wo_nil ?_; refine W_seq ?_; refine W_region rfl ?_; refine Wo rfl (opv_move (v := u3) rfl) ?_; refine Wo rfl (opv_len Tryz.underlying58 rfl (Owned.read hO1)) ?_
        refine Wo rfl (opv_gtr rfl rfl) ?_; refine Wo_split_dec rfl (opv_move (v := .bool _) rfl) (fun h5 => ?_) (fun h5 => ?_); refine Wo rfl (opv_fieldAddr Tryz.underlying28 rfl rfl Tryz.sizeOf22 rfl) ?_
        refine Wo (v := u1) rfl (opv_load Tryz.isAgg22 rfl ((hB1.ext E8).cell rfl)) ?_; refine Wo_call rfl (opc1 (a := u1) Tryz.call21 rfl) (c2 _ _ ((Mono.mono E8 (OwnedB.read hO)))) ?_; rintro _ w9 ⟨rfl, E9⟩; have hr2 := hr2.ext E9
        have hG := grownBy_ext hG E9; have hs8 := E9.size; refine Wo rfl (opv_pick_t (v := .bool _) rfl rfl) ?_; refine Wo_nil ?_; refine W_cond_true rfl ?_; rotate_left; refine Wo_skip rfl ?_; refine Wo_skip rfl ?_; refine Wo_skip rfl ?_
        refine Wo rfl (opv_pick_f (v := .bool _) rfl rfl) ?_; refine Wo_nil ?_; refine W_cond_false rfl ?_; refine W_skip ?_; refine W_seq ?_; refine W_seq ?_; refine W_region rfl ?_; refine Wo rfl (opv_move (v := .pointer _) rfl) ?_
        refine Wo_call rfl (opc2 (a := .pointer _) (b := .int _ _) Tryz.call64 rfl rfl) (odd_ok _ _ (by assumption) (by omega) (by omega)) ?_; rintro _ w9 ⟨y3, rfl, E9, hr3, hy3⟩; (try dsimp only at hy3); have hlhr3 := hr3.lt
        have Ehr3 := hr3.old; have hB3 := (hB3.ext E8).grown E9 (by simp only [ne_eq, Option.some.injEq]; omega); have hB1 := (hB1.ext E8).grown E9 (by simp only [ne_eq, Option.some.injEq]; omega)
        have hB2 := (hB2.ext E8).grown E9 (by simp only [ne_eq, Option.some.injEq]; omega); have hO := (hO.ext E8).grown E9 (by omega); have hB4 := (hB4.ext E8).grown E9 (by simp only [ne_eq, Option.some.injEq]; omega)
        have hO1 := hO1.toB.grown E9 (by omega); have hG := grownBy_trans hG E9; have hs8 := E9.size; refine Wo_nil ?_; refine W_cond rfl (fun h6 => ?_) (fun h6 => ?_); refine W_region rfl ?_
        refine Wo rfl (opv_fieldAddr Tryz.underlying75 rfl rfl Tryz.sizeOf9 rfl) ?_; refine Wo (v := .string _) rfl (opv_load Tryz.isAgg9 rfl (hB3.cell rfl)) ?_; refine Wo rfl (opv_add_str rfl rfl (by simp <;> omega)) ?_
        refine Wo rfl (opv_fieldAddr Tryz.underlying75 rfl rfl Tryz.sizeOf9 rfl) ?_; refine Wo_st (v := .string _) rfl Tryz.sizeOf9 rfl rfl rfl hB3 (by simp) (by omega) Ehr3 ?_; rintro w10 E10 hB3 K2 hz2; simp only [List.set] at hB3
        have hr3 := hr3.wrote E10 (K2 _ (by omega)) hz2; have hB1 := hB1.of_heap (K2 _ (by omega)); have hB2 := hB2.of_heap (K2 _ (by omega)); have hO := hO.wrote K2 (by omega); have hB4 := hB4.of_heap (K2 _ (by omega))
        have hO1 := hO1.wrote K2 (by omega); have hG := grownBy_wrote hG Ehr3 E10 K2 hz2 (by first | exact .inr rfl | omega); refine Wo_nil ?_; refine W_seq ?_; refine W_region rfl ?_
        refine Wo (v := .agg _) rfl (opv_load3 Tryz.isAgg75 Tryz.sizeOf75 rfl hB3) ?_; refine Wo_st3 rfl Tryz.sizeOf75 rfl rfl (by first | rfl | assumption) (by first | rfl | assumption) (by first | rfl | assumption) hB2 (by omega) E10 ?_
        rintro w11 E11 hB2 K3 hz3; have hB3 := hB3.of_heap (K3 _ (by omega)); have hr3 := hr3.wrote E11 (K3 _ (by omega)) hz3; have hB1 := hB1.of_heap (K3 _ (by omega)); have hO := hO.wrote K3 (by omega)
        have hB4 := hB4.of_heap (K3 _ (by omega)); have hO1 := hO1.wrote K3 (by omega); have hG := grownBy_wrote hG E10 E11 K3 hz3 (by first | exact .inr rfl | omega); refine Wo_nil ?_; refine W_ret ?_; rotate_left; refine W_skip ?_
        refine W_seq ?_; refine W_region rfl ?_; refine Wo (v := .agg _) rfl (opv_load3 Tryz.isAgg75 Tryz.sizeOf75 rfl hB3) ?_
        refine Wo_st3 rfl Tryz.sizeOf75 rfl rfl (by first | rfl | assumption) (by first | rfl | assumption) (by first | rfl | assumption) hB2 (by omega) Ehr3 ?_; rintro w10 E10 hB2 K2 hz2; have hr3 := hr3.wrote E10 (K2 _ (by omega)) hz2
        have hB3 := hB3.of_heap (K2 _ (by omega)); have hB1 := hB1.of_heap (K2 _ (by omega)); have hO := hO.wrote K2 (by omega); have hB4 := hB4.of_heap (K2 _ (by omega)); have hO1 := hO1.wrote K2 (by omega)
        have hG := grownBy_wrote hG Ehr3 E10 K2 hz2 (by first | exact .inr rfl | omega); refine Wo_nil ?_; refine W_ret ?_; rotate_left; refine W_skip ?_; refine W_seq ?_; refine W_seq ?_; refine W_region rfl ?_
        refine Wo rfl (opv_move (v := .pointer _) rfl) ?_; refine Wo_call rfl (opc2 (a := .pointer _) (b := .int _ _) Tryz.call64 rfl rfl) (odd_ok _ _ (by assumption) (by omega) (by omega)) ?_; rintro _ w8 ⟨y3, rfl, E8, hr3, hy3⟩
        (try dsimp only at hy3); have hlhr3 := hr3.lt; have Ehr3 := hr3.old; have hB3 := hB3.grown E8 (by simp only [ne_eq, Option.some.injEq]; omega); have hB1 := hB1.grown E8 (by simp only [ne_eq, Option.some.injEq]; omega)
        have hB2 := hB2.grown E8 (by simp only [ne_eq, Option.some.injEq]; omega); have hO := hO.grown E8 (by omega); have hB4 := hB4.grown E8 (by simp only [ne_eq, Option.some.injEq]; omega); have hG := grownBy_trans hG E8
        have hs7 := E8.size; refine Wo_nil ?_; refine W_cond rfl (fun h5 => ?_) (fun h5 => ?_); refine W_region rfl ?_; refine Wo rfl (opv_fieldAddr Tryz.underlying75 rfl rfl Tryz.sizeOf9 rfl) ?_
        refine Wo (v := .string _) rfl (opv_load Tryz.isAgg9 rfl (hB3.cell rfl)) ?_; refine Wo rfl (opv_add_str rfl rfl (by simp <;> omega)) ?_; refine Wo rfl (opv_fieldAddr Tryz.underlying75 rfl rfl Tryz.sizeOf9 rfl) ?_
        refine Wo_st (v := .string _) rfl Tryz.sizeOf9 rfl rfl rfl hB3 (by simp) (by omega) Ehr3 ?_; rintro w9 E9 hB3 K2 hz2; simp only [List.set] at hB3; have hr3 := hr3.wrote E9 (K2 _ (by omega)) hz2
        have hB1 := hB1.of_heap (K2 _ (by omega)); have hB2 := hB2.of_heap (K2 _ (by omega)); have hO := hO.wrote K2 (by omega); have hB4 := hB4.of_heap (K2 _ (by omega))
        have hG := grownBy_wrote hG Ehr3 E9 K2 hz2 (by first | exact .inr rfl | omega); refine Wo_nil ?_; refine W_seq ?_; refine W_region rfl ?_; refine Wo (v := .agg _) rfl (opv_load3 Tryz.isAgg75 Tryz.sizeOf75 rfl hB3) ?_
        refine Wo_st3 rfl Tryz.sizeOf75 rfl rfl (by first | rfl | assumption) (by first | rfl | assumption) (by first | rfl | assumption) hB2 (by omega) E9 ?_; rintro w10 E10 hB2 K3 hz3; have hB3 := hB3.of_heap (K3 _ (by omega))
        have hr3 := hr3.wrote E10 (K3 _ (by omega)) hz3; have hB1 := hB1.of_heap (K3 _ (by omega)); have hO := hO.wrote K3 (by omega); have hB4 := hB4.of_heap (K3 _ (by omega))
        have hG := grownBy_wrote hG E9 E10 K3 hz3 (by first | exact .inr rfl | omega); refine Wo_nil ?_; refine W_ret ?_; rotate_left; refine W_skip ?_; refine W_seq ?_; refine W_region rfl ?_
        refine Wo (v := .agg _) rfl (opv_load3 Tryz.isAgg75 Tryz.sizeOf75 rfl hB3) ?_; refine Wo_st3 rfl Tryz.sizeOf75 rfl rfl (by first | rfl | assumption) (by first | rfl | assumption) (by first | rfl | assumption) hB2 (by omega) Ehr3 ?_
        rintro w9 E9 hB2 K2 hz2; have hr3 := hr3.wrote E9 (K2 _ (by omega)) hz2; have hB3 := hB3.of_heap (K2 _ (by omega)); have hB1 := hB1.of_heap (K2 _ (by omega)); have hO := hO.wrote K2 (by omega)
        have hB4 := hB4.of_heap (K2 _ (by omega)); have hG := grownBy_wrote hG Ehr3 E9 K2 hz2 (by first | exact .inr rfl | omega); refine Wo_nil ?_; refine W_ret ?_; rotate_left; (exfalso; omega); refine W_seq ?_; refine W_region rfl ?_
        refine Wo rfl (opv_eql rfl rfl) ?_; refine Wo rfl (opv_assign (v := .bool _) rfl) ?_; refine Wo_nil ?_; refine W_cond_dec rfl (fun h3 => ?_) (fun h3 => ?_); refine W_region rfl ?_; refine Wo rfl (opv_move (v := .pointer _) rfl) ?_
        refine Wo rfl (opv_fieldAddr Tryz.underlying28 rfl rfl Tryz.sizeOf22 rfl) ?_; refine Wo (v := u1) rfl (opv_load Tryz.isAgg22 rfl (hB1.cell rfl)) ?_; refine Wo rfl (opv_len Tryz.underlying22 rfl (OwnedB.read hO)) ?_
        refine Wo rfl (opv_max rfl rfl) ?_; refine Wo_call rfl (opc2 (a := .pointer _) (b := .int _ _) Tryz.call46 rfl rfl) (pick_ok _ _ (by assumption) (by omega)) ?_; rintro _ w4 ⟨y1, rfl, E4, hr1, hy1⟩; (try dsimp only at hy1)
        have hlhr1 := hr1.lt; have Ehr1 := hr1.old; have hG := grownBy_trans hG E4; have hB1 := hB1.grown E4 (by simp only [ne_eq, Option.some.injEq]; omega); have hB2 := hB2.grown E4 (by simp only [ne_eq, Option.some.injEq]; omega)
        have hB3 := hB3.grown E4 (by simp only [ne_eq, Option.some.injEq]; omega); have hO := hO.grown E4 (by omega); have hs4 := E4.size; refine Wo rfl (opv_fieldAddr Tryz.underlying75 rfl rfl Tryz.sizeOf3 rfl) ?_
        refine Wo_st (v := .int _ _) rfl Tryz.sizeOf3 rfl rfl rfl hB3 (by simp) (by omega) Ehr1 ?_; rintro w5 E5 hB3 K1 hz1; simp only [List.set] at hB3; have hr1 := hr1.wrote E5 (K1 _ (by omega)) hz1
        have hG := grownBy_wrote hG Ehr1 E5 K1 hz1 (by first | exact .inr rfl | omega); have hB1 := hB1.of_heap (K1 _ (by omega)); have hB2 := hB2.of_heap (K1 _ (by omega)); have hO := hO.wrote K1 (by omega); refine Wo_nil ?_
        refine W_seq ?_; refine W_seq ?_; refine W_region rfl ?_; refine Wo rfl (opv_move (v := .pointer _) rfl) ?_
        refine Wo_call rfl (opc2 (a := .pointer _) (b := .int _ _) Tryz.call64 rfl rfl) (odd_ok _ _ (by assumption) (by omega) (by omega)) ?_; rintro _ w6 ⟨y2, rfl, E6, hr2, hy2⟩; (try dsimp only at hy2); have hlhr2 := hr2.lt
        have Ehr2 := hr2.old; have hB3 := hB3.grown E6 (by simp only [ne_eq, Option.some.injEq]; omega); have hG := grownBy_trans hG E6; have hB1 := hB1.grown E6 (by simp only [ne_eq, Option.some.injEq]; omega)
        have hB2 := hB2.grown E6 (by simp only [ne_eq, Option.some.injEq]; omega); have hO := hO.grown E6 (by omega); have hs5 := E6.size; refine Wo_nil ?_; refine W_cond rfl (fun h4 => ?_) (fun h4 => ?_); refine W_region rfl ?_
        refine Wo rfl (opv_fieldAddr Tryz.underlying75 rfl rfl Tryz.sizeOf9 rfl) ?_; refine Wo (v := .string _) rfl (opv_load Tryz.isAgg9 rfl (hB3.cell rfl)) ?_; refine Wo rfl (opv_add_str rfl rfl (by simp <;> omega)) ?_
        refine Wo rfl (opv_fieldAddr Tryz.underlying75 rfl rfl Tryz.sizeOf9 rfl) ?_; refine Wo_st (v := .string _) rfl Tryz.sizeOf9 rfl rfl rfl hB3 (by simp) (by omega) Ehr2 ?_; rintro w7 E7 hB3 K2 hz2; simp only [List.set] at hB3
        have hr2 := hr2.wrote E7 (K2 _ (by omega)) hz2; have hG := grownBy_wrote hG Ehr2 E7 K2 hz2 (by first | exact .inr rfl | omega); have hB1 := hB1.of_heap (K2 _ (by omega)); have hB2 := hB2.of_heap (K2 _ (by omega))
        have hO := hO.wrote K2 (by omega); refine Wo_nil ?_; refine W_seq ?_; refine W_region rfl ?_; refine Wo (v := .agg _) rfl (opv_load3 Tryz.isAgg75 Tryz.sizeOf75 rfl hB3) ?_
        refine Wo_st3 rfl Tryz.sizeOf75 rfl rfl (by first | rfl | assumption) (by first | rfl | assumption) (by first | rfl | assumption) hB2 (by omega) E7 ?_; rintro w8 E8 hB2 K3 hz3; have hB3 := hB3.of_heap (K3 _ (by omega))
        have hr2 := hr2.wrote E8 (K3 _ (by omega)) hz3; have hG := grownBy_wrote hG E7 E8 K3 hz3 (by first | exact .inr rfl | omega); have hB1 := hB1.of_heap (K3 _ (by omega)); have hO := hO.wrote K3 (by omega); refine Wo_nil ?_
        refine W_ret ?_; rotate_left; refine W_skip ?_; refine W_seq ?_; refine W_region rfl ?_; refine Wo (v := .agg _) rfl (opv_load3 Tryz.isAgg75 Tryz.sizeOf75 rfl hB3) ?_
        refine Wo_st3 rfl Tryz.sizeOf75 rfl rfl (by first | rfl | assumption) (by first | rfl | assumption) (by first | rfl | assumption) hB2 (by omega) Ehr2 ?_; rintro w7 E7 hB2 K2 hz2; have hr2 := hr2.wrote E7 (K2 _ (by omega)) hz2
        have hB3 := hB3.of_heap (K2 _ (by omega)); have hG := grownBy_wrote hG Ehr2 E7 K2 hz2 (by first | exact .inr rfl | omega); have hB1 := hB1.of_heap (K2 _ (by omega)); have hO := hO.wrote K2 (by omega); refine Wo_nil ?_
        refine W_ret ?_; rotate_left; refine W_skip ?_; refine W_seq ?_; refine W_seq ?_; refine W_region rfl ?_; refine Wo rfl (opv_move (v := .pointer _) rfl) ?_
        refine Wo_call rfl (opc2 (a := .pointer _) (b := .int _ _) Tryz.call64 rfl rfl) (odd_ok _ _ (by assumption) (by omega) (by omega)) ?_; rintro _ w4 ⟨y1, rfl, E4, hr1, hy1⟩; (try dsimp only at hy1); have hlhr1 := hr1.lt
        have Ehr1 := hr1.old; have hG := grownBy_trans hG E4; have hB1 := hB1.grown E4 (by simp only [ne_eq, Option.some.injEq]; omega); have hB2 := hB2.grown E4 (by simp only [ne_eq, Option.some.injEq]; omega)
        have hB3 := hB3.grown E4 (by simp only [ne_eq, Option.some.injEq]; omega); have hO := hO.grown E4 (by omega); have hs4 := E4.size; refine Wo_nil ?_; refine W_cond rfl (fun h4 => ?_) (fun h4 => ?_); refine W_region rfl ?_
        refine Wo rfl (opv_fieldAddr Tryz.underlying75 rfl rfl Tryz.sizeOf9 rfl) ?_; refine Wo (v := .string _) rfl (opv_load Tryz.isAgg9 rfl (hB3.cell rfl)) ?_; refine Wo rfl (opv_add_str rfl rfl (by simp <;> omega)) ?_
        refine Wo rfl (opv_fieldAddr Tryz.underlying75 rfl rfl Tryz.sizeOf9 rfl) ?_; refine Wo_st (v := .string _) rfl Tryz.sizeOf9 rfl rfl rfl hB3 (by simp) (by omega) Ehr1 ?_; rintro w5 E5 hB3 K1 hz1; simp only [List.set] at hB3
        have hr1 := hr1.wrote E5 (K1 _ (by omega)) hz1; have hG := grownBy_wrote hG Ehr1 E5 K1 hz1 (by first | exact .inr rfl | omega); have hB1 := hB1.of_heap (K1 _ (by omega)); have hB2 := hB2.of_heap (K1 _ (by omega))
        have hO := hO.wrote K1 (by omega); refine Wo_nil ?_; refine W_seq ?_; refine W_region rfl ?_; refine Wo (v := .agg _) rfl (opv_load3 Tryz.isAgg75 Tryz.sizeOf75 rfl hB3) ?_
        refine Wo_st3 rfl Tryz.sizeOf75 rfl rfl (by first | rfl | assumption) (by first | rfl | assumption) (by first | rfl | assumption) hB2 (by omega) E5 ?_; rintro w6 E6 hB2 K2 hz2; have hB3 := hB3.of_heap (K2 _ (by omega))
        have hr1 := hr1.wrote E6 (K2 _ (by omega)) hz2; have hG := grownBy_wrote hG E5 E6 K2 hz2 (by first | exact .inr rfl | omega); have hB1 := hB1.of_heap (K2 _ (by omega)); have hO := hO.wrote K2 (by omega); refine Wo_nil ?_
        refine W_ret ?_; rotate_left; refine W_skip ?_; refine W_seq ?_; refine W_region rfl ?_; refine Wo (v := .agg _) rfl (opv_load3 Tryz.isAgg75 Tryz.sizeOf75 rfl hB3) ?_
        refine Wo_st3 rfl Tryz.sizeOf75 rfl rfl (by first | rfl | assumption) (by first | rfl | assumption) (by first | rfl | assumption) hB2 (by omega) Ehr1 ?_; rintro w5 E5 hB2 K1 hz1; have hr1 := hr1.wrote E5 (K1 _ (by omega)) hz1
        have hG := grownBy_wrote hG Ehr1 E5 K1 hz1 (by first | exact .inr rfl | omega); have hB1 := hB1.of_heap (K1 _ (by omega)); have hB3 := hB3.of_heap (K1 _ (by omega)); have hO := hO.wrote K1 (by omega); refine Wo_nil ?_
        refine W_ret ?_; rotate_left
      · clear stop9
        obtain ⟨lb, lc, rfl, _⟩ := hO1.lit (by omega)
        focus
          have szE9 := E9.size; have szE8 := E8.size; have szEhr2 := Ehr2.size; have szE6 := E6.size; have szEhr1 := Ehr1.size; have szE4 := E4.size; have szE3 := E3.size; have szE2 := E2.size; have szE1 := E1.size; have szE0 := E0.size
          refine W_held (fun _ => True) mixed rfl (by kernel_rfl) ?_; intro w10 E10 K2 hz2; have hr2 := hr2.ext E10; have hG := grownBy_ext hG E10; have hs9 := E10.size
          refine Wh_take 0 rfl (by kernel_rfl) (by kernel_rfl) rfl (fun _ _ => opv_fieldAddr Tryz.underlying28 rfl rfl Tryz.sizeOf22 rfl) trivial ?_
          refine Wh_take 2 rfl (by kernel_rfl) (by kernel_rfl) rfl (fun _ _ => opv_move (v := .slice _ _ _) rfl) trivial ?_; refine Wh_take 3 rfl (by kernel_rfl) (by kernel_rfl) rfl (fun _ _ => opv_move (v := .pointer _) rfl) trivial ?_
          refine Wh_take 4 rfl (by kernel_rfl) (by kernel_rfl) rfl (fun _ _ => opv_move (v := .slice _ _ _) rfl) trivial ?_
          refine Wh_take 5 rfl (by kernel_rfl) (by kernel_rfl) rfl (fun _ _ => opv_len Tryz.underlying58 rfl (Owned.read hO1)) trivial ?_; refine Wh_all (rs := [1, 6]) (by kernel_rfl) rfl ?_; refine WhAll_cons rfl ?_ ?_
          refine Wo (v := u1) rfl (opv_load Tryz.isAgg22 rfl ((hB1.ext ((E8.trans E9).trans E10)).cell rfl)) ?_; refine Wo_nil ?_; refine ⟨trivial, ?_⟩; refine Wh_all (rs := [6]) (by kernel_rfl) rfl ?_; refine WhAll_cons rfl ?_ ?_
          refine Wo_call rfl (opc2 (a := .pointer _) (b := .int _ _) Tryz.call46 rfl rfl) (pick_ok _ _ (by assumption) (by omega)) ?_; rintro _ w11 ⟨y3, rfl, E11, hr3, hy3⟩; (try dsimp only at hy3); have hlhr3 := hr3.lt; have Ehr3 := hr3.old
          have hB3 := (hB3.ext ((E8.trans E9).trans E10)).grown E11 (by simp only [ne_eq, Option.some.injEq]; omega); have hB1 := (hB1.ext ((E8.trans E9).trans E10)).grown E11 (by simp only [ne_eq, Option.some.injEq]; omega)
          have hB2 := (hB2.ext ((E8.trans E9).trans E10)).grown E11 (by simp only [ne_eq, Option.some.injEq]; omega); have hO := (hO.ext ((E8.trans E9).trans E10)).grown E11 (by omega)
          have hB4 := (hB4.ext ((E8.trans E9).trans E10)).grown E11 (by simp only [ne_eq, Option.some.injEq]; omega); have hO1 := (hO1.toB.ext (E9.trans E10)).grown E11 (by omega); have hG := grownBy_trans hG E11; have hs10 := E11.size
          refine Wo_nil ?_; refine ⟨trivial, ?_⟩; refine Wh_take 7 rfl (by kernel_rfl) (by kernel_rfl) rfl (fun _ _ => opv_indexAddr Tryz.underlying58 Tryz.sizeOf3 rfl rfl (by omega)) trivial ?_
          refine Wh_all (rs := [8]) (by kernel_rfl) rfl ?_; refine WhAll_cons rfl ?_ ?_; refine Wo_ldAt Tryz.isAgg3 rfl rfl (OwnedB.read hO1) (by first | omega | (simp <;> omega)) ?_; rintro _ rfl; refine Wo_nil ?_; refine ⟨trivial, ?_⟩
          refine Wh_all (rs := [9]) (by kernel_rfl) rfl ?_; refine WhAll_cons rfl ?_ ?_; refine Wo_call rfl (opc2 (a := u1) (b := .int _ _) Tryz.call32 rfl rfl) (c3 _ _ _ _ ((OwnedB.read hO))) ?_; rintro u3 w12 ⟨x1, E12, hO2, hy4⟩
          have hr3 := hr3.ext E12; have hG := grownBy_ext hG E12; have hs11 := E12.size; refine Wo_nil ?_; refine ⟨trivial, ?_⟩; refine Wh_all (rs := [10]) (by kernel_rfl) rfl ?_; refine WhAll_cons rfl ?_ ?_
          refine Wo_call rfl (opc1 (a := u3) Tryz.call38 rfl) (c4 _ _ _ ((Owned.read hO2)) (by assumption)) ?_; rintro _ w13 ⟨E13, y4, rfl, hy5⟩; have hr3 := hr3.ext E13; have hG := grownBy_ext hG E13; have hs12 := E13.size; refine Wo_nil ?_
          refine ⟨trivial, ?_⟩; refine Wh_take 11 rfl (by kernel_rfl) (by kernel_rfl) rfl (fun _ _ => opv_fieldAddr Tryz.underlying75 rfl rfl Tryz.sizeOf9 rfl) trivial ?_; refine Wh_all (rs := [12]) (by kernel_rfl) rfl ?_
          refine WhAll_cons rfl ?_ ?_; refine Wo_st (v := .string _) rfl Tryz.sizeOf9 rfl rfl rfl (hB3.ext (E12.trans E13)) (by simp) (by omega) ((Ehr3.trans E12).trans E13) ?_; rintro w14 E14 hB3 K3 hz3; simp only [List.set] at hB3
          have hB1 := (hB1.ext (E12.trans E13)).of_heap (K3 _ (by omega)); have hB2 := (hB2.ext (E12.trans E13)).of_heap (K3 _ (by omega)); have hO := (hO.ext (E12.trans E13)).wrote K3 (by omega)
          have hB4 := (hB4.ext (E12.trans E13)).of_heap (K3 _ (by omega)); have hO1 := (hO1.ext (E12.trans E13)).wrote K3 (by omega); have hO2 := (hO2.toB.ext E13).wrote K3 (by omega); have hr3 := hr3.wrote E14 (K3 _ (by omega)) hz3
          have hG := grownBy_wrote hG ((Ehr3.trans E12).trans E13) E14 K3 hz3 (by first | exact .inr rfl | omega); refine Wo_nil ?_; refine ⟨trivial, ?_⟩; refine Wh_done (by kernel_rfl) ?_; refine W_seq ?_; refine W_seq ?_
          refine W_region rfl ?_; refine Wo rfl (opv_move (v := .pointer _) rfl) ?_; refine Wo_call rfl (opc2 (a := .pointer _) (b := .int _ _) Tryz.call64 rfl rfl) (odd_ok _ _ (by assumption) (by omega) (by omega)) ?_
          rintro _ w15 ⟨y5, rfl, E15, hr4, hy6⟩; (try dsimp only at hy6); have hlhr4 := hr4.lt; have Ehr4 := hr4.old; have hB3 := hB3.grown E15 (by simp only [ne_eq, Option.some.injEq]; omega)
          have hB1 := hB1.grown E15 (by simp only [ne_eq, Option.some.injEq]; omega); have hB2 := hB2.grown E15 (by simp only [ne_eq, Option.some.injEq]; omega); have hO := hO.grown E15 (by omega)
          have hB4 := hB4.grown E15 (by simp only [ne_eq, Option.some.injEq]; omega); have hO1 := hO1.grown E15 (by omega); have hO2 := hO2.grown E15 (by omega); have hG := grownBy_trans hG E15; have hs13 := E15.size; refine Wo_nil ?_
          refine W_cond rfl (fun h6 => ?_) (fun h6 => ?_); refine W_region rfl ?_; refine Wo rfl (opv_fieldAddr Tryz.underlying75 rfl rfl Tryz.sizeOf9 rfl) ?_; refine Wo (v := .string _) rfl (opv_load Tryz.isAgg9 rfl (hB3.cell rfl)) ?_
          refine Wo rfl (opv_add_str rfl rfl (by simp <;> omega)) ?_; refine Wo rfl (opv_fieldAddr Tryz.underlying75 rfl rfl Tryz.sizeOf9 rfl) ?_; refine Wo_st (v := .string _) rfl Tryz.sizeOf9 rfl rfl rfl hB3 (by simp) (by omega) Ehr4 ?_
          rintro w16 E16 hB3 K4 hz4; simp only [List.set] at hB3; have hr4 := hr4.wrote E16 (K4 _ (by omega)) hz4; have hB1 := hB1.of_heap (K4 _ (by omega)); have hB2 := hB2.of_heap (K4 _ (by omega)); have hO := hO.wrote K4 (by omega)
          have hB4 := hB4.of_heap (K4 _ (by omega)); have hO1 := hO1.wrote K4 (by omega); have hO2 := hO2.wrote K4 (by omega); have hG := grownBy_wrote hG Ehr4 E16 K4 hz4 (by first | exact .inr rfl | omega); refine Wo_nil ?_; refine W_seq ?_
          refine W_region rfl ?_; refine Wo (v := .agg _) rfl (opv_load3 Tryz.isAgg75 Tryz.sizeOf75 rfl hB3) ?_
          refine Wo_st3 rfl Tryz.sizeOf75 rfl rfl (by first | rfl | assumption) (by first | rfl | assumption) (by first | rfl | assumption) hB2 (by omega) E16 ?_; rintro w17 E17 hB2 K5 hz5; have hB3 := hB3.of_heap (K5 _ (by omega))
          have hr4 := hr4.wrote E17 (K5 _ (by omega)) hz5; have hB1 := hB1.of_heap (K5 _ (by omega)); have hO := hO.wrote K5 (by omega); have hB4 := hB4.of_heap (K5 _ (by omega)); have hO1 := hO1.wrote K5 (by omega)
          have hO2 := hO2.wrote K5 (by omega); have hG := grownBy_wrote hG E16 E17 K5 hz5 (by first | exact .inr rfl | omega); refine Wo_nil ?_; refine W_ret ?_; rotate_left; refine W_skip ?_; refine W_seq ?_; refine W_region rfl ?_
          refine Wo (v := .agg _) rfl (opv_load3 Tryz.isAgg75 Tryz.sizeOf75 rfl hB3) ?_; refine Wo_st3 rfl Tryz.sizeOf75 rfl rfl (by first | rfl | assumption) (by first | rfl | assumption) (by first | rfl | assumption) hB2 (by omega) Ehr4 ?_
          rintro w16 E16 hB2 K4 hz4; have hr4 := hr4.wrote E16 (K4 _ (by omega)) hz4; have hB3 := hB3.of_heap (K4 _ (by omega)); have hB1 := hB1.of_heap (K4 _ (by omega)); have hO := hO.wrote K4 (by omega)
          have hB4 := hB4.of_heap (K4 _ (by omega)); have hO1 := hO1.wrote K4 (by omega); have hO2 := hO2.wrote K4 (by omega); have hG := grownBy_wrote hG Ehr4 E16 K4 hz4 (by first | exact .inr rfl | omega); refine Wo_nil ?_; refine W_ret ?_
          rotate_left; exact WhAll_nil; exact WhAll_nil; exact WhAll_nil; exact WhAll_nil; exact WhAll_nil; refine WhAll_cons rfl ?_ ?_
          refine Wo_call rfl (opc2 (a := .pointer _) (b := .int _ _) Tryz.call46 rfl rfl) (pick_ok _ _ (by assumption) (by omega)) ?_; rintro _ w11 ⟨y3, rfl, E11, hr3, hy3⟩; (try dsimp only at hy3); have hlhr3 := hr3.lt; have Ehr3 := hr3.old
          have hB3 := (hB3.ext ((E8.trans E9).trans E10)).grown E11 (by simp only [ne_eq, Option.some.injEq]; omega); have hB1 := (hB1.ext ((E8.trans E9).trans E10)).grown E11 (by simp only [ne_eq, Option.some.injEq]; omega)
          have hB2 := (hB2.ext ((E8.trans E9).trans E10)).grown E11 (by simp only [ne_eq, Option.some.injEq]; omega); have hO := (hO.ext ((E8.trans E9).trans E10)).grown E11 (by omega)
          have hB4 := (hB4.ext ((E8.trans E9).trans E10)).grown E11 (by simp only [ne_eq, Option.some.injEq]; omega); have hO1 := (hO1.toB.ext (E9.trans E10)).grown E11 (by omega); have hG := grownBy_trans hG E11; have hs10 := E11.size
          refine Wo_nil ?_; refine ⟨trivial, ?_⟩; refine Wh_take 7 rfl (by kernel_rfl) (by kernel_rfl) rfl (fun _ _ => opv_indexAddr Tryz.underlying58 Tryz.sizeOf3 rfl rfl (by omega)) trivial ?_
          refine Wh_all (rs := [1, 8]) (by kernel_rfl) rfl ?_; refine WhAll_cons rfl ?_ ?_; refine Wo (v := u1) rfl (opv_load Tryz.isAgg22 rfl (hB1.cell rfl)) ?_; refine Wo_nil ?_; refine ⟨trivial, ?_⟩
          refine Wh_all (rs := [8]) (by kernel_rfl) rfl ?_; refine WhAll_cons rfl ?_ ?_; refine Wo_ldAt Tryz.isAgg3 rfl rfl (OwnedB.read hO1) (by first | omega | (simp <;> omega)) ?_; rintro _ rfl; refine Wo_nil ?_; refine ⟨trivial, ?_⟩
          refine Wh_all (rs := [9]) (by kernel_rfl) rfl ?_; refine WhAll_cons rfl ?_ ?_; refine Wo_call rfl (opc2 (a := u1) (b := .int _ _) Tryz.call32 rfl rfl) (c3 _ _ _ _ ((OwnedB.read hO))) ?_; rintro u3 w12 ⟨x1, E12, hO2, hy4⟩
          have hr3 := hr3.ext E12; have hG := grownBy_ext hG E12; have hs11 := E12.size; refine Wo_nil ?_; refine ⟨trivial, ?_⟩; refine Wh_all (rs := [10]) (by kernel_rfl) rfl ?_; refine WhAll_cons rfl ?_ ?_
          refine Wo_call rfl (opc1 (a := u3) Tryz.call38 rfl) (c4 _ _ _ ((Owned.read hO2)) (by assumption)) ?_; rintro _ w13 ⟨E13, y4, rfl, hy5⟩; have hr3 := hr3.ext E13; have hG := grownBy_ext hG E13; have hs12 := E13.size; refine Wo_nil ?_
          refine ⟨trivial, ?_⟩; refine Wh_take 11 rfl (by kernel_rfl) (by kernel_rfl) rfl (fun _ _ => opv_fieldAddr Tryz.underlying75 rfl rfl Tryz.sizeOf9 rfl) trivial ?_; refine Wh_all (rs := [12]) (by kernel_rfl) rfl ?_
          refine WhAll_cons rfl ?_ ?_; refine Wo_st (v := .string _) rfl Tryz.sizeOf9 rfl rfl rfl (hB3.ext (E12.trans E13)) (by simp) (by omega) ((Ehr3.trans E12).trans E13) ?_; rintro w14 E14 hB3 K3 hz3; simp only [List.set] at hB3
          have hB1 := (hB1.ext (E12.trans E13)).of_heap (K3 _ (by omega)); have hB2 := (hB2.ext (E12.trans E13)).of_heap (K3 _ (by omega)); have hO := (hO.ext (E12.trans E13)).wrote K3 (by omega)
          have hB4 := (hB4.ext (E12.trans E13)).of_heap (K3 _ (by omega)); have hO1 := (hO1.ext (E12.trans E13)).wrote K3 (by omega); have hO2 := (hO2.toB.ext E13).wrote K3 (by omega); have hr3 := hr3.wrote E14 (K3 _ (by omega)) hz3
          have hG := grownBy_wrote hG ((Ehr3.trans E12).trans E13) E14 K3 hz3 (by first | exact .inr rfl | omega); refine Wo_nil ?_; refine ⟨trivial, ?_⟩; refine Wh_done (by kernel_rfl) ?_; refine W_seq ?_; refine W_seq ?_
          refine W_region rfl ?_; refine Wo rfl (opv_move (v := .pointer _) rfl) ?_; refine Wo_call rfl (opc2 (a := .pointer _) (b := .int _ _) Tryz.call64 rfl rfl) (odd_ok _ _ (by assumption) (by omega) (by omega)) ?_
          rintro _ w15 ⟨y5, rfl, E15, hr4, hy6⟩; (try dsimp only at hy6); have hlhr4 := hr4.lt; have Ehr4 := hr4.old; have hB3 := hB3.grown E15 (by simp only [ne_eq, Option.some.injEq]; omega)
          have hB1 := hB1.grown E15 (by simp only [ne_eq, Option.some.injEq]; omega); have hB2 := hB2.grown E15 (by simp only [ne_eq, Option.some.injEq]; omega); have hO := hO.grown E15 (by omega)
          have hB4 := hB4.grown E15 (by simp only [ne_eq, Option.some.injEq]; omega); have hO1 := hO1.grown E15 (by omega); have hO2 := hO2.grown E15 (by omega); have hG := grownBy_trans hG E15; have hs13 := E15.size; refine Wo_nil ?_
          refine W_cond rfl (fun h6 => ?_) (fun h6 => ?_); refine W_region rfl ?_; refine Wo rfl (opv_fieldAddr Tryz.underlying75 rfl rfl Tryz.sizeOf9 rfl) ?_; refine Wo (v := .string _) rfl (opv_load Tryz.isAgg9 rfl (hB3.cell rfl)) ?_
          refine Wo rfl (opv_add_str rfl rfl (by simp <;> omega)) ?_; refine Wo rfl (opv_fieldAddr Tryz.underlying75 rfl rfl Tryz.sizeOf9 rfl) ?_; refine Wo_st (v := .string _) rfl Tryz.sizeOf9 rfl rfl rfl hB3 (by simp) (by omega) Ehr4 ?_
          rintro w16 E16 hB3 K4 hz4; simp only [List.set] at hB3; have hr4 := hr4.wrote E16 (K4 _ (by omega)) hz4; have hB1 := hB1.of_heap (K4 _ (by omega)); have hB2 := hB2.of_heap (K4 _ (by omega)); have hO := hO.wrote K4 (by omega)
          have hB4 := hB4.of_heap (K4 _ (by omega)); have hO1 := hO1.wrote K4 (by omega); have hO2 := hO2.wrote K4 (by omega); have hG := grownBy_wrote hG Ehr4 E16 K4 hz4 (by first | exact .inr rfl | omega); refine Wo_nil ?_; refine W_seq ?_
          refine W_region rfl ?_; refine Wo (v := .agg _) rfl (opv_load3 Tryz.isAgg75 Tryz.sizeOf75 rfl hB3) ?_
          refine Wo_st3 rfl Tryz.sizeOf75 rfl rfl (by first | rfl | assumption) (by first | rfl | assumption) (by first | rfl | assumption) hB2 (by omega) E16 ?_; rintro w17 E17 hB2 K5 hz5; have hB3 := hB3.of_heap (K5 _ (by omega))
          have hr4 := hr4.wrote E17 (K5 _ (by omega)) hz5; have hB1 := hB1.of_heap (K5 _ (by omega)); have hO := hO.wrote K5 (by omega); have hB4 := hB4.of_heap (K5 _ (by omega)); have hO1 := hO1.wrote K5 (by omega)
          have hO2 := hO2.wrote K5 (by omega); have hG := grownBy_wrote hG E16 E17 K5 hz5 (by first | exact .inr rfl | omega); refine Wo_nil ?_; refine W_ret ?_; rotate_left; refine W_skip ?_; refine W_seq ?_; refine W_region rfl ?_
          refine Wo (v := .agg _) rfl (opv_load3 Tryz.isAgg75 Tryz.sizeOf75 rfl hB3) ?_; refine Wo_st3 rfl Tryz.sizeOf75 rfl rfl (by first | rfl | assumption) (by first | rfl | assumption) (by first | rfl | assumption) hB2 (by omega) Ehr4 ?_
          rintro w16 E16 hB2 K4 hz4; have hr4 := hr4.wrote E16 (K4 _ (by omega)) hz4; have hB3 := hB3.of_heap (K4 _ (by omega)); have hB1 := hB1.of_heap (K4 _ (by omega)); have hO := hO.wrote K4 (by omega)
          have hB4 := hB4.of_heap (K4 _ (by omega)); have hO1 := hO1.wrote K4 (by omega); have hO2 := hO2.wrote K4 (by omega); have hG := grownBy_wrote hG Ehr4 E16 K4 hz4 (by first | exact .inr rfl | omega); refine Wo_nil ?_; refine W_ret ?_
          rotate_left; exact WhAll_nil; exact WhAll_nil; exact WhAll_nil; exact WhAll_nil; refine WhAll_cons rfl ?_ ?_; refine Wo_ldAt Tryz.isAgg3 rfl rfl (OwnedB.read hO1) (by first | omega | (simp <;> omega)) ?_; rintro _ rfl
          refine Wo_nil ?_; refine ⟨trivial, ?_⟩; refine Wh_all (rs := [1]) (by kernel_rfl) rfl ?_; refine WhAll_cons rfl ?_ ?_; refine Wo (v := u1) rfl (opv_load Tryz.isAgg22 rfl (hB1.cell rfl)) ?_; refine Wo_nil ?_; refine ⟨trivial, ?_⟩
          refine Wh_all (rs := [9]) (by kernel_rfl) rfl ?_; refine WhAll_cons rfl ?_ ?_; refine Wo_call rfl (opc2 (a := u1) (b := .int _ _) Tryz.call32 rfl rfl) (c3 _ _ _ _ ((OwnedB.read hO))) ?_; rintro u3 w12 ⟨x1, E12, hO2, hy4⟩
          have hr3 := hr3.ext E12; have hG := grownBy_ext hG E12; have hs11 := E12.size; refine Wo_nil ?_; refine ⟨trivial, ?_⟩; refine Wh_all (rs := [10]) (by kernel_rfl) rfl ?_; refine WhAll_cons rfl ?_ ?_
          refine Wo_call rfl (opc1 (a := u3) Tryz.call38 rfl) (c4 _ _ _ ((Owned.read hO2)) (by assumption)) ?_; rintro _ w13 ⟨E13, y4, rfl, hy5⟩; have hr3 := hr3.ext E13; have hG := grownBy_ext hG E13; have hs12 := E13.size; refine Wo_nil ?_
          refine ⟨trivial, ?_⟩; refine Wh_take 11 rfl (by kernel_rfl) (by kernel_rfl) rfl (fun _ _ => opv_fieldAddr Tryz.underlying75 rfl rfl Tryz.sizeOf9 rfl) trivial ?_; refine Wh_all (rs := [12]) (by kernel_rfl) rfl ?_
          refine WhAll_cons rfl ?_ ?_; refine Wo_st (v := .string _) rfl Tryz.sizeOf9 rfl rfl rfl (hB3.ext (E12.trans E13)) (by simp) (by omega) ((Ehr3.trans E12).trans E13) ?_; rintro w14 E14 hB3 K3 hz3; simp only [List.set] at hB3
          have hB1 := (hB1.ext (E12.trans E13)).of_heap (K3 _ (by omega)); have hB2 := (hB2.ext (E12.trans E13)).of_heap (K3 _ (by omega)); have hO := (hO.ext (E12.trans E13)).wrote K3 (by omega)
          have hB4 := (hB4.ext (E12.trans E13)).of_heap (K3 _ (by omega)); have hO1 := (hO1.ext (E12.trans E13)).wrote K3 (by omega); have hO2 := (hO2.toB.ext E13).wrote K3 (by omega); have hr3 := hr3.wrote E14 (K3 _ (by omega)) hz3
          have hG := grownBy_wrote hG ((Ehr3.trans E12).trans E13) E14 K3 hz3 (by first | exact .inr rfl | omega); refine Wo_nil ?_; refine ⟨trivial, ?_⟩; refine Wh_done (by kernel_rfl) ?_; refine W_seq ?_; refine W_seq ?_
          refine W_region rfl ?_; refine Wo rfl (opv_move (v := .pointer _) rfl) ?_; refine Wo_call rfl (opc2 (a := .pointer _) (b := .int _ _) Tryz.call64 rfl rfl) (odd_ok _ _ (by assumption) (by omega) (by omega)) ?_
          rintro _ w15 ⟨y5, rfl, E15, hr4, hy6⟩; (try dsimp only at hy6); have hlhr4 := hr4.lt; have Ehr4 := hr4.old; have hB3 := hB3.grown E15 (by simp only [ne_eq, Option.some.injEq]; omega)
          have hB1 := hB1.grown E15 (by simp only [ne_eq, Option.some.injEq]; omega); have hB2 := hB2.grown E15 (by simp only [ne_eq, Option.some.injEq]; omega); have hO := hO.grown E15 (by omega)
          have hB4 := hB4.grown E15 (by simp only [ne_eq, Option.some.injEq]; omega); have hO1 := hO1.grown E15 (by omega); have hO2 := hO2.grown E15 (by omega); have hG := grownBy_trans hG E15; have hs13 := E15.size; refine Wo_nil ?_
          refine W_cond rfl (fun h6 => ?_) (fun h6 => ?_); refine W_region rfl ?_; refine Wo rfl (opv_fieldAddr Tryz.underlying75 rfl rfl Tryz.sizeOf9 rfl) ?_; refine Wo (v := .string _) rfl (opv_load Tryz.isAgg9 rfl (hB3.cell rfl)) ?_
          refine Wo rfl (opv_add_str rfl rfl (by simp <;> omega)) ?_; refine Wo rfl (opv_fieldAddr Tryz.underlying75 rfl rfl Tryz.sizeOf9 rfl) ?_; refine Wo_st (v := .string _) rfl Tryz.sizeOf9 rfl rfl rfl hB3 (by simp) (by omega) Ehr4 ?_
          rintro w16 E16 hB3 K4 hz4; simp only [List.set] at hB3; have hr4 := hr4.wrote E16 (K4 _ (by omega)) hz4; have hB1 := hB1.of_heap (K4 _ (by omega)); have hB2 := hB2.of_heap (K4 _ (by omega)); have hO := hO.wrote K4 (by omega)
          have hB4 := hB4.of_heap (K4 _ (by omega)); have hO1 := hO1.wrote K4 (by omega); have hO2 := hO2.wrote K4 (by omega); have hG := grownBy_wrote hG Ehr4 E16 K4 hz4 (by first | exact .inr rfl | omega); refine Wo_nil ?_; refine W_seq ?_
          refine W_region rfl ?_; refine Wo (v := .agg _) rfl (opv_load3 Tryz.isAgg75 Tryz.sizeOf75 rfl hB3) ?_
          refine Wo_st3 rfl Tryz.sizeOf75 rfl rfl (by first | rfl | assumption) (by first | rfl | assumption) (by first | rfl | assumption) hB2 (by omega) E16 ?_; rintro w17 E17 hB2 K5 hz5; have hB3 := hB3.of_heap (K5 _ (by omega))
          have hr4 := hr4.wrote E17 (K5 _ (by omega)) hz5; have hB1 := hB1.of_heap (K5 _ (by omega)); have hO := hO.wrote K5 (by omega); have hB4 := hB4.of_heap (K5 _ (by omega)); have hO1 := hO1.wrote K5 (by omega)
          have hO2 := hO2.wrote K5 (by omega); have hG := grownBy_wrote hG E16 E17 K5 hz5 (by first | exact .inr rfl | omega); refine Wo_nil ?_; refine W_ret ?_; rotate_left; refine W_skip ?_; refine W_seq ?_; refine W_region rfl ?_
          refine Wo (v := .agg _) rfl (opv_load3 Tryz.isAgg75 Tryz.sizeOf75 rfl hB3) ?_; refine Wo_st3 rfl Tryz.sizeOf75 rfl rfl (by first | rfl | assumption) (by first | rfl | assumption) (by first | rfl | assumption) hB2 (by omega) Ehr4 ?_
          rintro w16 E16 hB2 K4 hz4; have hr4 := hr4.wrote E16 (K4 _ (by omega)) hz4; have hB3 := hB3.of_heap (K4 _ (by omega)); have hB1 := hB1.of_heap (K4 _ (by omega)); have hO := hO.wrote K4 (by omega)
          have hB4 := hB4.of_heap (K4 _ (by omega)); have hO1 := hO1.wrote K4 (by omega); have hO2 := hO2.wrote K4 (by omega); have hG := grownBy_wrote hG Ehr4 E16 K4 hz4 (by first | exact .inr rfl | omega); refine Wo_nil ?_; refine W_ret ?_
          rotate_left; exact WhAll_nil; exact WhAll_nil; exact WhAll_nil; exact WhAll_nil; exact WhAll_nil; exact WhAll_nil
        all_goals
          refine ⟨b2, _, _, _, rfl, hB2, _, _, _, rfl, hG, ?_, ?_⟩
          · first | exact hr7.le (by omega) | exact hr6.le (by omega) | exact hr5.le (by omega) | exact hr4.le (by omega) | exact hr3.le (by omega) | exact hr2.le (by omega) | exact hr1.le (by omega) | exact hr.le (by omega)
          · unfold DrP; simp only [List.length_append, List.length_cons, List.length_nil]; omega
      · refine ⟨b2, _, _, _, rfl, hB2, _, _, _, rfl, hG, ?_, ?_⟩
        · first | exact hr7.le (by omega) | exact hr6.le (by omega) | exact hr5.le (by omega) | exact hr4.le (by omega) | exact hr3.le (by omega) | exact hr2.le (by omega) | exact hr1.le (by omega) | exact hr.le (by omega)
        · unfold DrP; simp only [List.length_append, List.length_cons, List.length_nil]; omega
      · refine ⟨b2, _, _, _, rfl, hB2, _, _, _, rfl, hG, ?_, ?_⟩
        · first | exact hr7.le (by omega) | exact hr6.le (by omega) | exact hr5.le (by omega) | exact hr4.le (by omega) | exact hr3.le (by omega) | exact hr2.le (by omega) | exact hr1.le (by omega) | exact hr.le (by omega)
        · unfold DrP; simp only [List.length_append, List.length_cons, List.length_nil]; omega
      · refine ⟨b2, _, _, _, rfl, hB2, _, _, _, rfl, hG, ?_, ?_⟩
        · first | exact hr7.le (by omega) | exact hr6.le (by omega) | exact hr5.le (by omega) | exact hr4.le (by omega) | exact hr3.le (by omega) | exact hr2.le (by omega) | exact hr1.le (by omega) | exact hr.le (by omega)
        · unfold DrP; simp only [List.length_append, List.length_cons, List.length_nil]; omega
      · refine ⟨b2, _, _, _, rfl, hB2, _, _, _, rfl, hG, ?_, ?_⟩
        · first | exact hr7.le (by omega) | exact hr6.le (by omega) | exact hr5.le (by omega) | exact hr4.le (by omega) | exact hr3.le (by omega) | exact hr2.le (by omega) | exact hr1.le (by omega) | exact hr.le (by omega)
        · unfold DrP; simp only [List.length_append, List.length_cons, List.length_nil]; omega
      · clear stop9
        obtain ⟨lb, lc, rfl, _⟩ := hO1.lit (by omega)
        focus
          have szE9 := E9.size; have szE8 := E8.size; have szEhr2 := Ehr2.size; have szE6 := E6.size; have szEhr1 := Ehr1.size; have szE4 := E4.size; have szE3 := E3.size; have szE2 := E2.size; have szE1 := E1.size; have szE0 := E0.size
          refine W_held (fun _ => True) mixed rfl (by kernel_rfl) ?_; intro w10 E10 K2 hz2; have hr2 := hr2.ext E10; have hG := grownBy_ext hG E10; have hs9 := E10.size
          refine Wh_take 0 rfl (by kernel_rfl) (by kernel_rfl) rfl (fun _ _ => opv_fieldAddr Tryz.underlying28 rfl rfl Tryz.sizeOf22 rfl) trivial ?_
          refine Wh_take 2 rfl (by kernel_rfl) (by kernel_rfl) rfl (fun _ _ => opv_move (v := .slice _ _ _) rfl) trivial ?_; refine Wh_take 3 rfl (by kernel_rfl) (by kernel_rfl) rfl (fun _ _ => opv_move (v := .pointer _) rfl) trivial ?_
          refine Wh_take 4 rfl (by kernel_rfl) (by kernel_rfl) rfl (fun _ _ => opv_move (v := .slice _ _ _) rfl) trivial ?_
          refine Wh_take 5 rfl (by kernel_rfl) (by kernel_rfl) rfl (fun _ _ => opv_len Tryz.underlying58 rfl (Owned.read hO1)) trivial ?_; refine Wh_all (rs := [1, 6]) (by kernel_rfl) rfl ?_; refine WhAll_cons rfl ?_ ?_
          refine Wo (v := u1) rfl (opv_load Tryz.isAgg22 rfl ((hB1.ext ((E8.trans E9).trans E10)).cell rfl)) ?_; refine Wo_nil ?_; refine ⟨trivial, ?_⟩; refine Wh_all (rs := [6]) (by kernel_rfl) rfl ?_; refine WhAll_cons rfl ?_ ?_
          refine Wo_call rfl (opc2 (a := .pointer _) (b := .int _ _) Tryz.call46 rfl rfl) (pick_ok _ _ (by assumption) (by omega)) ?_; rintro _ w11 ⟨y3, rfl, E11, hr3, hy3⟩; (try dsimp only at hy3); have hlhr3 := hr3.lt; have Ehr3 := hr3.old
          have hB3 := (hB3.ext ((E8.trans E9).trans E10)).grown E11 (by simp only [ne_eq, Option.some.injEq]; omega); have hB1 := (hB1.ext ((E8.trans E9).trans E10)).grown E11 (by simp only [ne_eq, Option.some.injEq]; omega)
          have hB2 := (hB2.ext ((E8.trans E9).trans E10)).grown E11 (by simp only [ne_eq, Option.some.injEq]; omega); have hO := (hO.ext ((E8.trans E9).trans E10)).grown E11 (by omega)
          have hB4 := (hB4.ext ((E8.trans E9).trans E10)).grown E11 (by simp only [ne_eq, Option.some.injEq]; omega); have hO1 := (hO1.toB.ext (E9.trans E10)).grown E11 (by omega); have hG := grownBy_trans hG E11; have hs10 := E11.size
          refine Wo_nil ?_; refine ⟨trivial, ?_⟩; refine Wh_take 7 rfl (by kernel_rfl) (by kernel_rfl) rfl (fun _ _ => opv_indexAddr Tryz.underlying58 Tryz.sizeOf3 rfl rfl (by omega)) trivial ?_
          refine Wh_all (rs := [8]) (by kernel_rfl) rfl ?_; refine WhAll_cons rfl ?_ ?_; refine Wo_ldAt Tryz.isAgg3 rfl rfl (OwnedB.read hO1) (by first | omega | (simp <;> omega)) ?_; rintro _ rfl; refine Wo_nil ?_; refine ⟨trivial, ?_⟩
          refine Wh_all (rs := [9]) (by kernel_rfl) rfl ?_; refine WhAll_cons rfl ?_ ?_; refine Wo_call rfl (opc2 (a := u1) (b := .int _ _) Tryz.call32 rfl rfl) (c3 _ _ _ _ ((OwnedB.read hO))) ?_; rintro u3 w12 ⟨x1, E12, hO2, hy4⟩
          have hr3 := hr3.ext E12; have hG := grownBy_ext hG E12; have hs11 := E12.size; refine Wo_nil ?_; refine ⟨trivial, ?_⟩; refine Wh_all (rs := [10]) (by kernel_rfl) rfl ?_; refine WhAll_cons rfl ?_ ?_
          refine Wo_call rfl (opc1 (a := u3) Tryz.call38 rfl) (c4 _ _ _ ((Owned.read hO2)) (by assumption)) ?_; rintro _ w13 ⟨E13, y4, rfl, hy5⟩; have hr3 := hr3.ext E13; have hG := grownBy_ext hG E13; have hs12 := E13.size; refine Wo_nil ?_
          refine ⟨trivial, ?_⟩; refine Wh_take 11 rfl (by kernel_rfl) (by kernel_rfl) rfl (fun _ _ => opv_fieldAddr Tryz.underlying75 rfl rfl Tryz.sizeOf9 rfl) trivial ?_; refine Wh_all (rs := [12]) (by kernel_rfl) rfl ?_
          refine WhAll_cons rfl ?_ ?_; refine Wo_st (v := .string _) rfl Tryz.sizeOf9 rfl rfl rfl (hB3.ext (E12.trans E13)) (by simp) (by omega) ((Ehr3.trans E12).trans E13) ?_; rintro w14 E14 hB3 K3 hz3; simp only [List.set] at hB3
          have hB1 := (hB1.ext (E12.trans E13)).of_heap (K3 _ (by omega)); have hB2 := (hB2.ext (E12.trans E13)).of_heap (K3 _ (by omega)); have hO := (hO.ext (E12.trans E13)).wrote K3 (by omega)
          have hB4 := (hB4.ext (E12.trans E13)).of_heap (K3 _ (by omega)); have hO1 := (hO1.ext (E12.trans E13)).wrote K3 (by omega); have hO2 := (hO2.toB.ext E13).wrote K3 (by omega); have hr3 := hr3.wrote E14 (K3 _ (by omega)) hz3
          have hG := grownBy_wrote hG ((Ehr3.trans E12).trans E13) E14 K3 hz3 (by first | exact .inr rfl | omega); refine Wo_nil ?_; refine ⟨trivial, ?_⟩; refine Wh_done (by kernel_rfl) ?_; refine W_seq ?_; refine W_seq ?_
          refine W_region rfl ?_; refine Wo rfl (opv_move (v := .pointer _) rfl) ?_; refine Wo_call rfl (opc2 (a := .pointer _) (b := .int _ _) Tryz.call64 rfl rfl) (odd_ok _ _ (by assumption) (by omega) (by omega)) ?_
          rintro _ w15 ⟨y5, rfl, E15, hr4, hy6⟩; (try dsimp only at hy6); have hlhr4 := hr4.lt; have Ehr4 := hr4.old; have hB3 := hB3.grown E15 (by simp only [ne_eq, Option.some.injEq]; omega)
          have hB1 := hB1.grown E15 (by simp only [ne_eq, Option.some.injEq]; omega); have hB2 := hB2.grown E15 (by simp only [ne_eq, Option.some.injEq]; omega); have hO := hO.grown E15 (by omega)
          have hB4 := hB4.grown E15 (by simp only [ne_eq, Option.some.injEq]; omega); have hO1 := hO1.grown E15 (by omega); have hO2 := hO2.grown E15 (by omega); have hG := grownBy_trans hG E15; have hs13 := E15.size; refine Wo_nil ?_
          refine W_cond rfl (fun h6 => ?_) (fun h6 => ?_); refine W_region rfl ?_; refine Wo rfl (opv_fieldAddr Tryz.underlying75 rfl rfl Tryz.sizeOf9 rfl) ?_; refine Wo (v := .string _) rfl (opv_load Tryz.isAgg9 rfl (hB3.cell rfl)) ?_
          refine Wo rfl (opv_add_str rfl rfl (by simp <;> omega)) ?_; refine Wo rfl (opv_fieldAddr Tryz.underlying75 rfl rfl Tryz.sizeOf9 rfl) ?_; refine Wo_st (v := .string _) rfl Tryz.sizeOf9 rfl rfl rfl hB3 (by simp) (by omega) Ehr4 ?_
          rintro w16 E16 hB3 K4 hz4; simp only [List.set] at hB3; have hr4 := hr4.wrote E16 (K4 _ (by omega)) hz4; have hB1 := hB1.of_heap (K4 _ (by omega)); have hB2 := hB2.of_heap (K4 _ (by omega)); have hO := hO.wrote K4 (by omega)
          have hB4 := hB4.of_heap (K4 _ (by omega)); have hO1 := hO1.wrote K4 (by omega); have hO2 := hO2.wrote K4 (by omega); have hG := grownBy_wrote hG Ehr4 E16 K4 hz4 (by first | exact .inr rfl | omega); refine Wo_nil ?_; refine W_seq ?_
          refine W_region rfl ?_; refine Wo (v := .agg _) rfl (opv_load3 Tryz.isAgg75 Tryz.sizeOf75 rfl hB3) ?_
          refine Wo_st3 rfl Tryz.sizeOf75 rfl rfl (by first | rfl | assumption) (by first | rfl | assumption) (by first | rfl | assumption) hB2 (by omega) E16 ?_; rintro w17 E17 hB2 K5 hz5; have hB3 := hB3.of_heap (K5 _ (by omega))
          have hr4 := hr4.wrote E17 (K5 _ (by omega)) hz5; have hB1 := hB1.of_heap (K5 _ (by omega)); have hO := hO.wrote K5 (by omega); have hB4 := hB4.of_heap (K5 _ (by omega)); have hO1 := hO1.wrote K5 (by omega)
          have hO2 := hO2.wrote K5 (by omega); have hG := grownBy_wrote hG E16 E17 K5 hz5 (by first | exact .inr rfl | omega); refine Wo_nil ?_; refine W_ret ?_; rotate_left; refine W_skip ?_; refine W_seq ?_; refine W_region rfl ?_
          refine Wo (v := .agg _) rfl (opv_load3 Tryz.isAgg75 Tryz.sizeOf75 rfl hB3) ?_; refine Wo_st3 rfl Tryz.sizeOf75 rfl rfl (by first | rfl | assumption) (by first | rfl | assumption) (by first | rfl | assumption) hB2 (by omega) Ehr4 ?_
          rintro w16 E16 hB2 K4 hz4; have hr4 := hr4.wrote E16 (K4 _ (by omega)) hz4; have hB3 := hB3.of_heap (K4 _ (by omega)); have hB1 := hB1.of_heap (K4 _ (by omega)); have hO := hO.wrote K4 (by omega)
          have hB4 := hB4.of_heap (K4 _ (by omega)); have hO1 := hO1.wrote K4 (by omega); have hO2 := hO2.wrote K4 (by omega); have hG := grownBy_wrote hG Ehr4 E16 K4 hz4 (by first | exact .inr rfl | omega); refine Wo_nil ?_; refine W_ret ?_
          rotate_left; exact WhAll_nil; exact WhAll_nil; exact WhAll_nil; exact WhAll_nil; exact WhAll_nil; refine WhAll_cons rfl ?_ ?_
          refine Wo_call rfl (opc2 (a := .pointer _) (b := .int _ _) Tryz.call46 rfl rfl) (pick_ok _ _ (by assumption) (by omega)) ?_; rintro _ w11 ⟨y3, rfl, E11, hr3, hy3⟩; (try dsimp only at hy3); have hlhr3 := hr3.lt; have Ehr3 := hr3.old
          have hB3 := (hB3.ext ((E8.trans E9).trans E10)).grown E11 (by simp only [ne_eq, Option.some.injEq]; omega); have hB1 := (hB1.ext ((E8.trans E9).trans E10)).grown E11 (by simp only [ne_eq, Option.some.injEq]; omega)
          have hB2 := (hB2.ext ((E8.trans E9).trans E10)).grown E11 (by simp only [ne_eq, Option.some.injEq]; omega); have hO := (hO.ext ((E8.trans E9).trans E10)).grown E11 (by omega)
          have hB4 := (hB4.ext ((E8.trans E9).trans E10)).grown E11 (by simp only [ne_eq, Option.some.injEq]; omega); have hO1 := (hO1.toB.ext (E9.trans E10)).grown E11 (by omega); have hG := grownBy_trans hG E11; have hs10 := E11.size
          refine Wo_nil ?_; refine ⟨trivial, ?_⟩; refine Wh_take 7 rfl (by kernel_rfl) (by kernel_rfl) rfl (fun _ _ => opv_indexAddr Tryz.underlying58 Tryz.sizeOf3 rfl rfl (by omega)) trivial ?_
          refine Wh_all (rs := [1, 8]) (by kernel_rfl) rfl ?_; refine WhAll_cons rfl ?_ ?_; refine Wo (v := u1) rfl (opv_load Tryz.isAgg22 rfl (hB1.cell rfl)) ?_; refine Wo_nil ?_; refine ⟨trivial, ?_⟩
          refine Wh_all (rs := [8]) (by kernel_rfl) rfl ?_; refine WhAll_cons rfl ?_ ?_; refine Wo_ldAt Tryz.isAgg3 rfl rfl (OwnedB.read hO1) (by first | omega | (simp <;> omega)) ?_; rintro _ rfl; refine Wo_nil ?_; refine ⟨trivial, ?_⟩
          refine Wh_all (rs := [9]) (by kernel_rfl) rfl ?_; refine WhAll_cons rfl ?_ ?_; refine Wo_call rfl (opc2 (a := u1) (b := .int _ _) Tryz.call32 rfl rfl) (c3 _ _ _ _ ((OwnedB.read hO))) ?_; rintro u3 w12 ⟨x1, E12, hO2, hy4⟩
          have hr3 := hr3.ext E12; have hG := grownBy_ext hG E12; have hs11 := E12.size; refine Wo_nil ?_; refine ⟨trivial, ?_⟩; refine Wh_all (rs := [10]) (by kernel_rfl) rfl ?_; refine WhAll_cons rfl ?_ ?_
          refine Wo_call rfl (opc1 (a := u3) Tryz.call38 rfl) (c4 _ _ _ ((Owned.read hO2)) (by assumption)) ?_; rintro _ w13 ⟨E13, y4, rfl, hy5⟩; have hr3 := hr3.ext E13; have hG := grownBy_ext hG E13; have hs12 := E13.size; refine Wo_nil ?_
          refine ⟨trivial, ?_⟩; refine Wh_take 11 rfl (by kernel_rfl) (by kernel_rfl) rfl (fun _ _ => opv_fieldAddr Tryz.underlying75 rfl rfl Tryz.sizeOf9 rfl) trivial ?_; refine Wh_all (rs := [12]) (by kernel_rfl) rfl ?_
          refine WhAll_cons rfl ?_ ?_; refine Wo_st (v := .string _) rfl Tryz.sizeOf9 rfl rfl rfl (hB3.ext (E12.trans E13)) (by simp) (by omega) ((Ehr3.trans E12).trans E13) ?_; rintro w14 E14 hB3 K3 hz3; simp only [List.set] at hB3
          have hB1 := (hB1.ext (E12.trans E13)).of_heap (K3 _ (by omega)); have hB2 := (hB2.ext (E12.trans E13)).of_heap (K3 _ (by omega)); have hO := (hO.ext (E12.trans E13)).wrote K3 (by omega)
          have hB4 := (hB4.ext (E12.trans E13)).of_heap (K3 _ (by omega)); have hO1 := (hO1.ext (E12.trans E13)).wrote K3 (by omega); have hO2 := (hO2.toB.ext E13).wrote K3 (by omega); have hr3 := hr3.wrote E14 (K3 _ (by omega)) hz3
          have hG := grownBy_wrote hG ((Ehr3.trans E12).trans E13) E14 K3 hz3 (by first | exact .inr rfl | omega); refine Wo_nil ?_; refine ⟨trivial, ?_⟩; refine Wh_done (by kernel_rfl) ?_; refine W_seq ?_; refine W_seq ?_
          refine W_region rfl ?_; refine Wo rfl (opv_move (v := .pointer _) rfl) ?_; refine Wo_call rfl (opc2 (a := .pointer _) (b := .int _ _) Tryz.call64 rfl rfl) (odd_ok _ _ (by assumption) (by omega) (by omega)) ?_
          rintro _ w15 ⟨y5, rfl, E15, hr4, hy6⟩; (try dsimp only at hy6); have hlhr4 := hr4.lt; have Ehr4 := hr4.old; have hB3 := hB3.grown E15 (by simp only [ne_eq, Option.some.injEq]; omega)
          have hB1 := hB1.grown E15 (by simp only [ne_eq, Option.some.injEq]; omega); have hB2 := hB2.grown E15 (by simp only [ne_eq, Option.some.injEq]; omega); have hO := hO.grown E15 (by omega)
          have hB4 := hB4.grown E15 (by simp only [ne_eq, Option.some.injEq]; omega); have hO1 := hO1.grown E15 (by omega); have hO2 := hO2.grown E15 (by omega); have hG := grownBy_trans hG E15; have hs13 := E15.size; refine Wo_nil ?_
          refine W_cond rfl (fun h6 => ?_) (fun h6 => ?_); refine W_region rfl ?_; refine Wo rfl (opv_fieldAddr Tryz.underlying75 rfl rfl Tryz.sizeOf9 rfl) ?_; refine Wo (v := .string _) rfl (opv_load Tryz.isAgg9 rfl (hB3.cell rfl)) ?_
          refine Wo rfl (opv_add_str rfl rfl (by simp <;> omega)) ?_; refine Wo rfl (opv_fieldAddr Tryz.underlying75 rfl rfl Tryz.sizeOf9 rfl) ?_; refine Wo_st (v := .string _) rfl Tryz.sizeOf9 rfl rfl rfl hB3 (by simp) (by omega) Ehr4 ?_
          rintro w16 E16 hB3 K4 hz4; simp only [List.set] at hB3; have hr4 := hr4.wrote E16 (K4 _ (by omega)) hz4; have hB1 := hB1.of_heap (K4 _ (by omega)); have hB2 := hB2.of_heap (K4 _ (by omega)); have hO := hO.wrote K4 (by omega)
          have hB4 := hB4.of_heap (K4 _ (by omega)); have hO1 := hO1.wrote K4 (by omega); have hO2 := hO2.wrote K4 (by omega); have hG := grownBy_wrote hG Ehr4 E16 K4 hz4 (by first | exact .inr rfl | omega); refine Wo_nil ?_; refine W_seq ?_
          refine W_region rfl ?_; refine Wo (v := .agg _) rfl (opv_load3 Tryz.isAgg75 Tryz.sizeOf75 rfl hB3) ?_
          refine Wo_st3 rfl Tryz.sizeOf75 rfl rfl (by first | rfl | assumption) (by first | rfl | assumption) (by first | rfl | assumption) hB2 (by omega) E16 ?_; rintro w17 E17 hB2 K5 hz5; have hB3 := hB3.of_heap (K5 _ (by omega))
          have hr4 := hr4.wrote E17 (K5 _ (by omega)) hz5; have hB1 := hB1.of_heap (K5 _ (by omega)); have hO := hO.wrote K5 (by omega); have hB4 := hB4.of_heap (K5 _ (by omega)); have hO1 := hO1.wrote K5 (by omega)
          have hO2 := hO2.wrote K5 (by omega); have hG := grownBy_wrote hG E16 E17 K5 hz5 (by first | exact .inr rfl | omega); refine Wo_nil ?_; refine W_ret ?_; rotate_left; refine W_skip ?_; refine W_seq ?_; refine W_region rfl ?_
          refine Wo (v := .agg _) rfl (opv_load3 Tryz.isAgg75 Tryz.sizeOf75 rfl hB3) ?_; refine Wo_st3 rfl Tryz.sizeOf75 rfl rfl (by first | rfl | assumption) (by first | rfl | assumption) (by first | rfl | assumption) hB2 (by omega) Ehr4 ?_
          rintro w16 E16 hB2 K4 hz4; have hr4 := hr4.wrote E16 (K4 _ (by omega)) hz4; have hB3 := hB3.of_heap (K4 _ (by omega)); have hB1 := hB1.of_heap (K4 _ (by omega)); have hO := hO.wrote K4 (by omega)
          have hB4 := hB4.of_heap (K4 _ (by omega)); have hO1 := hO1.wrote K4 (by omega); have hO2 := hO2.wrote K4 (by omega); have hG := grownBy_wrote hG Ehr4 E16 K4 hz4 (by first | exact .inr rfl | omega); refine Wo_nil ?_; refine W_ret ?_
          rotate_left; exact WhAll_nil; exact WhAll_nil; exact WhAll_nil; exact WhAll_nil; refine WhAll_cons rfl ?_ ?_; refine Wo_ldAt Tryz.isAgg3 rfl rfl (OwnedB.read hO1) (by first | omega | (simp <;> omega)) ?_; rintro _ rfl
          refine Wo_nil ?_; refine ⟨trivial, ?_⟩; refine Wh_all (rs := [1]) (by kernel_rfl) rfl ?_; refine WhAll_cons rfl ?_ ?_; refine Wo (v := u1) rfl (opv_load Tryz.isAgg22 rfl (hB1.cell rfl)) ?_; refine Wo_nil ?_; refine ⟨trivial, ?_⟩
          refine Wh_all (rs := [9]) (by kernel_rfl) rfl ?_; refine WhAll_cons rfl ?_ ?_; refine Wo_call rfl (opc2 (a := u1) (b := .int _ _) Tryz.call32 rfl rfl) (c3 _ _ _ _ ((OwnedB.read hO))) ?_; rintro u3 w12 ⟨x1, E12, hO2, hy4⟩
          have hr3 := hr3.ext E12; have hG := grownBy_ext hG E12; have hs11 := E12.size; refine Wo_nil ?_; refine ⟨trivial, ?_⟩; refine Wh_all (rs := [10]) (by kernel_rfl) rfl ?_; refine WhAll_cons rfl ?_ ?_
          refine Wo_call rfl (opc1 (a := u3) Tryz.call38 rfl) (c4 _ _ _ ((Owned.read hO2)) (by assumption)) ?_; rintro _ w13 ⟨E13, y4, rfl, hy5⟩; have hr3 := hr3.ext E13; have hG := grownBy_ext hG E13; have hs12 := E13.size; refine Wo_nil ?_
          refine ⟨trivial, ?_⟩; refine Wh_take 11 rfl (by kernel_rfl) (by kernel_rfl) rfl (fun _ _ => opv_fieldAddr Tryz.underlying75 rfl rfl Tryz.sizeOf9 rfl) trivial ?_; refine Wh_all (rs := [12]) (by kernel_rfl) rfl ?_
          refine WhAll_cons rfl ?_ ?_; refine Wo_st (v := .string _) rfl Tryz.sizeOf9 rfl rfl rfl (hB3.ext (E12.trans E13)) (by simp) (by omega) ((Ehr3.trans E12).trans E13) ?_; rintro w14 E14 hB3 K3 hz3; simp only [List.set] at hB3
          have hB1 := (hB1.ext (E12.trans E13)).of_heap (K3 _ (by omega)); have hB2 := (hB2.ext (E12.trans E13)).of_heap (K3 _ (by omega)); have hO := (hO.ext (E12.trans E13)).wrote K3 (by omega)
          have hB4 := (hB4.ext (E12.trans E13)).of_heap (K3 _ (by omega)); have hO1 := (hO1.ext (E12.trans E13)).wrote K3 (by omega); have hO2 := (hO2.toB.ext E13).wrote K3 (by omega); have hr3 := hr3.wrote E14 (K3 _ (by omega)) hz3
          have hG := grownBy_wrote hG ((Ehr3.trans E12).trans E13) E14 K3 hz3 (by first | exact .inr rfl | omega); refine Wo_nil ?_; refine ⟨trivial, ?_⟩; refine Wh_done (by kernel_rfl) ?_; refine W_seq ?_; refine W_seq ?_
          refine W_region rfl ?_; refine Wo rfl (opv_move (v := .pointer _) rfl) ?_; refine Wo_call rfl (opc2 (a := .pointer _) (b := .int _ _) Tryz.call64 rfl rfl) (odd_ok _ _ (by assumption) (by omega) (by omega)) ?_
          rintro _ w15 ⟨y5, rfl, E15, hr4, hy6⟩; (try dsimp only at hy6); have hlhr4 := hr4.lt; have Ehr4 := hr4.old; have hB3 := hB3.grown E15 (by simp only [ne_eq, Option.some.injEq]; omega)
          have hB1 := hB1.grown E15 (by simp only [ne_eq, Option.some.injEq]; omega); have hB2 := hB2.grown E15 (by simp only [ne_eq, Option.some.injEq]; omega); have hO := hO.grown E15 (by omega)
          have hB4 := hB4.grown E15 (by simp only [ne_eq, Option.some.injEq]; omega); have hO1 := hO1.grown E15 (by omega); have hO2 := hO2.grown E15 (by omega); have hG := grownBy_trans hG E15; have hs13 := E15.size; refine Wo_nil ?_
          refine W_cond rfl (fun h6 => ?_) (fun h6 => ?_); refine W_region rfl ?_; refine Wo rfl (opv_fieldAddr Tryz.underlying75 rfl rfl Tryz.sizeOf9 rfl) ?_; refine Wo (v := .string _) rfl (opv_load Tryz.isAgg9 rfl (hB3.cell rfl)) ?_
          refine Wo rfl (opv_add_str rfl rfl (by simp <;> omega)) ?_; refine Wo rfl (opv_fieldAddr Tryz.underlying75 rfl rfl Tryz.sizeOf9 rfl) ?_; refine Wo_st (v := .string _) rfl Tryz.sizeOf9 rfl rfl rfl hB3 (by simp) (by omega) Ehr4 ?_
          rintro w16 E16 hB3 K4 hz4; simp only [List.set] at hB3; have hr4 := hr4.wrote E16 (K4 _ (by omega)) hz4; have hB1 := hB1.of_heap (K4 _ (by omega)); have hB2 := hB2.of_heap (K4 _ (by omega)); have hO := hO.wrote K4 (by omega)
          have hB4 := hB4.of_heap (K4 _ (by omega)); have hO1 := hO1.wrote K4 (by omega); have hO2 := hO2.wrote K4 (by omega); have hG := grownBy_wrote hG Ehr4 E16 K4 hz4 (by first | exact .inr rfl | omega); refine Wo_nil ?_; refine W_seq ?_
          refine W_region rfl ?_; refine Wo (v := .agg _) rfl (opv_load3 Tryz.isAgg75 Tryz.sizeOf75 rfl hB3) ?_
          refine Wo_st3 rfl Tryz.sizeOf75 rfl rfl (by first | rfl | assumption) (by first | rfl | assumption) (by first | rfl | assumption) hB2 (by omega) E16 ?_; rintro w17 E17 hB2 K5 hz5; have hB3 := hB3.of_heap (K5 _ (by omega))
          have hr4 := hr4.wrote E17 (K5 _ (by omega)) hz5; have hB1 := hB1.of_heap (K5 _ (by omega)); have hO := hO.wrote K5 (by omega); have hB4 := hB4.of_heap (K5 _ (by omega)); have hO1 := hO1.wrote K5 (by omega)
          have hO2 := hO2.wrote K5 (by omega); have hG := grownBy_wrote hG E16 E17 K5 hz5 (by first | exact .inr rfl | omega); refine Wo_nil ?_; refine W_ret ?_; rotate_left; refine W_skip ?_; refine W_seq ?_; refine W_region rfl ?_
          refine Wo (v := .agg _) rfl (opv_load3 Tryz.isAgg75 Tryz.sizeOf75 rfl hB3) ?_; refine Wo_st3 rfl Tryz.sizeOf75 rfl rfl (by first | rfl | assumption) (by first | rfl | assumption) (by first | rfl | assumption) hB2 (by omega) Ehr4 ?_
          rintro w16 E16 hB2 K4 hz4; have hr4 := hr4.wrote E16 (K4 _ (by omega)) hz4; have hB3 := hB3.of_heap (K4 _ (by omega)); have hB1 := hB1.of_heap (K4 _ (by omega)); have hO := hO.wrote K4 (by omega)
          have hB4 := hB4.of_heap (K4 _ (by omega)); have hO1 := hO1.wrote K4 (by omega); have hO2 := hO2.wrote K4 (by omega); have hG := grownBy_wrote hG Ehr4 E16 K4 hz4 (by first | exact .inr rfl | omega); refine Wo_nil ?_; refine W_ret ?_
          rotate_left; exact WhAll_nil; exact WhAll_nil; exact WhAll_nil; exact WhAll_nil; exact WhAll_nil; exact WhAll_nil
        all_goals
          refine ⟨b2, _, _, _, rfl, hB2, _, _, _, rfl, hG, ?_, ?_⟩
          · first | exact hr7.le (by omega) | exact hr6.le (by omega) | exact hr5.le (by omega) | exact hr4.le (by omega) | exact hr3.le (by omega) | exact hr2.le (by omega) | exact hr1.le (by omega) | exact hr.le (by omega)
          · unfold DrP; simp only [List.length_append, List.length_cons, List.length_nil]; omega
      all_goals
        refine ⟨b2, _, _, _, rfl, hB2, _, _, _, rfl, hG, ?_, ?_⟩
        · first | exact hr7.le (by omega) | exact hr6.le (by omega) | exact hr5.le (by omega) | exact hr4.le (by omega) | exact hr3.le (by omega) | exact hr2.le (by omega) | exact hr1.le (by omega) | exact hr.le (by omega)
        · unfold DrP; simp only [List.length_append, List.length_cons, List.length_nil]; omega
    · have c2 : ∀ (w : World) (v : Value), ESl Ints w v p → Does Tryz.prog 21 [v] w (Ret w (.bool false)) := fun w v h => by
        have := LeastOk_ok w v p h; rwa [decide_eq_false hL] at this
      focus
        have szE3 := E3.size; have szE2 := E2.size; have szE1 := E1.size; have szE0 := E0.size; refine W_seq ?_; refine W_seq ?_; refine W_region rfl ?_; refine Wo rfl (opv_fieldAddr Tryz.underlying75 rfl rfl Tryz.sizeOf3 rfl) ?_
        refine Wo (v := .int _ _) rfl (opv_load Tryz.isAgg3 rfl (hB3.cell rfl)) ?_; refine Wo_nil ?_; refine W_block ?_; refine W_seq ?_; refine W_seq ?_; refine W_region rfl ?_; refine Wo rfl (opv_eql rfl rfl) ?_
        refine Wo rfl (opv_assign (v := .bool _) rfl) ?_; refine Wo_nil ?_; refine W_cond_dec rfl (fun h1 => ?_) (fun h1 => ?_); refine W_skip ?_; refine W_cond_dec rfl (fun h2 => ?_) (fun h2 => ?_); refine W_seq ?_; refine W_region rfl ?_
        refine Wo_buildSlice (ps := [(0, .string _), (1, .string _), (2, .string _), (3, .string _), (4, .string _)]) (cs := [_, _, _, _, _]) rfl Tryz.underlying82 Tryz.sizeOf9 Tryz.zeroValue9 rfl rfl rfl rfl ?_; rintro b3 w4 hb5 E4 hB4
        have hlb3 := hB4.lt; have hG := grownBy_ext hG E4; have hr := hr.ext E4; have hs4 := E4.size; refine Wo rfl (opv_move (v := .pointer _) rfl) ?_
        refine Wo_call rfl (opc2 (a := .pointer _) (b := .int _ _) Tryz.call46 rfl rfl) (pick_ok _ _ (by assumption) (by omega)) ?_; rintro _ w5 ⟨y1, rfl, E5, hr1, hy1⟩; (try dsimp only at hy1); have hlhr1 := hr1.lt; have Ehr1 := hr1.old
        have hB1 := (hB1.ext E4).grown E5 (by simp only [ne_eq, Option.some.injEq]; omega); have hB2 := (hB2.ext E4).grown E5 (by simp only [ne_eq, Option.some.injEq]; omega)
        have hB3 := (hB3.ext E4).grown E5 (by simp only [ne_eq, Option.some.injEq]; omega); have hO := (hO.ext E4).grown E5 (by omega); have hB4 := hB4.grown E5 (by simp only [ne_eq, Option.some.injEq]; omega)
        have hG := grownBy_trans hG E5; have hs5 := E5.size; refine Wo rfl (opv_indexAddr Tryz.underlying82 Tryz.sizeOf9 rfl rfl (by omega)) ?_
        refine Wo_tbl 0 Tryz.isAgg9 rfl rfl hB4 (by repeat (first | exact trivial | refine And.intro ⟨_, rfl, by decide⟩ ?_)) (by simp only [List.length_cons, List.length_nil]; omega) ?_; intro s1 hs1
        refine Wo rfl (opv_fieldAddr Tryz.underlying75 rfl rfl Tryz.sizeOf9 rfl) ?_; refine Wo_st (v := .string _) rfl Tryz.sizeOf9 rfl rfl rfl hB3 (by simp) (by omega) Ehr1 ?_; rintro w6 E6 hB3 K1 hz1; simp only [List.set] at hB3
        have hr1 := hr1.wrote E6 (K1 _ (by omega)) hz1; have hB1 := hB1.of_heap (K1 _ (by omega)); have hB2 := hB2.of_heap (K1 _ (by omega)); have hO := hO.wrote K1 (by omega); have hB4 := hB4.of_heap (K1 _ (by omega))
        have hG := grownBy_wrote hG Ehr1 E6 K1 hz1 (by first | exact .inr rfl | omega); refine Wo_nil ?_; refine W_seq ?_; refine W_region rfl ?_; refine Wo rfl (opv_fieldAddr Tryz.underlying28 rfl rfl Tryz.sizeOf22 rfl) ?_
        refine Wo (v := u1) rfl (opv_load Tryz.isAgg22 rfl (hB1.cell rfl)) ?_; refine Wo rfl (opv_len Tryz.underlying22 rfl (OwnedB.read hO)) ?_; refine Wo rfl (opv_gtr rfl rfl) ?_
        refine Wo_split_dec rfl (opv_move (v := .bool _) rfl) (fun h3 => ?_) (fun h3 => ?_); refine Wo rfl (opv_move (v := .pointer _) rfl) ?_
        refine Wo_call rfl (opc2 (a := .pointer _) (b := .int _ _) Tryz.call46 rfl rfl) (pick_ok _ _ (by assumption) (by omega)) ?_; rintro _ w7 ⟨y2, rfl, E7, hr2, hy2⟩; (try dsimp only at hy2); have hlhr2 := hr2.lt; have Ehr2 := hr2.old
        have hB3 := hB3.grown E7 (by simp only [ne_eq, Option.some.injEq]; omega); have hB1 := hB1.grown E7 (by simp only [ne_eq, Option.some.injEq]; omega); have hB2 := hB2.grown E7 (by simp only [ne_eq, Option.some.injEq]; omega)
        have hO := hO.grown E7 (by omega); have hB4 := hB4.grown E7 (by simp only [ne_eq, Option.some.injEq]; omega); have hG := grownBy_trans hG E7; have hs6 := E7.size; refine Wo rfl (opv_eql rfl rfl) ?_
        refine Wo rfl (opv_pick_t (v := .bool _) rfl rfl) ?_; refine Wo_nil ?_; refine W_cond_dec rfl (fun h4 => ?_) (fun h4 => ?_); refine W_seq ?_; refine W_region rfl ?_
        refine Wo rfl (opv_fieldAddr Tryz.underlying28 rfl rfl Tryz.sizeOf22 rfl) ?_; refine Wo (v := u1) rfl (opv_load Tryz.isAgg22 rfl (hB1.cell rfl)) ?_
        refine Wo_call rfl (opc2 (a := u1) (b := .int _ _) Tryz.call84 rfl rfl) (c1 _ _ ((OwnedB.read hO))) ?_; rintro u3 w8 ⟨E8, hO1⟩; have hr2 := hr2.ext E8; have hG := grownBy_ext hG E8; have hs7 := E8.size
        refine Wo rfl (opv_assign (v := u3) rfl) ?_; refine Wo_nil ?_; refine W_seq ?_; refine W_region rfl ?_; refine Wo rfl (opv_move (v := u3) rfl) ?_; refine Wo rfl (opv_len Tryz.underlying58 rfl (Owned.read hO1)) ?_
        refine Wo rfl (opv_gtr rfl rfl) ?_; refine Wo_split_dec rfl (opv_move (v := .bool _) rfl) (fun h5 => ?_) (fun h5 => ?_); refine Wo rfl (opv_fieldAddr Tryz.underlying28 rfl rfl Tryz.sizeOf22 rfl) ?_
        refine Wo (v := u1) rfl (opv_load Tryz.isAgg22 rfl ((hB1.ext E8).cell rfl)) ?_; refine Wo_call rfl (opc1 (a := u1) Tryz.call21 rfl) (c2 _ _ ((Mono.mono E8 (OwnedB.read hO)))) ?_; rintro _ w9 ⟨rfl, E9⟩; have hr2 := hr2.ext E9
        have hG := grownBy_ext hG E9; have hs8 := E9.size; refine Wo rfl (opv_pick_t (v := .bool _) rfl rfl) ?_; refine Wo_nil ?_; refine W_cond_false rfl ?_; refine W_skip ?_; refine W_seq ?_; refine W_seq ?_; refine W_region rfl ?_
        refine Wo rfl (opv_move (v := .pointer _) rfl) ?_; refine Wo_call rfl (opc2 (a := .pointer _) (b := .int _ _) Tryz.call64 rfl rfl) (odd_ok _ _ (by assumption) (by omega) (by omega)) ?_; rintro _ w10 ⟨y3, rfl, E10, hr3, hy3⟩
        (try dsimp only at hy3); have hlhr3 := hr3.lt; have Ehr3 := hr3.old; have hB3 := (hB3.ext (E8.trans E9)).grown E10 (by simp only [ne_eq, Option.some.injEq]; omega)
        have hB1 := (hB1.ext (E8.trans E9)).grown E10 (by simp only [ne_eq, Option.some.injEq]; omega); have hB2 := (hB2.ext (E8.trans E9)).grown E10 (by simp only [ne_eq, Option.some.injEq]; omega)
        have hO := (hO.ext (E8.trans E9)).grown E10 (by omega); have hB4 := (hB4.ext (E8.trans E9)).grown E10 (by simp only [ne_eq, Option.some.injEq]; omega); have hO1 := (hO1.toB.ext E9).grown E10 (by omega)
        have hG := grownBy_trans hG E10; have hs9 := E10.size; refine Wo_nil ?_; refine W_cond rfl (fun h6 => ?_) (fun h6 => ?_); refine W_region rfl ?_; refine Wo rfl (opv_fieldAddr Tryz.underlying75 rfl rfl Tryz.sizeOf9 rfl) ?_
        refine Wo (v := .string _) rfl (opv_load Tryz.isAgg9 rfl (hB3.cell rfl)) ?_; refine Wo rfl (opv_add_str rfl rfl (by simp <;> omega)) ?_; refine Wo rfl (opv_fieldAddr Tryz.underlying75 rfl rfl Tryz.sizeOf9 rfl) ?_
        refine Wo_st (v := .string _) rfl Tryz.sizeOf9 rfl rfl rfl hB3 (by simp) (by omega) Ehr3 ?_; rintro w11 E11 hB3 K2 hz2; simp only [List.set] at hB3; have hr3 := hr3.wrote E11 (K2 _ (by omega)) hz2
        have hB1 := hB1.of_heap (K2 _ (by omega)); have hB2 := hB2.of_heap (K2 _ (by omega)); have hO := hO.wrote K2 (by omega); have hB4 := hB4.of_heap (K2 _ (by omega)); have hO1 := hO1.wrote K2 (by omega)
        have hG := grownBy_wrote hG Ehr3 E11 K2 hz2 (by first | exact .inr rfl | omega); refine Wo_nil ?_; refine W_seq ?_; refine W_region rfl ?_; refine Wo (v := .agg _) rfl (opv_load3 Tryz.isAgg75 Tryz.sizeOf75 rfl hB3) ?_
        refine Wo_st3 rfl Tryz.sizeOf75 rfl rfl (by first | rfl | assumption) (by first | rfl | assumption) (by first | rfl | assumption) hB2 (by omega) E11 ?_; rintro w12 E12 hB2 K3 hz3; have hB3 := hB3.of_heap (K3 _ (by omega))
        have hr3 := hr3.wrote E12 (K3 _ (by omega)) hz3; have hB1 := hB1.of_heap (K3 _ (by omega)); have hO := hO.wrote K3 (by omega); have hB4 := hB4.of_heap (K3 _ (by omega)); have hO1 := hO1.wrote K3 (by omega)
        have hG := grownBy_wrote hG E11 E12 K3 hz3 (by first | exact .inr rfl | omega); refine Wo_nil ?_; refine W_ret ?_; rotate_left; refine W_skip ?_; refine W_seq ?_; refine W_region rfl ?_
        refine Wo (v := .agg _) rfl (opv_load3 Tryz.isAgg75 Tryz.sizeOf75 rfl hB3) ?_; refine Wo_st3 rfl Tryz.sizeOf75 rfl rfl (by first | rfl | assumption) (by first | rfl | assumption) (by first | rfl | assumption) hB2 (by omega) Ehr3 ?_
        rintro w11 E11 hB2 K2 hz2; have hr3 := hr3.wrote E11 (K2 _ (by omega)) hz2; have hB3 := hB3.of_heap (K2 _ (by omega)); have hB1 := hB1.of_heap (K2 _ (by omega)); have hO := hO.wrote K2 (by omega)
        have hB4 := hB4.of_heap (K2 _ (by omega)); have hO1 := hO1.wrote K2 (by omega); have hG := grownBy_wrote hG Ehr3 E11 K2 hz2 (by first | exact .inr rfl | omega); refine Wo_nil ?_; refine W_ret ?_; rotate_left; refine Wo_skip rfl ?_
        refine Wo_skip rfl ?_; refine Wo_skip rfl ?_; refine Wo rfl (opv_pick_f (v := .bool _) rfl rfl) ?_; refine Wo_nil ?_; refine W_cond_false rfl ?_; refine W_skip ?_; refine W_seq ?_; refine W_seq ?_; refine W_region rfl ?_
        refine Wo rfl (opv_move (v := .pointer _) rfl) ?_; refine Wo_call rfl (opc2 (a := .pointer _) (b := .int _ _) Tryz.call64 rfl rfl) (odd_ok _ _ (by assumption) (by omega) (by omega)) ?_; rintro _ w9 ⟨y3, rfl, E9, hr3, hy3⟩
        (try dsimp only at hy3); have hlhr3 := hr3.lt; have Ehr3 := hr3.old; have hB3 := (hB3.ext E8).grown E9 (by simp only [ne_eq, Option.some.injEq]; omega)
        have hB1 := (hB1.ext E8).grown E9 (by simp only [ne_eq, Option.some.injEq]; omega); have hB2 := (hB2.ext E8).grown E9 (by simp only [ne_eq, Option.some.injEq]; omega); have hO := (hO.ext E8).grown E9 (by omega)
        have hB4 := (hB4.ext E8).grown E9 (by simp only [ne_eq, Option.some.injEq]; omega); have hO1 := hO1.toB.grown E9 (by omega); have hG := grownBy_trans hG E9; have hs8 := E9.size; refine Wo_nil ?_
        refine W_cond rfl (fun h6 => ?_) (fun h6 => ?_); refine W_region rfl ?_; refine Wo rfl (opv_fieldAddr Tryz.underlying75 rfl rfl Tryz.sizeOf9 rfl) ?_; refine Wo (v := .string _) rfl (opv_load Tryz.isAgg9 rfl (hB3.cell rfl)) ?_
        refine Wo rfl (opv_add_str rfl rfl (by simp <;> omega)) ?_; refine Wo rfl (opv_fieldAddr Tryz.underlying75 rfl rfl Tryz.sizeOf9 rfl) ?_; refine Wo_st (v := .string _) rfl Tryz.sizeOf9 rfl rfl rfl hB3 (by simp) (by omega) Ehr3 ?_
        rintro w10 E10 hB3 K2 hz2; simp only [List.set] at hB3; have hr3 := hr3.wrote E10 (K2 _ (by omega)) hz2; have hB1 := hB1.of_heap (K2 _ (by omega)); have hB2 := hB2.of_heap (K2 _ (by omega)); have hO := hO.wrote K2 (by omega)
        have hB4 := hB4.of_heap (K2 _ (by omega)); have hO1 := hO1.wrote K2 (by omega); have hG := grownBy_wrote hG Ehr3 E10 K2 hz2 (by first | exact .inr rfl | omega); refine Wo_nil ?_; refine W_seq ?_; refine W_region rfl ?_
        refine Wo (v := .agg _) rfl (opv_load3 Tryz.isAgg75 Tryz.sizeOf75 rfl hB3) ?_; refine Wo_st3 rfl Tryz.sizeOf75 rfl rfl (by first | rfl | assumption) (by first | rfl | assumption) (by first | rfl | assumption) hB2 (by omega) E10 ?_
        rintro w11 E11 hB2 K3 hz3; have hB3 := hB3.of_heap (K3 _ (by omega)); have hr3 := hr3.wrote E11 (K3 _ (by omega)) hz3; have hB1 := hB1.of_heap (K3 _ (by omega)); have hO := hO.wrote K3 (by omega)
        have hB4 := hB4.of_heap (K3 _ (by omega)); have hO1 := hO1.wrote K3 (by omega); have hG := grownBy_wrote hG E10 E11 K3 hz3 (by first | exact .inr rfl | omega); refine Wo_nil ?_; refine W_ret ?_; rotate_left; refine W_skip ?_
        refine W_seq ?_; refine W_region rfl ?_; refine Wo (v := .agg _) rfl (opv_load3 Tryz.isAgg75 Tryz.sizeOf75 rfl hB3) ?_
        refine Wo_st3 rfl Tryz.sizeOf75 rfl rfl (by first | rfl | assumption) (by first | rfl | assumption) (by first | rfl | assumption) hB2 (by omega) Ehr3 ?_; rintro w10 E10 hB2 K2 hz2; have hr3 := hr3.wrote E10 (K2 _ (by omega)) hz2
        have hB3 := hB3.of_heap (K2 _ (by omega)); have hB1 := hB1.of_heap (K2 _ (by omega)); have hO := hO.wrote K2 (by omega); have hB4 := hB4.of_heap (K2 _ (by omega)); have hO1 := hO1.wrote K2 (by omega)
        have hG := grownBy_wrote hG Ehr3 E10 K2 hz2 (by first | exact .inr rfl | omega); refine Wo_nil ?_; refine W_ret ?_; rotate_left; refine W_skip ?_; refine W_seq ?_; refine W_seq ?_; refine W_region rfl ?_
        refine Wo rfl (opv_move (v := .pointer _) rfl) ?_; refine Wo_call rfl (opc2 (a := .pointer _) (b := .int _ _) Tryz.call64 rfl rfl) (odd_ok _ _ (by assumption) (by omega) (by omega)) ?_; rintro _ w8 ⟨y3, rfl, E8, hr3, hy3⟩
        (try dsimp only at hy3); have hlhr3 := hr3.lt; have Ehr3 := hr3.old; have hB3 := hB3.grown E8 (by simp only [ne_eq, Option.some.injEq]; omega); have hB1 := hB1.grown E8 (by simp only [ne_eq, Option.some.injEq]; omega)
        have hB2 := hB2.grown E8 (by simp only [ne_eq, Option.some.injEq]; omega); have hO := hO.grown E8 (by omega); have hB4 := hB4.grown E8 (by simp only [ne_eq, Option.some.injEq]; omega); have hG := grownBy_trans hG E8
        have hs7 := E8.size; refine Wo_nil ?_; refine W_cond rfl (fun h5 => ?_) (fun h5 => ?_); refine W_region rfl ?_; refine Wo rfl (opv_fieldAddr Tryz.underlying75 rfl rfl Tryz.sizeOf9 rfl) ?_
        refine Wo (v := .string _) rfl (opv_load Tryz.isAgg9 rfl (hB3.cell rfl)) ?_; refine Wo rfl (opv_add_str rfl rfl (by simp <;> omega)) ?_; refine Wo rfl (opv_fieldAddr Tryz.underlying75 rfl rfl Tryz.sizeOf9 rfl) ?_
        refine Wo_st (v := .string _) rfl Tryz.sizeOf9 rfl rfl rfl hB3 (by simp) (by omega) Ehr3 ?_; rintro w9 E9 hB3 K2 hz2; simp only [List.set] at hB3; have hr3 := hr3.wrote E9 (K2 _ (by omega)) hz2
        have hB1 := hB1.of_heap (K2 _ (by omega)); have hB2 := hB2.of_heap (K2 _ (by omega)); have hO := hO.wrote K2 (by omega); have hB4 := hB4.of_heap (K2 _ (by omega))
        have hG := grownBy_wrote hG Ehr3 E9 K2 hz2 (by first | exact .inr rfl | omega); refine Wo_nil ?_; refine W_seq ?_; refine W_region rfl ?_; refine Wo (v := .agg _) rfl (opv_load3 Tryz.isAgg75 Tryz.sizeOf75 rfl hB3) ?_
        refine Wo_st3 rfl Tryz.sizeOf75 rfl rfl (by first | rfl | assumption) (by first | rfl | assumption) (by first | rfl | assumption) hB2 (by omega) E9 ?_; rintro w10 E10 hB2 K3 hz3; have hB3 := hB3.of_heap (K3 _ (by omega))
        have hr3 := hr3.wrote E10 (K3 _ (by omega)) hz3; have hB1 := hB1.of_heap (K3 _ (by omega)); have hO := hO.wrote K3 (by omega); have hB4 := hB4.of_heap (K3 _ (by omega))
        have hG := grownBy_wrote hG E9 E10 K3 hz3 (by first | exact .inr rfl | omega); refine Wo_nil ?_; refine W_ret ?_; rotate_left; refine W_skip ?_; refine W_seq ?_; refine W_region rfl ?_
        refine Wo (v := .agg _) rfl (opv_load3 Tryz.isAgg75 Tryz.sizeOf75 rfl hB3) ?_; refine Wo_st3 rfl Tryz.sizeOf75 rfl rfl (by first | rfl | assumption) (by first | rfl | assumption) (by first | rfl | assumption) hB2 (by omega) Ehr3 ?_
        rintro w9 E9 hB2 K2 hz2; have hr3 := hr3.wrote E9 (K2 _ (by omega)) hz2; have hB3 := hB3.of_heap (K2 _ (by omega)); have hB1 := hB1.of_heap (K2 _ (by omega)); have hO := hO.wrote K2 (by omega)
        have hB4 := hB4.of_heap (K2 _ (by omega)); have hG := grownBy_wrote hG Ehr3 E9 K2 hz2 (by first | exact .inr rfl | omega); refine Wo_nil ?_; refine W_ret ?_; rotate_left; (exfalso; omega); contradiction; refine W_region rfl ?_
        refine Wo rfl (opv_eql rfl rfl) ?_; refine Wo rfl (opv_assign (v := .bool _) rfl) ?_; refine Wo_nil ?_; refine W_cond_dec rfl (fun h2 => ?_) (fun h2 => ?_); refine W_seq ?_; refine W_region rfl ?_
        refine Wo_buildSlice (ps := [(0, .string _), (1, .string _), (2, .string _), (3, .string _), (4, .string _)]) (cs := [_, _, _, _, _]) rfl Tryz.underlying82 Tryz.sizeOf9 Tryz.zeroValue9 rfl rfl rfl rfl ?_; rintro b3 w4 hb5 E4 hB4
        have hlb3 := hB4.lt; have hG := grownBy_ext hG E4; have hr := hr.ext E4; have hs4 := E4.size; refine Wo rfl (opv_move (v := .pointer _) rfl) ?_
        refine Wo_call rfl (opc2 (a := .pointer _) (b := .int _ _) Tryz.call46 rfl rfl) (pick_ok _ _ (by assumption) (by omega)) ?_; rintro _ w5 ⟨y1, rfl, E5, hr1, hy1⟩; (try dsimp only at hy1); have hlhr1 := hr1.lt; have Ehr1 := hr1.old
        have hB1 := (hB1.ext E4).grown E5 (by simp only [ne_eq, Option.some.injEq]; omega); have hB2 := (hB2.ext E4).grown E5 (by simp only [ne_eq, Option.some.injEq]; omega)
        have hB3 := (hB3.ext E4).grown E5 (by simp only [ne_eq, Option.some.injEq]; omega); have hO := (hO.ext E4).grown E5 (by omega); have hB4 := hB4.grown E5 (by simp only [ne_eq, Option.some.injEq]; omega)
        have hG := grownBy_trans hG E5; have hs5 := E5.size; refine Wo rfl (opv_indexAddr Tryz.underlying82 Tryz.sizeOf9 rfl rfl (by omega)) ?_
        refine Wo_tbl 0 Tryz.isAgg9 rfl rfl hB4 (by repeat (first | exact trivial | refine And.intro ⟨_, rfl, by decide⟩ ?_)) (by simp only [List.length_cons, List.length_nil]; omega) ?_; intro s1 hs1
        refine Wo rfl (opv_fieldAddr Tryz.underlying75 rfl rfl Tryz.sizeOf9 rfl) ?_; refine Wo_st (v := .string _) rfl Tryz.sizeOf9 rfl rfl rfl hB3 (by simp) (by omega) Ehr1 ?_; rintro w6 E6 hB3 K1 hz1; simp only [List.set] at hB3
        have hr1 := hr1.wrote E6 (K1 _ (by omega)) hz1; have hB1 := hB1.of_heap (K1 _ (by omega)); have hB2 := hB2.of_heap (K1 _ (by omega)); have hO := hO.wrote K1 (by omega); have hB4 := hB4.of_heap (K1 _ (by omega))
        have hG := grownBy_wrote hG Ehr1 E6 K1 hz1 (by first | exact .inr rfl | omega); refine Wo_nil ?_; refine W_seq ?_; refine W_region rfl ?_; refine Wo rfl (opv_fieldAddr Tryz.underlying28 rfl rfl Tryz.sizeOf22 rfl) ?_
        refine Wo (v := u1) rfl (opv_load Tryz.isAgg22 rfl (hB1.cell rfl)) ?_; refine Wo rfl (opv_len Tryz.underlying22 rfl (OwnedB.read hO)) ?_; refine Wo rfl (opv_gtr rfl rfl) ?_
        refine Wo_split_dec rfl (opv_move (v := .bool _) rfl) (fun h3 => ?_) (fun h3 => ?_); refine Wo rfl (opv_move (v := .pointer _) rfl) ?_
        refine Wo_call rfl (opc2 (a := .pointer _) (b := .int _ _) Tryz.call46 rfl rfl) (pick_ok _ _ (by assumption) (by omega)) ?_; rintro _ w7 ⟨y2, rfl, E7, hr2, hy2⟩; (try dsimp only at hy2); have hlhr2 := hr2.lt; have Ehr2 := hr2.old
        have hB3 := hB3.grown E7 (by simp only [ne_eq, Option.some.injEq]; omega); have hB1 := hB1.grown E7 (by simp only [ne_eq, Option.some.injEq]; omega); have hB2 := hB2.grown E7 (by simp only [ne_eq, Option.some.injEq]; omega)
        have hO := hO.grown E7 (by omega); have hB4 := hB4.grown E7 (by simp only [ne_eq, Option.some.injEq]; omega); have hG := grownBy_trans hG E7; have hs6 := E7.size; refine Wo rfl (opv_eql rfl rfl) ?_
        refine Wo rfl (opv_pick_t (v := .bool _) rfl rfl) ?_; refine Wo_nil ?_; refine W_cond_dec rfl (fun h4 => ?_) (fun h4 => ?_); refine W_seq ?_; refine W_region rfl ?_
        refine Wo rfl (opv_fieldAddr Tryz.underlying28 rfl rfl Tryz.sizeOf22 rfl) ?_; refine Wo (v := u1) rfl (opv_load Tryz.isAgg22 rfl (hB1.cell rfl)) ?_
        refine Wo_call rfl (opc2 (a := u1) (b := .int _ _) Tryz.call84 rfl rfl) (c1 _ _ ((OwnedB.read hO))) ?_; rintro u3 w8 ⟨E8, hO1⟩; have hr2 := hr2.ext E8; have hG := grownBy_ext hG E8; have hs7 := E8.size
        refine Wo rfl (opv_assign (v := u3) rfl) ?_; refine Wo_nil ?_; refine W_seq ?_; refine W_region rfl ?_; refine Wo rfl (opv_move (v := u3) rfl) ?_; refine Wo rfl (opv_len Tryz.underlying58 rfl (Owned.read hO1)) ?_
        refine Wo rfl (opv_gtr rfl rfl) ?_; refine Wo_split_dec rfl (opv_move (v := .bool _) rfl) (fun h5 => ?_) (fun h5 => ?_); refine Wo rfl (opv_fieldAddr Tryz.underlying28 rfl rfl Tryz.sizeOf22 rfl) ?_
        refine Wo (v := u1) rfl (opv_load Tryz.isAgg22 rfl ((hB1.ext E8).cell rfl)) ?_; refine Wo_call rfl (opc1 (a := u1) Tryz.call21 rfl) (c2 _ _ ((Mono.mono E8 (OwnedB.read hO)))) ?_; rintro _ w9 ⟨rfl, E9⟩; have hr2 := hr2.ext E9
        have hG := grownBy_ext hG E9; have hs8 := E9.size; refine Wo rfl (opv_pick_t (v := .bool _) rfl rfl) ?_; refine Wo_nil ?_; refine W_cond_false rfl ?_; refine W_skip ?_; refine W_seq ?_; refine W_seq ?_; refine W_region rfl ?_
        refine Wo rfl (opv_move (v := .pointer _) rfl) ?_; refine Wo_call rfl (opc2 (a := .pointer _) (b := .int _ _) Tryz.call64 rfl rfl) (odd_ok _ _ (by assumption) (by omega) (by omega)) ?_; rintro _ w10 ⟨y3, rfl, E10, hr3, hy3⟩
        (try dsimp only at hy3); have hlhr3 := hr3.lt; have Ehr3 := hr3.old; have hB3 := (hB3.ext (E8.trans E9)).grown E10 (by simp only [ne_eq, Option.some.injEq]; omega)
        have hB1 := (hB1.ext (E8.trans E9)).grown E10 (by simp only [ne_eq, Option.some.injEq]; omega); have hB2 := (hB2.ext (E8.trans E9)).grown E10 (by simp only [ne_eq, Option.some.injEq]; omega)
        have hO := (hO.ext (E8.trans E9)).grown E10 (by omega); have hB4 := (hB4.ext (E8.trans E9)).grown E10 (by simp only [ne_eq, Option.some.injEq]; omega); have hO1 := (hO1.toB.ext E9).grown E10 (by omega)
        have hG := grownBy_trans hG E10; have hs9 := E10.size; refine Wo_nil ?_; refine W_cond rfl (fun h6 => ?_) (fun h6 => ?_); refine W_region rfl ?_; refine Wo rfl (opv_fieldAddr Tryz.underlying75 rfl rfl Tryz.sizeOf9 rfl) ?_
        refine Wo (v := .string _) rfl (opv_load Tryz.isAgg9 rfl (hB3.cell rfl)) ?_; refine Wo rfl (opv_add_str rfl rfl (by simp <;> omega)) ?_; refine Wo rfl (opv_fieldAddr Tryz.underlying75 rfl rfl Tryz.sizeOf9 rfl) ?_
        refine Wo_st (v := .string _) rfl Tryz.sizeOf9 rfl rfl rfl hB3 (by simp) (by omega) Ehr3 ?_; rintro w11 E11 hB3 K2 hz2; simp only [List.set] at hB3; have hr3 := hr3.wrote E11 (K2 _ (by omega)) hz2
        have hB1 := hB1.of_heap (K2 _ (by omega)); have hB2 := hB2.of_heap (K2 _ (by omega)); have hO := hO.wrote K2 (by omega); have hB4 := hB4.of_heap (K2 _ (by omega)); have hO1 := hO1.wrote K2 (by omega)
        have hG := grownBy_wrote hG Ehr3 E11 K2 hz2 (by first | exact .inr rfl | omega); refine Wo_nil ?_; refine W_seq ?_; refine W_region rfl ?_; refine Wo (v := .agg _) rfl (opv_load3 Tryz.isAgg75 Tryz.sizeOf75 rfl hB3) ?_
        refine Wo_st3 rfl Tryz.sizeOf75 rfl rfl (by first | rfl | assumption) (by first | rfl | assumption) (by first | rfl | assumption) hB2 (by omega) E11 ?_; rintro w12 E12 hB2 K3 hz3; have hB3 := hB3.of_heap (K3 _ (by omega))
        have hr3 := hr3.wrote E12 (K3 _ (by omega)) hz3; have hB1 := hB1.of_heap (K3 _ (by omega)); have hO := hO.wrote K3 (by omega); have hB4 := hB4.of_heap (K3 _ (by omega)); have hO1 := hO1.wrote K3 (by omega)
        have hG := grownBy_wrote hG E11 E12 K3 hz3 (by first | exact .inr rfl | omega); refine Wo_nil ?_; refine W_ret ?_; rotate_left; refine W_skip ?_; refine W_seq ?_; refine W_region rfl ?_
        refine Wo (v := .agg _) rfl (opv_load3 Tryz.isAgg75 Tryz.sizeOf75 rfl hB3) ?_; refine Wo_st3 rfl Tryz.sizeOf75 rfl rfl (by first | rfl | assumption) (by first | rfl | assumption) (by first | rfl | assumption) hB2 (by omega) Ehr3 ?_
        rintro w11 E11 hB2 K2 hz2; have hr3 := hr3.wrote E11 (K2 _ (by omega)) hz2; have hB3 := hB3.of_heap (K2 _ (by omega)); have hB1 := hB1.of_heap (K2 _ (by omega)); have hO := hO.wrote K2 (by omega)
        have hB4 := hB4.of_heap (K2 _ (by omega)); have hO1 := hO1.wrote K2 (by omega); have hG := grownBy_wrote hG Ehr3 E11 K2 hz2 (by first | exact .inr rfl | omega); refine Wo_nil ?_; refine W_ret ?_; rotate_left; refine Wo_skip rfl ?_
        refine Wo_skip rfl ?_; refine Wo_skip rfl ?_; refine Wo rfl (opv_pick_f (v := .bool _) rfl rfl) ?_; refine Wo_nil ?_; refine W_cond_false rfl ?_; refine W_skip ?_; refine W_seq ?_; refine W_seq ?_; refine W_region rfl ?_
        refine Wo rfl (opv_move (v := .pointer _) rfl) ?_; refine Wo_call rfl (opc2 (a := .pointer _) (b := .int _ _) Tryz.call64 rfl rfl) (odd_ok _ _ (by assumption) (by omega) (by omega)) ?_; rintro _ w9 ⟨y3, rfl, E9, hr3, hy3⟩
        (try dsimp only at hy3); have hlhr3 := hr3.lt; have Ehr3 := hr3.old; have hB3 := (hB3.ext E8).grown E9 (by simp only [ne_eq, Option.some.injEq]; omega)
        have hB1 := (hB1.ext E8).grown E9 (by simp only [ne_eq, Option.some.injEq]; omega); have hB2 := (hB2.ext E8).grown E9 (by simp only [ne_eq, Option.some.injEq]; omega); have hO := (hO.ext E8).grown E9 (by omega)
        have hB4 := (hB4.ext E8).grown E9 (by simp only [ne_eq, Option.some.injEq]; omega); have hO1 := hO1.toB.grown E9 (by omega); have hG := grownBy_trans hG E9; have hs8 := E9.size; refine Wo_nil ?_
        refine W_cond rfl (fun h6 => ?_) (fun h6 => ?_); refine W_region rfl ?_; refine Wo rfl (opv_fieldAddr Tryz.underlying75 rfl rfl Tryz.sizeOf9 rfl) ?_; refine Wo (v := .string _) rfl (opv_load Tryz.isAgg9 rfl (hB3.cell rfl)) ?_
        refine Wo rfl (opv_add_str rfl rfl (by simp <;> omega)) ?_; refine Wo rfl (opv_fieldAddr Tryz.underlying75 rfl rfl Tryz.sizeOf9 rfl) ?_; refine Wo_st (v := .string _) rfl Tryz.sizeOf9 rfl rfl rfl hB3 (by simp) (by omega) Ehr3 ?_
        rintro w10 E10 hB3 K2 hz2; simp only [List.set] at hB3; have hr3 := hr3.wrote E10 (K2 _ (by omega)) hz2; have hB1 := hB1.of_heap (K2 _ (by omega)); have hB2 := hB2.of_heap (K2 _ (by omega)); have hO := hO.wrote K2 (by omega)
        have hB4 := hB4.of_heap (K2 _ (by omega)); have hO1 := hO1.wrote K2 (by omega); have hG := grownBy_wrote hG Ehr3 E10 K2 hz2 (by first | exact .inr rfl | omega); refine Wo_nil ?_; refine W_seq ?_; refine W_region rfl ?_
        refine Wo (v := .agg _) rfl (opv_load3 Tryz.isAgg75 Tryz.sizeOf75 rfl hB3) ?_; refine Wo_st3 rfl Tryz.sizeOf75 rfl rfl (by first | rfl | assumption) (by first | rfl | assumption) (by first | rfl | assumption) hB2 (by omega) E10 ?_
        rintro w11 E11 hB2 K3 hz3; have hB3 := hB3.of_heap (K3 _ (by omega)); have hr3 := hr3.wrote E11 (K3 _ (by omega)) hz3; have hB1 := hB1.of_heap (K3 _ (by omega)); have hO := hO.wrote K3 (by omega)
        have hB4 := hB4.of_heap (K3 _ (by omega)); have hO1 := hO1.wrote K3 (by omega); have hG := grownBy_wrote hG E10 E11 K3 hz3 (by first | exact .inr rfl | omega); refine Wo_nil ?_; refine W_ret ?_; rotate_left; refine W_skip ?_
        refine W_seq ?_; refine W_region rfl ?_; refine Wo (v := .agg _) rfl (opv_load3 Tryz.isAgg75 Tryz.sizeOf75 rfl hB3) ?_
        refine Wo_st3 rfl Tryz.sizeOf75 rfl rfl (by first | rfl | assumption) (by first | rfl | assumption) (by first | rfl | assumption) hB2 (by omega) Ehr3 ?_; rintro w10 E10 hB2 K2 hz2; have hr3 := hr3.wrote E10 (K2 _ (by omega)) hz2
        have hB3 := hB3.of_heap (K2 _ (by omega)); have hB1 := hB1.of_heap (K2 _ (by omega)); have hO := hO.wrote K2 (by omega); have hB4 := hB4.of_heap (K2 _ (by omega)); have hO1 := hO1.wrote K2 (by omega)
        have hG := grownBy_wrote hG Ehr3 E10 K2 hz2 (by first | exact .inr rfl | omega); refine Wo_nil ?_; refine W_ret ?_; rotate_left; refine W_skip ?_; refine W_seq ?_; refine W_seq ?_; refine W_region rfl ?_
        refine Wo rfl (opv_move (v := .pointer _) rfl) ?_; refine Wo_call rfl (opc2 (a := .pointer _) (b := .int _ _) Tryz.call64 rfl rfl) (odd_ok _ _ (by assumption) (by omega) (by omega)) ?_; rintro _ w8 ⟨y3, rfl, E8, hr3, hy3⟩
        (try dsimp only at hy3); have hlhr3 := hr3.lt; have Ehr3 := hr3.old; have hB3 := hB3.grown E8 (by simp only [ne_eq, Option.some.injEq]; omega); have hB1 := hB1.grown E8 (by simp only [ne_eq, Option.some.injEq]; omega)
        have hB2 := hB2.grown E8 (by simp only [ne_eq, Option.some.injEq]; omega); have hO := hO.grown E8 (by omega); have hB4 := hB4.grown E8 (by simp only [ne_eq, Option.some.injEq]; omega); have hG := grownBy_trans hG E8
        have hs7 := E8.size; refine Wo_nil ?_; refine W_cond rfl (fun h5 => ?_) (fun h5 => ?_); refine W_region rfl ?_; refine Wo rfl (opv_fieldAddr Tryz.underlying75 rfl rfl Tryz.sizeOf9 rfl) ?_
        refine Wo (v := .string _) rfl (opv_load Tryz.isAgg9 rfl (hB3.cell rfl)) ?_; refine Wo rfl (opv_add_str rfl rfl (by simp <;> omega)) ?_; refine Wo rfl (opv_fieldAddr Tryz.underlying75 rfl rfl Tryz.sizeOf9 rfl) ?_
        refine Wo_st (v := .string _) rfl Tryz.sizeOf9 rfl rfl rfl hB3 (by simp) (by omega) Ehr3 ?_; rintro w9 E9 hB3 K2 hz2; simp only [List.set] at hB3; have hr3 := hr3.wrote E9 (K2 _ (by omega)) hz2
        have hB1 := hB1.of_heap (K2 _ (by omega)); have hB2 := hB2.of_heap (K2 _ (by omega)); have hO := hO.wrote K2 (by omega); have hB4 := hB4.of_heap (K2 _ (by omega))
        have hG := grownBy_wrote hG Ehr3 E9 K2 hz2 (by first | exact .inr rfl | omega); refine Wo_nil ?_; refine W_seq ?_; refine W_region rfl ?_; refine Wo (v := .agg _) rfl (opv_load3 Tryz.isAgg75 Tryz.sizeOf75 rfl hB3) ?_
        refine Wo_st3 rfl Tryz.sizeOf75 rfl rfl (by first | rfl | assumption) (by first | rfl | assumption) (by first | rfl | assumption) hB2 (by omega) E9 ?_; rintro w10 E10 hB2 K3 hz3; have hB3 := hB3.of_heap (K3 _ (by omega))
        have hr3 := hr3.wrote E10 (K3 _ (by omega)) hz3; have hB1 := hB1.of_heap (K3 _ (by omega)); have hO := hO.wrote K3 (by omega); have hB4 := hB4.of_heap (K3 _ (by omega))
        have hG := grownBy_wrote hG E9 E10 K3 hz3 (by first | exact .inr rfl | omega); refine Wo_nil ?_; refine W_ret ?_; rotate_left; refine W_skip ?_; refine W_seq ?_; refine W_region rfl ?_
        refine Wo (v := .agg _) rfl (opv_load3 Tryz.isAgg75 Tryz.sizeOf75 rfl hB3) ?_; refine Wo_st3 rfl Tryz.sizeOf75 rfl rfl (by first | rfl | assumption) (by first | rfl | assumption) (by first | rfl | assumption) hB2 (by omega) Ehr3 ?_
        rintro w9 E9 hB2 K2 hz2; have hr3 := hr3.wrote E9 (K2 _ (by omega)) hz2; have hB3 := hB3.of_heap (K2 _ (by omega)); have hB1 := hB1.of_heap (K2 _ (by omega)); have hO := hO.wrote K2 (by omega)
        have hB4 := hB4.of_heap (K2 _ (by omega)); have hG := grownBy_wrote hG Ehr3 E9 K2 hz2 (by first | exact .inr rfl | omega); refine Wo_nil ?_; refine W_ret ?_; rotate_left; (exfalso; omega); refine W_seq ?_; refine W_region rfl ?_
        refine Wo rfl (opv_eql rfl rfl) ?_; refine Wo rfl (opv_assign (v := .bool _) rfl) ?_; refine Wo_nil ?_; refine W_cond_dec rfl (fun h3 => ?_) (fun h3 => ?_); refine W_region rfl ?_; refine Wo rfl (opv_move (v := .pointer _) rfl) ?_
        refine Wo rfl (opv_fieldAddr Tryz.underlying28 rfl rfl Tryz.sizeOf22 rfl) ?_; refine Wo (v := u1) rfl (opv_load Tryz.isAgg22 rfl (hB1.cell rfl)) ?_; refine Wo rfl (opv_len Tryz.underlying22 rfl (OwnedB.read hO)) ?_
        refine Wo rfl (opv_max rfl rfl) ?_; refine Wo_call rfl (opc2 (a := .pointer _) (b := .int _ _) Tryz.call46 rfl rfl) (pick_ok _ _ (by assumption) (by omega)) ?_; rintro _ w4 ⟨y1, rfl, E4, hr1, hy1⟩; (try dsimp only at hy1)
        have hlhr1 := hr1.lt; have Ehr1 := hr1.old; have hG := grownBy_trans hG E4; have hB1 := hB1.grown E4 (by simp only [ne_eq, Option.some.injEq]; omega); have hB2 := hB2.grown E4 (by simp only [ne_eq, Option.some.injEq]; omega)
        have hB3 := hB3.grown E4 (by simp only [ne_eq, Option.some.injEq]; omega); have hO := hO.grown E4 (by omega); have hs4 := E4.size; refine Wo rfl (opv_fieldAddr Tryz.underlying75 rfl rfl Tryz.sizeOf3 rfl) ?_
        refine Wo_st (v := .int _ _) rfl Tryz.sizeOf3 rfl rfl rfl hB3 (by simp) (by omega) Ehr1 ?_; rintro w5 E5 hB3 K1 hz1; simp only [List.set] at hB3; have hr1 := hr1.wrote E5 (K1 _ (by omega)) hz1
        have hG := grownBy_wrote hG Ehr1 E5 K1 hz1 (by first | exact .inr rfl | omega); have hB1 := hB1.of_heap (K1 _ (by omega)); have hB2 := hB2.of_heap (K1 _ (by omega)); have hO := hO.wrote K1 (by omega); refine Wo_nil ?_
        refine W_seq ?_; refine W_seq ?_; refine W_region rfl ?_; refine Wo rfl (opv_move (v := .pointer _) rfl) ?_
        refine Wo_call rfl (opc2 (a := .pointer _) (b := .int _ _) Tryz.call64 rfl rfl) (odd_ok _ _ (by assumption) (by omega) (by omega)) ?_; rintro _ w6 ⟨y2, rfl, E6, hr2, hy2⟩; (try dsimp only at hy2); have hlhr2 := hr2.lt
        have Ehr2 := hr2.old; have hB3 := hB3.grown E6 (by simp only [ne_eq, Option.some.injEq]; omega); have hG := grownBy_trans hG E6; have hB1 := hB1.grown E6 (by simp only [ne_eq, Option.some.injEq]; omega)
        have hB2 := hB2.grown E6 (by simp only [ne_eq, Option.some.injEq]; omega); have hO := hO.grown E6 (by omega); have hs5 := E6.size; refine Wo_nil ?_; refine W_cond rfl (fun h4 => ?_) (fun h4 => ?_); refine W_region rfl ?_
        refine Wo rfl (opv_fieldAddr Tryz.underlying75 rfl rfl Tryz.sizeOf9 rfl) ?_; refine Wo (v := .string _) rfl (opv_load Tryz.isAgg9 rfl (hB3.cell rfl)) ?_; refine Wo rfl (opv_add_str rfl rfl (by simp <;> omega)) ?_
        refine Wo rfl (opv_fieldAddr Tryz.underlying75 rfl rfl Tryz.sizeOf9 rfl) ?_; refine Wo_st (v := .string _) rfl Tryz.sizeOf9 rfl rfl rfl hB3 (by simp) (by omega) Ehr2 ?_; rintro w7 E7 hB3 K2 hz2; simp only [List.set] at hB3
        have hr2 := hr2.wrote E7 (K2 _ (by omega)) hz2; have hG := grownBy_wrote hG Ehr2 E7 K2 hz2 (by first | exact .inr rfl | omega); have hB1 := hB1.of_heap (K2 _ (by omega)); have hB2 := hB2.of_heap (K2 _ (by omega))
        have hO := hO.wrote K2 (by omega); refine Wo_nil ?_; refine W_seq ?_; refine W_region rfl ?_; refine Wo (v := .agg _) rfl (opv_load3 Tryz.isAgg75 Tryz.sizeOf75 rfl hB3) ?_
        refine Wo_st3 rfl Tryz.sizeOf75 rfl rfl (by first | rfl | assumption) (by first | rfl | assumption) (by first | rfl | assumption) hB2 (by omega) E7 ?_; rintro w8 E8 hB2 K3 hz3; have hB3 := hB3.of_heap (K3 _ (by omega))
        have hr2 := hr2.wrote E8 (K3 _ (by omega)) hz3; have hG := grownBy_wrote hG E7 E8 K3 hz3 (by first | exact .inr rfl | omega); have hB1 := hB1.of_heap (K3 _ (by omega)); have hO := hO.wrote K3 (by omega); refine Wo_nil ?_
        refine W_ret ?_; rotate_left; refine W_skip ?_; refine W_seq ?_; refine W_region rfl ?_; refine Wo (v := .agg _) rfl (opv_load3 Tryz.isAgg75 Tryz.sizeOf75 rfl hB3) ?_
        refine Wo_st3 rfl Tryz.sizeOf75 rfl rfl (by first | rfl | assumption) (by first | rfl | assumption) (by first | rfl | assumption) hB2 (by omega) Ehr2 ?_; rintro w7 E7 hB2 K2 hz2; have hr2 := hr2.wrote E7 (K2 _ (by omega)) hz2
        have hB3 := hB3.of_heap (K2 _ (by omega)); have hG := grownBy_wrote hG Ehr2 E7 K2 hz2 (by first | exact .inr rfl | omega); have hB1 := hB1.of_heap (K2 _ (by omega)); have hO := hO.wrote K2 (by omega); refine Wo_nil ?_
        refine W_ret ?_; rotate_left; refine W_skip ?_; refine W_seq ?_; refine W_seq ?_; refine W_region rfl ?_; refine Wo rfl (opv_move (v := .pointer _) rfl) ?_
        refine Wo_call rfl (opc2 (a := .pointer _) (b := .int _ _) Tryz.call64 rfl rfl) (odd_ok _ _ (by assumption) (by omega) (by omega)) ?_; rintro _ w4 ⟨y1, rfl, E4, hr1, hy1⟩; (try dsimp only at hy1); have hlhr1 := hr1.lt
        have Ehr1 := hr1.old; have hG := grownBy_trans hG E4; have hB1 := hB1.grown E4 (by simp only [ne_eq, Option.some.injEq]; omega); have hB2 := hB2.grown E4 (by simp only [ne_eq, Option.some.injEq]; omega)
        have hB3 := hB3.grown E4 (by simp only [ne_eq, Option.some.injEq]; omega); have hO := hO.grown E4 (by omega); have hs4 := E4.size; refine Wo_nil ?_; refine W_cond rfl (fun h4 => ?_) (fun h4 => ?_); refine W_region rfl ?_
        refine Wo rfl (opv_fieldAddr Tryz.underlying75 rfl rfl Tryz.sizeOf9 rfl) ?_; refine Wo (v := .string _) rfl (opv_load Tryz.isAgg9 rfl (hB3.cell rfl)) ?_; refine Wo rfl (opv_add_str rfl rfl (by simp <;> omega)) ?_
        refine Wo rfl (opv_fieldAddr Tryz.underlying75 rfl rfl Tryz.sizeOf9 rfl) ?_; refine Wo_st (v := .string _) rfl Tryz.sizeOf9 rfl rfl rfl hB3 (by simp) (by omega) Ehr1 ?_; rintro w5 E5 hB3 K1 hz1; simp only [List.set] at hB3
        have hr1 := hr1.wrote E5 (K1 _ (by omega)) hz1; have hG := grownBy_wrote hG Ehr1 E5 K1 hz1 (by first | exact .inr rfl | omega); have hB1 := hB1.of_heap (K1 _ (by omega)); have hB2 := hB2.of_heap (K1 _ (by omega))
        have hO := hO.wrote K1 (by omega); refine Wo_nil ?_; refine W_seq ?_; refine W_region rfl ?_; refine Wo (v := .agg _) rfl (opv_load3 Tryz.isAgg75 Tryz.sizeOf75 rfl hB3) ?_
        refine Wo_st3 rfl Tryz.sizeOf75 rfl rfl (by first | rfl | assumption) (by first | rfl | assumption) (by first | rfl | assumption) hB2 (by omega) E5 ?_; rintro w6 E6 hB2 K2 hz2; have hB3 := hB3.of_heap (K2 _ (by omega))
        have hr1 := hr1.wrote E6 (K2 _ (by omega)) hz2; have hG := grownBy_wrote hG E5 E6 K2 hz2 (by first | exact .inr rfl | omega); have hB1 := hB1.of_heap (K2 _ (by omega)); have hO := hO.wrote K2 (by omega); refine Wo_nil ?_
        refine W_ret ?_; rotate_left; refine W_skip ?_; refine W_seq ?_; refine W_region rfl ?_; refine Wo (v := .agg _) rfl (opv_load3 Tryz.isAgg75 Tryz.sizeOf75 rfl hB3) ?_
        refine Wo_st3 rfl Tryz.sizeOf75 rfl rfl (by first | rfl | assumption) (by first | rfl | assumption) (by first | rfl | assumption) hB2 (by omega) Ehr1 ?_; rintro w5 E5 hB2 K1 hz1; have hr1 := hr1.wrote E5 (K1 _ (by omega)) hz1
        have hG := grownBy_wrote hG Ehr1 E5 K1 hz1 (by first | exact .inr rfl | omega); have hB1 := hB1.of_heap (K1 _ (by omega)); have hB3 := hB3.of_heap (K1 _ (by omega)); have hO := hO.wrote K1 (by omega); refine Wo_nil ?_
        refine W_ret ?_; rotate_left
      all_goals
        refine ⟨b2, _, _, _, rfl, hB2, _, _, _, rfl, hG, ?_, ?_⟩
        · first | exact hr7.le (by omega) | exact hr6.le (by omega) | exact hr5.le (by omega) | exact hr4.le (by omega) | exact hr3.le (by omega) | exact hr2.le (by omega) | exact hr1.le (by omega) | exact hr.le (by omega)
        · unfold DrP; simp only [List.length_append, List.length_cons, List.length_nil]; omega

end Go.Proofs.YtgphoihilheoeaaGreatDoor
set_option linter.unusedVariables false
set_option linter.unusedSimpArgs false
namespace Go.Hs
theorem XAll.imp {α : Type} {X Y : World → List Nat → Value → α → Prop} {w : World} (hXY : ∀ {f : List Nat} {c : Value} {x : α}, X w f c x → Y w f c x) : ∀ {fs : List (List Nat)} {cs : List Value} {xs : List α}, XAll X w fs cs xs → XAll Y w fs cs xs
  | [], [], [], _ => trivial
  | f :: fs, c :: cs, x :: xs, h => ⟨hXY h.1, XAll.imp hXY h.2⟩
  | [], _ :: _, _, h => h.elim
  | [], [], _ :: _, h => h.elim
  | _ :: _, [], _, h => h.elim
  | _ :: _, _ :: _, [], h => h.elim
theorem Loc.xrd {α : Type} {X : World → List Nat → Value → α → Prop} {E : World → Value → α → Prop} [Loc X] [Shows X E] {w : World} {f : List Nat} {c : Value} {x : α} (h : X w f c x) : XRd E w f c x := ⟨fun w1 hk => Shows.shows (Loc.loc hk h), Loc.cell h, Loc.lt h⟩
/-- a desk's two parts, the past of its own; x: the set's value, the set, the past -/
def XDk (e : TypeId) : World → List Nat → Value → (Value × List (List Int) × List (List (List Int))) → Prop := fun w fp v x => (∀ k ∈ fp, k < w.heap.size) ∧
  ∃ f1 cs fps, (∀ k ∈ v.ownBlock.toList ++ (f1 ++ fps.flatten), k ∈ fp) ∧ (∀ k, v.ownBlock = some k → k ∉ f1 ++ fps.flatten) ∧ XRd (ESl Ints) w f1 x.1 x.2.1 ∧ w.ownsRow 0 e 1 v x.2.2.length cs ∧ XAll (XRd (ESl Ints)) w fps cs x.2.2
section
variable {e : TypeId} {lo hi : Nat} {w w' w0 : World} {v u : Value} {now : List (List Int)} {past : List (List (List Int))}
theorem ownsRow_cell {n size : Nat} {xs : List Value} {base : Nat} (h : w.ownsRow base e size v n xs) : isCell v = true := by
  rcases h.2 with ⟨rfl, _⟩ | ⟨g, cap, cur, rfl, _⟩ <;> rfl
instance loc_XDk : Loc (XDk e) := ⟨by
    rintro w w' fp v ⟨u, now, past⟩ hk ⟨h0, f1, cs, fps, h1, h2, h3, h4, h5⟩
    refine ⟨fun k hm => ?_, f1, cs, fps, h1, h2, Loc.loc (fun k hm => hk k (h1 k (by simp [hm]))) h3, ownsRow_loc (fun k e => hk k (h1 k (by simp [e]))) h4, h5.loc (fun k hm => hk k (h1 k (by simp only [List.mem_append]; exact .inr (.inr hm))))⟩
    have a1 := hk k hm
    have a2 := h0 k hm
    rw [Array.getElem?_eq_getElem a2] at a1
    exact (Array.getElem?_eq_some_iff.1 a1).1, fun h => h.1, by
    rintro w fp v ⟨u, now, past⟩ ⟨h0, f1, cs, fps, h1, h2, h3, h4, h5⟩
    exact ownsRow_cell h4⟩
theorem OwnedB.dkNow (h : OwnedB lo hi (XDk e) w v (u, now, past)) : OwnedB lo hi (XRd (ESl Ints)) w u now := by
  obtain ⟨fp, a1, a2, h0, f1, cs, fps, h1, h2, h3, h4, h5⟩ := h
  exact ⟨fp, a1, a2, fun w1 hk => h3.1 w1 (fun k hm => hk k (h1 k (by simp [hm]))), h3.2.1, h0⟩
theorem OwnedB.dkPast (h : OwnedB lo hi (XDk e) w v (u, now, past)) : OwnedB lo hi (XRd (ESl (ESl Ints))) w v past := by
  obtain ⟨fp, a1, a2, h0, f1, cs, fps, h1, h2, h3, h4, h5⟩ := h
  have hx : XSl e (XRd (ESl Ints)) w (v.ownBlock.toList ++ fps.flatten) v past := ⟨cs, fps, h4, rfl, h5⟩
  have hx' := Loc.xrd hx
  refine ⟨fp, a1, a2, fun w1 hk => hx'.1 w1 (fun k hm => hk k (h1 k ?_)), hx'.2.1, h0⟩
  rcases List.mem_append.1 hm with hm | hm
  · simp [hm]
  · simp only [List.mem_append]; exact .inr (.inr hm)
theorem mkDkB {f1 : List Nat} {cs : List Value} {fps : List (List Nat)} (hw : hi ≤ w.heap.size) (h1 : ∀ k ∈ v.ownBlock.toList ++ (f1 ++ fps.flatten), lo ≤ k ∧ k < hi) (h2 : ∀ k, v.ownBlock = some k → k ∉ f1 ++ fps.flatten)
    (h3 : XRd (ESl Ints) w f1 u now) (h4 : w.ownsRow 0 e 1 v past.length cs) (h5 : XAll (XRd (ESl Ints)) w fps cs past) : OwnedB lo hi (XDk e) w v (u, now, past) := by
  refine ⟨List.range' lo (hi - lo), List.nodup_range', fun k hk => ?_, fun k hk => ?_, f1, cs, fps, fun k hk => ?_, h2, h3, h4, h5⟩
  · have := List.mem_range'_1.1 hk; omega
  · have := List.mem_range'_1.1 hk; omega
  · have a1 := h1 k hk
    exact List.mem_range'_1.2 (by omega)
theorem mkDk {f1 : List Nat} {cs : List Value} {fps : List (List Nat)} (h1 : ∀ k ∈ v.ownBlock.toList ++ (f1 ++ fps.flatten), lo ≤ k) (h2 : ∀ k, v.ownBlock = some k → k ∉ f1 ++ fps.flatten)
    (h3 : XRd (ESl Ints) w f1 u now) (h4 : w.ownsRow 0 e 1 v past.length cs) (h5 : XAll (XRd (ESl Ints)) w fps cs past) : OwnedB lo w.heap.size (XDk e) w v (u, now, past) := by
  refine mkDkB (Nat.le_refl _) (fun k hk => ⟨h1 k hk, ?_⟩) h2 h3 h4 h5
  rcases List.mem_append.1 hk with hk | hk
  · exact (h4.lt k (by simpa using hk)).2
  · rcases List.mem_append.1 hk with hk | hk
    · exact h3.2.2 k hk
    · exact h5.lt k hk
theorem XDk.own {fp : List Nat} (h : XDk e w fp v (u, now, past)) (hl : ∀ k ∈ fp, lo ≤ k) : OwnedB lo w.heap.size (XDk e) w v (u, now, past) := by
  obtain ⟨h0, f1, cs, fps, h1, h2, h3, h4, h5⟩ := h
  exact mkDk (fun k hk => hl k (h1 k hk)) h2 h3 h4 h5
theorem OwnedB.lt_own {α : Type} {X : World → List Nat → Value → α → Prop} {xs : List α} (h : OwnedB lo hi (XSl e X) w v xs) {k : Nat} (hk : v.ownBlock = some k) : lo ≤ k ∧ k < hi := by
  obtain ⟨fp, a1, a2, cs, fps, h3, rfl, h5⟩ := h
  exact a2 k (by simp [hk])
/-- the last one of the past, and the others -/
theorem OwnedB.backDk {X : World → List Nat → Value → List (List Int) → Prop} [Loc X] [Shows X (ESl Ints)] (h : OwnedB lo hi (XSl e X) w v past) (hp : 0 < past.length) (hw : hi ≤ w.heap.size) :
    ∃ b c ur, v = .slice (some ⟨b, 0, none⟩) past.length c ∧ past.length ≤ c ∧ w.cell? ⟨b, past.length - 1, none⟩ = some ur ∧ isCell ur = true ∧ lo ≤ b ∧ b < hi ∧
      OwnedB lo hi (XDk e) w (.slice (some ⟨b, 0, none⟩) (past.length - 1) c) (ur, past[past.length - 1], past.take (past.length - 1)) := by
  obtain ⟨fp, a1, a2, cs, fps, h3, rfl, h5⟩ := h
  obtain ⟨f, ur, h6, h7, h8⟩ := h5.at (i := past.length - 1) (by omega)
  have hl := h5.len
  have h3' := h3
  rcases h3.2 with ⟨rfl, h9⟩ | ⟨g, cap, cur, rfl, hb, hg, hc, hm, hs, ht⟩
  · omega
  have hgm : g ∈ (Value.ownBlock (.slice (some ⟨g, 0, none⟩) past.length cap)).toList ++ fps.flatten := by simp [Value.ownBlock]
  have hfm : f ∈ fps := List.mem_of_getElem? h6
  have hsub : ∀ k ∈ f, k ∈ fps.flatten := fun k hk => List.mem_flatten.2 ⟨f, hfm, hk⟩
  have htk : ∀ k ∈ (fps.take (past.length - 1)).flatten, k ∈ fps.flatten := fun k hk => by
    obtain ⟨g', hg', hk⟩ := List.mem_flatten.1 hk
    exact List.mem_flatten.2 ⟨g', List.mem_of_mem_take hg', hk⟩
  have hnd : g ∉ fps.flatten := by
    have := (List.nodup_append.1 a1).2.2
    exact fun hk => this g (by simp [Value.ownBlock]) g hk rfl
  refine ⟨g, cap, ur, rfl, hc, ?_, h5.cells ur (List.mem_of_getElem? h7), (a2 g hgm).1, (a2 g hgm).2, mkDkB hw (f1 := f) (cs := cs.take (past.length - 1)) (fps := fps.take (past.length - 1)) (fun k hk => ?_) (fun k hk hm => ?_) (Loc.xrd h8) ?_ (XAll.imp Loc.xrd (XAll_take _ h5))⟩
  · rw [h3'.cellAt (past.length - 1) (by omega), h7]
  · refine a2 k ?_
    rcases List.mem_append.1 hk with hk | hk
    · have : k = g := by simpa [Value.ownBlock] using hk
      rw [this]; exact hgm
    · rcases List.mem_append.1 hk with hk | hk
      · exact List.mem_append_right _ (hsub k hk)
      · exact List.mem_append_right _ (htk k hk)
  · have : g = k := by simpa [Value.ownBlock] using hk
    subst this
    rcases List.mem_append.1 hm with hm | hm
    · exact hnd (hsub g hm)
    · exact hnd (htk g hm)
  · refine ⟨by rw [List.length_take, List.length_take, h3.1]; omega, .inr ⟨g, cap, cur, ?_, hb, hg, by rw [List.length_take]; omega, hm, hs, ?_⟩⟩
    · rw [List.length_take, Nat.min_eq_left (by omega)]
    · rw [List.length_take, ← ht, List.take_take, Nat.mul_one, Nat.mul_one, Nat.min_eq_left (by omega)]
theorem OwnedB.dk {X Y : World → List Nat → Value → List (List Int) → Prop} [Loc X] [Shows X (ESl Ints)] [Loc Y] [Shows Y (ESl Ints)] {l2 h2' : Nat} (h : OwnedB lo hi (XSl e X) w v past) (ho : OwnedB l2 h2' Y w u now) {lo' hi' : Nat} (hl : lo' ≤ lo ∧ lo' ≤ l2 ∧ hi ≤ hi' ∧ h2' ≤ hi' ∧ hi' ≤ w.heap.size) (hne : ∀ k, v.ownBlock = some k → k < l2 ∨ h2' ≤ k) :
    OwnedB lo' hi' (XDk e) w v (u, now, past) := by
  obtain ⟨fp, a1, a2, cs, fps, h3, rfl, h5⟩ := h
  obtain ⟨fq, b1, b2, b3⟩ := ho
  refine mkDkB hl.2.2.2.2 (f1 := fq) (cs := cs) (fps := fps) (fun k hk => ?_) (fun k hk hm => ?_) (Loc.xrd b3) h3 (XAll.imp Loc.xrd h5)
  · rcases List.mem_append.1 hk with hk | hk
    · have := a2 k (List.mem_append_left _ hk); omega
    · rcases List.mem_append.1 hk with hk | hk
      · have := b2 k hk; omega
      · have := a2 k (List.mem_append_right _ hk); omega
  · rcases List.mem_append.1 hm with hm | hm
    · have := b2 k hm
      have := hne k hk
      omega
    · have := (List.nodup_append.1 a1).2.2
      exact this k (by simp [hk]) k hm rfl
/-- an own past and a set that lies elsewhere -/
theorem Owned.dk {X Y : World → List Nat → Value → List (List Int) → Prop} [Loc X] [Shows X (ESl Ints)] [Loc Y] [Shows Y (ESl Ints)] {l2 h2' : Nat} (h : Owned lo (XSl e X) w v past) (ho : OwnedB l2 h2' Y w u now) (hl : lo ≤ l2) (hne : ∀ k, v.ownBlock = some k → k < l2 ∨ h2' ≤ k) :
    OwnedB lo w.heap.size (XDk e) w v (u, now, past) := by
  obtain ⟨fp, a1, a2, cs, fps, h3, rfl, h5⟩ := h
  obtain ⟨fq, b1, b2, b3⟩ := ho
  refine mkDk (f1 := fq) (cs := cs) (fps := fps) (fun k hk => ?_) (fun k hk hm => ?_) (Loc.xrd b3) h3 (XAll.imp Loc.xrd h5)
  · rcases List.mem_append.1 hk with hk | hk
    · exact a2 k (List.mem_append_left _ hk)
    · rcases List.mem_append.1 hk with hk | hk
      · have := (b2 k hk).1; omega
      · exact a2 k (List.mem_append_right _ hk)
  · rcases List.mem_append.1 hm with hm | hm
    · have := b2 k hm
      have := hne k hk
      omega
    · have := (List.nodup_append.1 a1).2.2
      exact this k (by simp [hk]) k hm rfl
end
section
variable {P : Program} {n : Nat} {N : Env → World → Prop} {ρ : Env} {w w0 : World} {all : Array Oper} {rest : List Oper} {d : Nat} {ty t el : TypeId} {pos : String} {after : Array Edge} {g : Option (Nat × Bool)} {x s : Operand} {v u z : Value} {lo hi : Nat} {now : List (List Int)} {past : List (List (List Int))}
/-- an empty set comes behind a desk's past -/
theorem Wo_appDk {b c c0 : Nat} {a0 : Option Addr} (hw : wantedE all ⟨some d, .call { callee := .builtin .append, args := #[s, x], argTypes := #[t, t] }, ty, pos, after, g⟩ ρ = true) (hT : El P t el z)
    (hv : evalE ρ s = v) (hx : evalE ρ x = .slice (some ⟨b, 0, none⟩) 1 c) (hB : Blk w b [.slice a0 0 c0]) (h : OwnedB lo hi (XDk el) w v (u, now, past)) (hy : ESl Ints w (.slice a0 0 c0) []) (hbig : past.length + 1 ≤ 1099511627776) (hlw : lo ≤ w.heap.size)
    (hk : ∀ q v' w', lo ≤ q → (q < hi ∨ w.heap.size ≤ q) → w.grownBy w' (some q) → (∃ fp : List Nat, (∀ k ∈ fp, (lo ≤ k ∧ k < hi) ∨ w.heap.size ≤ k) ∧ XDk el w' fp v' (u, now, past ++ [[]])) → Wops P n all rest N (upd ρ d v') w') :
    Wops P n all (⟨some d, .call { callee := .builtin .append, args := #[s, x], argTypes := #[t, t] }, ty, pos, after, g⟩ :: rest) N ρ w := by
  obtain ⟨i, hi', hz, hs, hby⟩ := hT.info
  have hcell : w.cell? ⟨b, 0, none⟩ = some (.slice a0 0 c0) := hB.cell rfl
  obtain ⟨fp, a1, a2, h0, f1, cs, fps, h1, h2, h3, h4, h5⟩ := h
  obtain ⟨v', w', r1, r2, r3, r4⟩ := run_app (P := P) (ty := ty) hT.und hi' hz hs hby hT.zero h4 ⟨b, 0, none⟩ 1 c [.slice a0 0 c0] rfl (fun j u' hj => by
    cases j with
    | zero => simp at hj; subst hj; simpa [Addr.add] using hcell
    | succ j => simp at hj) (fun u hu => by simp at hu; subst hu; rfl) hbig (Nat.zero_le _)
  have hlt1 : ∀ k ∈ f1 ++ fps.flatten, k < w.heap.size := fun k hk => by
    rcases List.mem_append.1 hk with hk | hk
    · exact h3.2.2 k hk
    · exact h5.lt k hk
  have hkeep : ∀ k ∈ f1 ++ fps.flatten, w'.heap[k]? = w.heap[k]? := fun k hk => r3.block k (hlt1 k hk) (fun e => h2 k e.symm hk)
  have hfl : (fps ++ [[]]).flatten = fps.flatten := by simp
  have hE : ∀ w1, ESl Ints w1 (.slice a0 0 c0) [] := fun w1 => by
    obtain ⟨a, c1, e1, hle, hr⟩ := hy
    exact ⟨a, c1, e1, hle, .inl rfl⟩
  have hvb : ∀ k, v'.ownBlock = some k → ((lo ≤ k ∧ k < hi) ∨ w.heap.size ≤ k) := fun k hk => by
    rcases r4 with r4 | ⟨q, r4, hq⟩
    · rw [r4] at hk
      exact .inl (a2 k (h1 k (List.mem_append_left _ (by simp [hk]))))
    · rw [r4] at hk
      cases hk
      exact .inr hq
  have r2' : w'.ownsRow 0 el 1 v' (past ++ [[]]).length (cs ++ [.slice a0 0 c0]) := by rw [List.length_append]; exact r2
  have hnew : ∃ fp : List Nat, (∀ k ∈ fp, (lo ≤ k ∧ k < hi) ∨ w.heap.size ≤ k) ∧ XDk el w' fp v' (u, now, past ++ [[]]) := by
    refine ⟨v'.ownBlock.toList ++ (f1 ++ (fps ++ [[]]).flatten), fun k hk => ?_, fun k hk => ?_, f1, cs ++ [.slice a0 0 c0], fps ++ [[]], fun k hk => hk, fun k hk hm => ?_, Loc.loc (fun k hk => hkeep k (List.mem_append_left _ hk)) h3, r2', XAll.append (h5.loc fun k hk => hkeep k (List.mem_append_right _ hk)) ⟨⟨fun w1 _ => hE w1, rfl, fun k hk => by cases hk⟩, trivial⟩⟩
    · rw [hfl] at hk
      rcases List.mem_append.1 hk with hk | hk
      · exact hvb k (by simpa using hk)
      · exact .inl (a2 k (h1 k (List.mem_append_right _ hk)))
    · rw [hfl] at hk
      rcases List.mem_append.1 hk with hk | hk
      · exact (r2'.lt k (by simpa using hk)).2
      · have := hlt1 k hk
        have := r3.size
        omega
    · rw [hfl] at hm
      rcases r4 with r4 | ⟨q, r4, hq⟩
      · rw [r4] at hk
        exact h2 k hk hm
      · rw [r4] at hk
        have := hlt1 k hm
        cases hk
        omega
  refine Wo_run (v := v') (w' := w') hw ?_ ?_
  · simp only [execOp, resolve, invoke, builtin, Sem.run_bind, Sem.run_pure, Result.andThen_ok, List.map_toArray, List.map_cons, List.map_nil, hv, hx, r1]
  · cases hob : v.ownBlock with
    | none =>
      rw [hob] at r3
      exact hk w.heap.size v' w' hlw (.inr (Nat.le_refl _)) ⟨r3.os, r3.tape, r3.output, r3.size, fun j hj _ => r3.block j hj (by simp)⟩ hnew
    | some q =>
      rw [hob] at r3
      have := a2 q (h1 q (by simp [hob]))
      exact hk q v' w' this.1 (.inl this.2) r3 hnew
end
/-- a desk after a deed, and whether it was done; then, if the past was short, it is of the call's own -/
def RetDkF (w : World) (e : TypeId) (np : Nat) (now : List (List Int)) (past : List (List (List Int))) (b : Bool) : Value → World → Prop := fun v w' => ∃ u1 u2, v = .tuple #[.agg #[u1, u2], .bool b] ∧ Ext w w' ∧ Above w.heap.size (ESl Ints) w' u1 now ∧ Above w.heap.size (ESl (ESl Ints)) w' u2 past ∧ isCell u1 = true ∧ isCell u2 = true ∧ w.heap.size < w'.heap.size ∧ (b = true → np < 8 → OwnedB w.heap.size w'.heap.size (XDk e) w' u2 (u1, now, past))
/-- own, if a condition holds -/
def XIf {α : Type} (c : Prop) (X : World → List Nat → Value → α → Prop) : World → List Nat → Value → α → Prop := fun w fp v x => isCell v = true ∧ (∀ k ∈ fp, k < w.heap.size) ∧ (c → X w fp v x)
instance loc_XIf {α : Type} {c : Prop} {X : World → List Nat → Value → α → Prop} [Loc X] : Loc (XIf c X) := ⟨fun {w w' fp v x} hk h => ⟨h.1, fun k hm => by
    have h1 := hk k hm
    have h2 := h.2.1 k hm
    rw [Array.getElem?_eq_getElem h2] at h1
    exact (Array.getElem?_eq_some_iff.1 h1).1, fun hc => Loc.loc hk (h.2.2 hc)⟩, fun h => h.2.1, fun h => h.1⟩
theorem OwnedB.xif {α : Type} {c : Prop} {X : World → List Nat → Value → α → Prop} [Loc X] {w : World} {v : Value} {x : α} {lo hi : Nat} (hi' : hi ≤ w.heap.size) (hv : isCell v = true) (h : c → OwnedB lo hi X w v x) : OwnedB lo hi (XIf c X) w v x := by
  by_cases hc : c
  · obtain ⟨fp, h1, h2, h3⟩ := h hc
    exact ⟨fp, h1, h2, hv, fun k hk => by have := h2 k hk; omega, fun _ => h3⟩
  · exact ⟨[], by simp, (fun k hk => by cases hk), hv, (fun k hk => by cases hk), fun h => absurd h hc⟩
theorem OwnedB.ximp {α : Type} {c c' : Prop} {X : World → List Nat → Value → α → Prop} {w : World} {v : Value} {x : α} {lo hi : Nat} (h : OwnedB lo hi (XIf c X) w v x) (hc : c' → c) : OwnedB lo hi (XIf c' X) w v x := by
  obtain ⟨fp, h1, h2, h3, h4, h5⟩ := h
  exact ⟨fp, h1, h2, h3, h4, fun h => h5 (hc h)⟩
theorem OwnedB.xthen {α : Type} {c : Prop} {X : World → List Nat → Value → α → Prop} {w : World} {v : Value} {x : α} {lo hi : Nat} (h : OwnedB lo hi (XIf c X) w v x) (hc : c) : OwnedB lo hi X w v x := by
  obtain ⟨fp, h1, h2, _, _, h3⟩ := h
  exact ⟨fp, h1, h2, h3 hc⟩
def RetDkI (w : World) (e : TypeId) (np : Nat) (now : List (List Int)) (past : List (List (List Int))) (b : Bool) : Value → World → Prop := fun v w' => ∃ u1 u2, v = .tuple #[.agg #[u1, u2], .bool b] ∧ Ext w w' ∧ OwnedB w.heap.size w'.heap.size (XIf (b = true ∧ np < 8) (XDk e)) w' u2 (u1, now, past) ∧ isCell u1 = true ∧ isCell u2 = true ∧ w.heap.size < w'.heap.size
theorem RetDkF.i {w w' : World} {e : TypeId} {np : Nat} {now : List (List Int)} {past : List (List (List Int))} {b : Bool} {v : Value} (h : RetDkF w e np now past b v w') : RetDkI w e np now past b v w' := by
  obtain ⟨u1, u2, rfl, h1, h2, h3, h4, h5, h6, h7⟩ := h
  exact ⟨u1, u2, rfl, h1, OwnedB.xif (Nat.le_refl _) h5 (fun hc => h7 hc.1 hc.2), h4, h5, h6⟩
end Go.Hs
