/- Walks: streams drawn. -/
import Derived.Test.YtlalfmialbolhaaHsWStrP
import Derived.Test.YtlalfmialbolhaaHsWRdP
namespace Go.Proofs.Ytlalfmialbolhaa
open Go.Hs
set_option maxRecDepth 10000
set_option maxHeartbeats 4000000
set_option linter.unusedVariables false
set_option linter.unusedSimpArgs false

theorem Stream_ok {w0 : World} (w : World) {br m : Nat} (n : Int) (hr : Rdr w0 w br m) (hm : m ≤ 100000000) (hn : 0 ≤ n ∧ n ≤ 1000) :
    Does Try.prog 51 [.pointer (some ⟨br, 0, none⟩), .int .i64 n] w (RetDS w0 w br (m + 12) 3 (fun A B => A.length ≤ 12 ∧ B.length ≤ 8)) := by
  refine fn_of_Wc Try.func51 rfl Try.results51 Try.ntmps51 rfl Try.isAgg25 Try.sizeOf25 ?_
  have hG : w.grownBy w (some br) := grownBy_refl _ _
  have hlr := hr.lt
  have hgr := hr.ge
  have E0 := hr.old
  have litown : True := trivial
  focus
    have szE0 := E0.size; refine W_seq ?_; refine W_region rfl ?_; refine Wo_alloc2 rfl flat25 ?_; rintro b1 w1 hb1 E1 hB1; have hlb1 := hB1.lt; have hr := hr.ext E1; have hG := grownBy_ext hG E1; have hs1 := E1.size; refine Wo_nil ?_
    refine W_seq ?_; refine W_region rfl ?_; refine Wo rfl (opv_build (ps := []) (cs := [_, _]) flat25 rfl rfl) ?_; refine Wo_alloc2 rfl flat25 ?_; rintro b2 w2 hb2 E2 hB2; have hlb2 := hB2.lt; have hr := hr.ext E2
    have hG := grownBy_ext hG E2; have hs2 := E2.size; refine Wo_st2 rfl Try.sizeOf25 rfl rfl (by first | rfl | assumption) (by first | rfl | assumption) hB2 (by omega) ((E0.trans E1).trans E2) ?_; rintro w3 E3 hB2 K1 hz1
    have E4 := (E1.trans E2).wroteAt ((E0.trans E1).trans E2) E3 K1 hz1 (by omega); have szE4 := E4.size; have E5 := E2.wroteAt ((E0.trans E1).trans E2) E3 K1 hz1 (by omega); have szE5 := E5.size
    have hB1 := (hB1.ext E2).of_heap (K1 _ (by omega)); have hr := hr.wrote E3 (K1 _ (by omega)) hz1; have hG := grownBy_wrote hG ((E0.trans E1).trans E2) E3 K1 hz1 (by first | exact .inr rfl | omega); refine Wo_nil ?_; refine W_seq ?_
    refine W_seq ?_; refine W_region rfl ?_; refine Wo rfl (opv_move (v := .pointer _) rfl) ?_; refine Wo_call rfl (opc2 (a := .pointer _) (b := .int _ _) Try.call52 rfl rfl) (pick_ok _ _ (by assumption) (by omega)) ?_
    rintro _ w4 ⟨y1, rfl, E6, hr1, hy1⟩; (try dsimp only at hy1); have hlhr1 := hr1.lt; have Ehr1 := hr1.old; have hB2 := hB2.grown E6 (by simp only [ne_eq, Option.some.injEq]; omega)
    have hB1 := hB1.grown E6 (by simp only [ne_eq, Option.some.injEq]; omega); have hG := grownBy_trans hG E6; have hs3 := E6.size; refine Wo rfl (opv_assign (v := .int _ _) rfl) ?_; refine Wo_nil ?_; refine W_block ?_
  have hy1' := hy1 (by omega)
  have hs4 := hG.size
  clear hr E6
  refine W_loop [6, 11, 12, 13, 14, 15, 16, 17, 18, 19, 20, 21] (fun ((k, o, A) : Nat × Value × List Int) => [(6, .int .i64 (k : Int))]) (fun (k, o, A) w' => w.grownBy w' (some br) ∧ Rdr w0 w' br (m + 1 + (y1 - k)) ∧ k ≤ y1 ∧ w4.heap.size ≤ w'.heap.size ∧ Blk w' b1 [.slice none 0 0, .slice none 0 0] ∧ Blk w' b2 [o, .slice none 0 0] ∧ Owned w4.heap.size XI w' o A ∧ A.length + k = y1) (fun x => x.1) (y1, .slice none 0 0, []) (by repeat (first | exact trivial | refine And.intro rfl ?_)) ?_ ?_
  · exact ⟨hG, hr1.le (by omega), Nat.le_refl _, Nat.le_refl _, hB1, hB2, Owned.nil, by simp⟩
  clear hB1 hB2 hr1 hG
  rintro ⟨k, o, A⟩ ρj w5 ⟨hG, hr, hk, hs5, hB1, hB2, hO, hA⟩
  have E5 := hr.old
  have hlr5 := hr.lt
  have hs6 := hG.size
  by_cases hk0 : 0 < k
  · focus
      have szE5 := E5.size; have szEhr1 := Ehr1.size; have szE5 := E5.size; have szE4 := E4.size; have szE3 := E3.size; have szE2 := E2.size; have szE1 := E1.size; have szE0 := E0.size; refine W_seq ?_; refine W_seq ?_
      refine W_region rfl ?_; refine Wo rfl (opv_move (v := .int _ _) rfl) ?_; refine Wo rfl (opv_gtr rfl rfl) ?_; refine Wo_nil ?_; refine W_cond_dec rfl (fun h1 => ?_) (fun h1 => ?_); refine W_skip ?_; refine W_seq ?_; refine W_block ?_
      refine W_held (fun _ => True) mixed rfl (by kernel_rfl) ?_; intro w6 E6 K2 hz2; have hG := grownBy_ext hG E6; have hr := hr.ext E6; have hs7 := E6.size
      refine Wh_take 0 rfl (by kernel_rfl) (by kernel_rfl) rfl (fun _ _ => opv_fieldAddr Try.underlying25 rfl rfl Try.sizeOf23 rfl) trivial ?_
      refine Wh_take 2 rfl (by kernel_rfl) (by kernel_rfl) rfl (fun _ _ => opv_move (v := .pointer _) rfl) trivial ?_; refine Wh_all (rs := [1, 3]) (by kernel_rfl) rfl ?_; refine WhAll_cons rfl ?_ ?_
      refine Wo (v := o) rfl (opv_load Try.isAgg23 rfl ((hB2.ext E6).cell rfl)) ?_; refine Wo_nil ?_; refine ⟨trivial, ?_⟩; refine Wh_all (rs := [3]) (by kernel_rfl) rfl ?_; refine WhAll_cons rfl ?_ ?_
      refine Wo_call rfl (opc2 (a := .pointer _) (b := .int _ _) Try.call52 rfl rfl) (pick_ok _ _ (by assumption) (by omega)) ?_; rintro _ w7 ⟨y2, rfl, E7, hr1, hy2⟩; (try dsimp only at hy2); have hlhr1 := hr1.lt; have Ehr1 := hr1.old
      have hB1 := (hB1.ext E6).grown E7 (by simp only [ne_eq, Option.some.injEq]; omega); have hB2 := (hB2.ext E6).grown E7 (by simp only [ne_eq, Option.some.injEq]; omega); have hO := (hO.toB.ext E6).grown E7 (by omega)
      have hG := grownBy_trans hG E7; have hs8 := E7.size; refine Wo_nil ?_; refine ⟨trivial, ?_⟩; refine Wh_all (rs := [4]) (by kernel_rfl) rfl ?_; refine WhAll_cons rfl ?_ ?_
      refine Wo_buildSliceH (ps := [(0, .int _ _)]) (cs := [_]) rfl Try.underlying23 Try.sizeOf3 Try.zeroValue3 rfl rfl rfl rfl ?_; rintro b3 w8 hb3 E8 hB3 hHb3; have hlb3 := hB3.lt; have hLb3 := own_lit1 hHb3 hb3; clear hHb3
      have hr1 := hr1.ext E8; have hG := grownBy_ext hG E8; have hs9 := E8.size; refine Wo_nil ?_; refine ⟨trivial, ?_⟩; refine Wh_all (rs := [5]) (by kernel_rfl) rfl ?_; refine WhAll_cons rfl ?_ ?_
      refine Wo_app1 rfl el23 rfl rfl hB3 (hO.ext E8) Owned.int (Nat.le_refl _) (by first | omega | (simp <;> omega)) (by omega) (by omega) (Ehr1.trans E8) (by omega) ?_; have hT1 := (hO.ext E8); rintro v1 w9 hO E9 M1
      have hB1 := (hB1.ext E8).moves M1 hT1 (by omega); have hB2 := (hB2.ext E8).moves M1 hT1 (by omega); have hB3 := hB3.moves M1 hT1 (by omega); have hLb3 := hLb3.toB.moves M1 hT1 (by omega); have hr1 := hr1.moves E9 M1 hT1 (by omega)
      have hG := grownBy_moves hG M1 hT1 (by omega); have hs10 := E9.size; have szM1 := M1.1.size; have icv1 := OwnedB.isC (Owned.toB hO); refine Wo_nil ?_; refine ⟨trivial, ?_⟩
      refine Wh_take 6 rfl (by kernel_rfl) (by kernel_rfl) rfl (fun _ _ => opv_fieldAddr Try.underlying25 rfl rfl Try.sizeOf23 rfl) trivial ?_; refine Wh_all (rs := [7]) (by kernel_rfl) rfl ?_; refine WhAll_cons rfl ?_ ?_
      refine Wo_st (v := v1) rfl Try.sizeOf23 rfl rfl (OwnedB.isC hO.toB) hB2 (by simp) (by omega) E9 ?_; rintro w10 E10 hB2 K3 hz3; simp only [List.set] at hB2; have hO := hO.toB.wrote K3 (by omega)
      have hB1 := hB1.of_heap (K3 _ (by omega)); have hB3 := hB3.of_heap (K3 _ (by omega)); have hLb3 := hLb3.wrote K3 (by omega); have hr1 := hr1.wrote E10 (K3 _ (by omega)) hz3
      have hG := grownBy_wrote hG E9 E10 K3 hz3 (by first | exact .inr rfl | omega); refine Wo_nil ?_; refine ⟨trivial, ?_⟩; refine Wh_done (by kernel_rfl) ?_; refine W_region rfl ?_; refine Wo rfl (opv_move (v := .int _ _) rfl) ?_
      refine Wo rfl (opv_sub rfl rfl (by omega)) ?_; refine Wo rfl (opv_assign (v := .int _ _) rfl) ?_; refine Wo_nil ?_; rotate_left; exact WhAll_nil; exact WhAll_nil; exact WhAll_nil; exact WhAll_nil; refine WhAll_cons rfl ?_ ?_
      refine Wo_call rfl (opc2 (a := .pointer _) (b := .int _ _) Try.call52 rfl rfl) (pick_ok _ _ (by assumption) (by omega)) ?_; rintro _ w7 ⟨y2, rfl, E7, hr1, hy2⟩; (try dsimp only at hy2); have hlhr1 := hr1.lt; have Ehr1 := hr1.old
      have hB1 := (hB1.ext E6).grown E7 (by simp only [ne_eq, Option.some.injEq]; omega); have hB2 := (hB2.ext E6).grown E7 (by simp only [ne_eq, Option.some.injEq]; omega); have hO := (hO.toB.ext E6).grown E7 (by omega)
      have hG := grownBy_trans hG E7; have hs8 := E7.size; refine Wo_nil ?_; refine ⟨trivial, ?_⟩; refine Wh_all (rs := [1, 4]) (by kernel_rfl) rfl ?_; refine WhAll_cons rfl ?_ ?_
      refine Wo (v := o) rfl (opv_load Try.isAgg23 rfl (hB2.cell rfl)) ?_; refine Wo_nil ?_; refine ⟨trivial, ?_⟩; refine Wh_all (rs := [4]) (by kernel_rfl) rfl ?_; refine WhAll_cons rfl ?_ ?_
      refine Wo_buildSliceH (ps := [(0, .int _ _)]) (cs := [_]) rfl Try.underlying23 Try.sizeOf3 Try.zeroValue3 rfl rfl rfl rfl ?_; rintro b3 w8 hb3 E8 hB3 hHb3; have hlb3 := hB3.lt; have hLb3 := own_lit1 hHb3 hb3; clear hHb3
      have hr1 := hr1.ext E8; have hG := grownBy_ext hG E8; have hs9 := E8.size; refine Wo_nil ?_; refine ⟨trivial, ?_⟩; refine Wh_all (rs := [5]) (by kernel_rfl) rfl ?_; refine WhAll_cons rfl ?_ ?_
      refine Wo_app1 rfl el23 rfl rfl hB3 (hO.ext E8) Owned.int (Nat.le_refl _) (by first | omega | (simp <;> omega)) (by omega) (by omega) (Ehr1.trans E8) (by omega) ?_; have hT1 := (hO.ext E8); rintro v1 w9 hO E9 M1
      have hB1 := (hB1.ext E8).moves M1 hT1 (by omega); have hB2 := (hB2.ext E8).moves M1 hT1 (by omega); have hB3 := hB3.moves M1 hT1 (by omega); have hLb3 := hLb3.toB.moves M1 hT1 (by omega); have hr1 := hr1.moves E9 M1 hT1 (by omega)
      have hG := grownBy_moves hG M1 hT1 (by omega); have hs10 := E9.size; have szM1 := M1.1.size; have icv1 := OwnedB.isC (Owned.toB hO); refine Wo_nil ?_; refine ⟨trivial, ?_⟩
      refine Wh_take 6 rfl (by kernel_rfl) (by kernel_rfl) rfl (fun _ _ => opv_fieldAddr Try.underlying25 rfl rfl Try.sizeOf23 rfl) trivial ?_; refine Wh_all (rs := [7]) (by kernel_rfl) rfl ?_; refine WhAll_cons rfl ?_ ?_
      refine Wo_st (v := v1) rfl Try.sizeOf23 rfl rfl (OwnedB.isC hO.toB) hB2 (by simp) (by omega) E9 ?_; rintro w10 E10 hB2 K3 hz3; simp only [List.set] at hB2; have hO := hO.toB.wrote K3 (by omega)
      have hB1 := hB1.of_heap (K3 _ (by omega)); have hB3 := hB3.of_heap (K3 _ (by omega)); have hLb3 := hLb3.wrote K3 (by omega); have hr1 := hr1.wrote E10 (K3 _ (by omega)) hz3
      have hG := grownBy_wrote hG E9 E10 K3 hz3 (by first | exact .inr rfl | omega); refine Wo_nil ?_; refine ⟨trivial, ?_⟩; refine Wh_done (by kernel_rfl) ?_; refine W_region rfl ?_; refine Wo rfl (opv_move (v := .int _ _) rfl) ?_
      refine Wo rfl (opv_sub rfl rfl (by omega)) ?_; refine Wo rfl (opv_assign (v := .int _ _) rfl) ?_; refine Wo_nil ?_; rotate_left; exact WhAll_nil; exact WhAll_nil; exact WhAll_nil; refine WhAll_cons rfl ?_ ?_
      refine Wo_buildSliceH (ps := [(0, .int _ _)]) (cs := [_]) rfl Try.underlying23 Try.sizeOf3 Try.zeroValue3 rfl rfl rfl rfl ?_; rintro b3 w8 hb3 E8 hB3 hHb3; have hlb3 := hB3.lt; have hLb3 := own_lit1 hHb3 hb3; clear hHb3
      have hr1 := hr1.ext E8; have hG := grownBy_ext hG E8; have hs9 := E8.size; refine Wo_nil ?_; refine ⟨trivial, ?_⟩; refine Wh_all (rs := [1]) (by kernel_rfl) rfl ?_; refine WhAll_cons rfl ?_ ?_
      refine Wo (v := o) rfl (opv_load Try.isAgg23 rfl ((hB2.ext E8).cell rfl)) ?_; refine Wo_nil ?_; refine ⟨trivial, ?_⟩; refine Wh_all (rs := [5]) (by kernel_rfl) rfl ?_; refine WhAll_cons rfl ?_ ?_
      refine Wo_app1 rfl el23 rfl rfl hB3 (hO.ext E8) Owned.int (Nat.le_refl _) (by first | omega | (simp <;> omega)) (by omega) (by omega) (Ehr1.trans E8) (by omega) ?_; have hT1 := (hO.ext E8); rintro v1 w9 hO E9 M1
      have hB1 := (hB1.ext E8).moves M1 hT1 (by omega); have hB2 := (hB2.ext E8).moves M1 hT1 (by omega); have hB3 := hB3.moves M1 hT1 (by omega); have hLb3 := hLb3.toB.moves M1 hT1 (by omega); have hr1 := hr1.moves E9 M1 hT1 (by omega)
      have hG := grownBy_moves hG M1 hT1 (by omega); have hs10 := E9.size; have szM1 := M1.1.size; have icv1 := OwnedB.isC (Owned.toB hO); refine Wo_nil ?_; refine ⟨trivial, ?_⟩
      refine Wh_take 6 rfl (by kernel_rfl) (by kernel_rfl) rfl (fun _ _ => opv_fieldAddr Try.underlying25 rfl rfl Try.sizeOf23 rfl) trivial ?_; refine Wh_all (rs := [7]) (by kernel_rfl) rfl ?_; refine WhAll_cons rfl ?_ ?_
      refine Wo_st (v := v1) rfl Try.sizeOf23 rfl rfl (OwnedB.isC hO.toB) hB2 (by simp) (by omega) E9 ?_; rintro w10 E10 hB2 K3 hz3; simp only [List.set] at hB2; have hO := hO.toB.wrote K3 (by omega)
      have hB1 := hB1.of_heap (K3 _ (by omega)); have hB3 := hB3.of_heap (K3 _ (by omega)); have hLb3 := hLb3.wrote K3 (by omega); have hr1 := hr1.wrote E10 (K3 _ (by omega)) hz3
      have hG := grownBy_wrote hG E9 E10 K3 hz3 (by first | exact .inr rfl | omega); refine Wo_nil ?_; refine ⟨trivial, ?_⟩; refine Wh_done (by kernel_rfl) ?_; refine W_region rfl ?_; refine Wo rfl (opv_move (v := .int _ _) rfl) ?_
      refine Wo rfl (opv_sub rfl rfl (by omega)) ?_; refine Wo rfl (opv_assign (v := .int _ _) rfl) ?_; refine Wo_nil ?_; rotate_left; exact WhAll_nil; exact WhAll_nil; exact WhAll_nil; exact WhAll_nil; exact WhAll_nil; (exfalso; omega)
    all_goals
      refine ⟨(k - 1, v1, A ++ [(y2 : Int)]), ⟨congrArg (Value.int .i64) (show (k : Int) - 1 = ((k - 1 : Nat) : Int) by omega), trivial⟩, by repeat (first | with_reducible exact Same.refl | refine Same.upd rfl ?_ | refine Same.upds rfl ?_ | refine Same.mix rfl ?_), ?_, by simp only; omega⟩
      exact ⟨hG, hr1.le (by omega), by omega, by omega, hB1, hB2, hO.o, by simp; omega⟩
  obtain rfl : k = 0 := by omega
  have hA2 : A.length ≤ 2 := by omega
  clear hA
  focus
    have szE5 := E5.size; have szEhr1 := Ehr1.size; have szE5 := E5.size; have szE4 := E4.size; have szE3 := E3.size; have szE2 := E2.size; have szE1 := E1.size; have szE0 := E0.size; refine W_seq ?_; refine W_seq ?_
    refine W_region rfl ?_; refine Wo rfl (opv_move (v := .int _ _) rfl) ?_; refine Wo rfl (opv_gtr rfl rfl) ?_; refine Wo_nil ?_; refine W_cond_dec rfl (fun h1 => ?_) (fun h1 => ?_); contradiction; refine W_exit ?_
    refine exitX_same ?_; refine W_seq ?_; refine W_seq ?_; refine W_region rfl ?_; refine Wo rfl (opv_move (v := .pointer _) rfl) ?_
    refine Wo_call rfl (opc2 (a := .pointer _) (b := .int _ _) Try.call52 rfl rfl) (pick_ok _ _ (by assumption) (by omega)) ?_; rintro _ w6 ⟨y2, rfl, E6, hr1, hy2⟩; (try dsimp only at hy2); have hlhr1 := hr1.lt; have Ehr1 := hr1.old
    have hG := grownBy_trans hG E6; have hB1 := hB1.grown E6 (by simp only [ne_eq, Option.some.injEq]; omega); have hB2 := hB2.grown E6 (by simp only [ne_eq, Option.some.injEq]; omega); have hO := hO.toB.grown E6 (by omega)
    have hs7 := E6.size; refine Wo rfl (opv_add rfl rfl (by omega)) ?_; refine Wo rfl (opv_assign (v := .int _ _) rfl) ?_; refine Wo_nil ?_; refine W_block ?_
  have hy2' := hy2 (by omega)
  have hsA := hG.size
  clear hr
  refine W_loop [7, 25, 26, 27, 28, 29, 30, 31, 32, 33, 34, 35] (fun ((k, q, B) : Nat × Value × List Int) => [(7, .int .i64 (k : Int))]) (fun (k, q, B) w' => w.grownBy w' (some br) ∧ Rdr w0 w' br (m + 4 + (5 - k)) ∧ k ≤ 1 + y2 ∧ w6.heap.size ≤ w'.heap.size ∧ Blk w' b1 [.slice none 0 0, .slice none 0 0] ∧ Blk w' b2 [o, q] ∧ OwnedB w4.heap.size w5.heap.size XI w' o A ∧ Owned w6.heap.size XI w' q B ∧ B.length + k = 1 + y2) (fun x => x.1) (1 + y2, .slice none 0 0, []) (by repeat (first | exact trivial | refine And.intro rfl ?_)) ?_ ?_
  · exact ⟨hG, hr1.le (by omega), by omega, Nat.le_refl _, hB1, hB2, hO, Owned.nil, by simp⟩
  clear hB1 hB2 hr1 hG hO
  rintro ⟨k, q, B⟩ ρk w7 ⟨hG, hr, hk, hs7, hB1, hB2, hO, hQ, hB⟩
  have E7 := hr.old
  have hlr7 := hr.lt
  have hs8 := hG.size
  by_cases hk0 : 0 < k
  · focus
      have szE7 := E7.size; have szEhr1 := Ehr1.size; have szE5 := E5.size; have szEhr1 := Ehr1.size; have szE5 := E5.size; have szE4 := E4.size; have szE3 := E3.size; have szE2 := E2.size; have szE1 := E1.size; have szE0 := E0.size
      refine W_seq ?_; refine W_seq ?_; refine W_region rfl ?_; refine Wo rfl (opv_move (v := .int _ _) rfl) ?_; refine Wo rfl (opv_gtr rfl rfl) ?_; refine Wo_nil ?_; refine W_cond_dec rfl (fun h2 => ?_) (fun h2 => ?_); refine W_skip ?_
      refine W_seq ?_; refine W_block ?_; refine W_held (fun _ => True) mixed rfl (by kernel_rfl) ?_; intro w8 E8 K2 hz2; have hG := grownBy_ext hG E8; have hr := hr.ext E8; have hs9 := E8.size
      refine Wh_take 0 rfl (by kernel_rfl) (by kernel_rfl) rfl (fun _ _ => opv_fieldAddr Try.underlying25 rfl rfl Try.sizeOf23 rfl) trivial ?_
      refine Wh_take 2 rfl (by kernel_rfl) (by kernel_rfl) rfl (fun _ _ => opv_move (v := .pointer _) rfl) trivial ?_; refine Wh_all (rs := [1, 3]) (by kernel_rfl) rfl ?_; refine WhAll_cons rfl ?_ ?_
      refine Wo (v := q) rfl (opv_load Try.isAgg23 rfl ((hB2.ext E8).cell rfl)) ?_; refine Wo_nil ?_; refine ⟨trivial, ?_⟩; refine Wh_all (rs := [3]) (by kernel_rfl) rfl ?_; refine WhAll_cons rfl ?_ ?_
      refine Wo_call rfl (opc2 (a := .pointer _) (b := .int _ _) Try.call52 rfl rfl) (pick_ok _ _ (by assumption) (by omega)) ?_; rintro _ w9 ⟨y3, rfl, E9, hr1, hy3⟩; (try dsimp only at hy3); have hlhr1 := hr1.lt; have Ehr1 := hr1.old
      have hB1 := (hB1.ext E8).grown E9 (by simp only [ne_eq, Option.some.injEq]; omega); have hB2 := (hB2.ext E8).grown E9 (by simp only [ne_eq, Option.some.injEq]; omega); have hO := (hO.ext E8).grown E9 (by omega)
      have hQ := (hQ.toB.ext E8).grown E9 (by omega); have hG := grownBy_trans hG E9; have hs10 := E9.size; refine Wo_nil ?_; refine ⟨trivial, ?_⟩; refine Wh_all (rs := [4]) (by kernel_rfl) rfl ?_; refine WhAll_cons rfl ?_ ?_
      refine Wo_buildSliceH (ps := [(0, .int _ _)]) (cs := [_]) rfl Try.underlying23 Try.sizeOf3 Try.zeroValue3 rfl rfl rfl rfl ?_; rintro b3 w10 hb3 E10 hB3 hHb3; have hlb3 := hB3.lt; have hLb3 := own_lit1 hHb3 hb3; clear hHb3
      have hr1 := hr1.ext E10; have hG := grownBy_ext hG E10; have hs11 := E10.size; refine Wo_nil ?_; refine ⟨trivial, ?_⟩; refine Wh_all (rs := [5]) (by kernel_rfl) rfl ?_; refine WhAll_cons rfl ?_ ?_
      refine Wo_app1 rfl el23 rfl rfl hB3 (hQ.ext E10) Owned.int (Nat.le_refl _) (by first | omega | (simp <;> omega)) (by omega) (by omega) (Ehr1.trans E10) (by omega) ?_; have hT1 := (hQ.ext E10); rintro v1 w11 hQ E11 M1
      have hB1 := (hB1.ext E10).moves M1 hT1 (by omega); have hB2 := (hB2.ext E10).moves M1 hT1 (by omega); have hO := (hO.ext E10).moves M1 hT1 (by omega); have hB3 := hB3.moves M1 hT1 (by omega)
      have hLb3 := hLb3.toB.moves M1 hT1 (by omega); have hr1 := hr1.moves E11 M1 hT1 (by omega); have hG := grownBy_moves hG M1 hT1 (by omega); have hs12 := E11.size; have szM1 := M1.1.size; have icv1 := OwnedB.isC (Owned.toB hQ)
      refine Wo_nil ?_; refine ⟨trivial, ?_⟩; refine Wh_take 6 rfl (by kernel_rfl) (by kernel_rfl) rfl (fun _ _ => opv_fieldAddr Try.underlying25 rfl rfl Try.sizeOf23 rfl) trivial ?_; refine Wh_all (rs := [7]) (by kernel_rfl) rfl ?_
      refine WhAll_cons rfl ?_ ?_; refine Wo_st (v := v1) rfl Try.sizeOf23 rfl rfl (OwnedB.isC hQ.toB) hB2 (by simp) (by omega) E11 ?_; rintro w12 E12 hB2 K3 hz3; simp only [List.set] at hB2; have hQ := hQ.toB.wrote K3 (by omega)
      have hB1 := hB1.of_heap (K3 _ (by omega)); have hO := hO.wrote K3 (by omega); have hB3 := hB3.of_heap (K3 _ (by omega)); have hLb3 := hLb3.wrote K3 (by omega); have hr1 := hr1.wrote E12 (K3 _ (by omega)) hz3
      have hG := grownBy_wrote hG E11 E12 K3 hz3 (by first | exact .inr rfl | omega); refine Wo_nil ?_; refine ⟨trivial, ?_⟩; refine Wh_done (by kernel_rfl) ?_; refine W_region rfl ?_; refine Wo rfl (opv_move (v := .int _ _) rfl) ?_
      refine Wo rfl (opv_sub rfl rfl (by omega)) ?_; refine Wo rfl (opv_assign (v := .int _ _) rfl) ?_; refine Wo_nil ?_; rotate_left; exact WhAll_nil; exact WhAll_nil; exact WhAll_nil; exact WhAll_nil; refine WhAll_cons rfl ?_ ?_
      refine Wo_call rfl (opc2 (a := .pointer _) (b := .int _ _) Try.call52 rfl rfl) (pick_ok _ _ (by assumption) (by omega)) ?_; rintro _ w9 ⟨y3, rfl, E9, hr1, hy3⟩; (try dsimp only at hy3); have hlhr1 := hr1.lt; have Ehr1 := hr1.old
      have hB1 := (hB1.ext E8).grown E9 (by simp only [ne_eq, Option.some.injEq]; omega); have hB2 := (hB2.ext E8).grown E9 (by simp only [ne_eq, Option.some.injEq]; omega); have hO := (hO.ext E8).grown E9 (by omega)
      have hQ := (hQ.toB.ext E8).grown E9 (by omega); have hG := grownBy_trans hG E9; have hs10 := E9.size; refine Wo_nil ?_; refine ⟨trivial, ?_⟩; refine Wh_all (rs := [1, 4]) (by kernel_rfl) rfl ?_; refine WhAll_cons rfl ?_ ?_
      refine Wo (v := q) rfl (opv_load Try.isAgg23 rfl (hB2.cell rfl)) ?_; refine Wo_nil ?_; refine ⟨trivial, ?_⟩; refine Wh_all (rs := [4]) (by kernel_rfl) rfl ?_; refine WhAll_cons rfl ?_ ?_
      refine Wo_buildSliceH (ps := [(0, .int _ _)]) (cs := [_]) rfl Try.underlying23 Try.sizeOf3 Try.zeroValue3 rfl rfl rfl rfl ?_; rintro b3 w10 hb3 E10 hB3 hHb3; have hlb3 := hB3.lt; have hLb3 := own_lit1 hHb3 hb3; clear hHb3
      have hr1 := hr1.ext E10; have hG := grownBy_ext hG E10; have hs11 := E10.size; refine Wo_nil ?_; refine ⟨trivial, ?_⟩; refine Wh_all (rs := [5]) (by kernel_rfl) rfl ?_; refine WhAll_cons rfl ?_ ?_
      refine Wo_app1 rfl el23 rfl rfl hB3 (hQ.ext E10) Owned.int (Nat.le_refl _) (by first | omega | (simp <;> omega)) (by omega) (by omega) (Ehr1.trans E10) (by omega) ?_; have hT1 := (hQ.ext E10); rintro v1 w11 hQ E11 M1
      have hB1 := (hB1.ext E10).moves M1 hT1 (by omega); have hB2 := (hB2.ext E10).moves M1 hT1 (by omega); have hO := (hO.ext E10).moves M1 hT1 (by omega); have hB3 := hB3.moves M1 hT1 (by omega)
      have hLb3 := hLb3.toB.moves M1 hT1 (by omega); have hr1 := hr1.moves E11 M1 hT1 (by omega); have hG := grownBy_moves hG M1 hT1 (by omega); have hs12 := E11.size; have szM1 := M1.1.size; have icv1 := OwnedB.isC (Owned.toB hQ)
      refine Wo_nil ?_; refine ⟨trivial, ?_⟩; refine Wh_take 6 rfl (by kernel_rfl) (by kernel_rfl) rfl (fun _ _ => opv_fieldAddr Try.underlying25 rfl rfl Try.sizeOf23 rfl) trivial ?_; refine Wh_all (rs := [7]) (by kernel_rfl) rfl ?_
      refine WhAll_cons rfl ?_ ?_; refine Wo_st (v := v1) rfl Try.sizeOf23 rfl rfl (OwnedB.isC hQ.toB) hB2 (by simp) (by omega) E11 ?_; rintro w12 E12 hB2 K3 hz3; simp only [List.set] at hB2; have hQ := hQ.toB.wrote K3 (by omega)
      have hB1 := hB1.of_heap (K3 _ (by omega)); have hO := hO.wrote K3 (by omega); have hB3 := hB3.of_heap (K3 _ (by omega)); have hLb3 := hLb3.wrote K3 (by omega); have hr1 := hr1.wrote E12 (K3 _ (by omega)) hz3
      have hG := grownBy_wrote hG E11 E12 K3 hz3 (by first | exact .inr rfl | omega); refine Wo_nil ?_; refine ⟨trivial, ?_⟩; refine Wh_done (by kernel_rfl) ?_; refine W_region rfl ?_; refine Wo rfl (opv_move (v := .int _ _) rfl) ?_
      refine Wo rfl (opv_sub rfl rfl (by omega)) ?_; refine Wo rfl (opv_assign (v := .int _ _) rfl) ?_; refine Wo_nil ?_; rotate_left; exact WhAll_nil; exact WhAll_nil; exact WhAll_nil; refine WhAll_cons rfl ?_ ?_
      refine Wo_buildSliceH (ps := [(0, .int _ _)]) (cs := [_]) rfl Try.underlying23 Try.sizeOf3 Try.zeroValue3 rfl rfl rfl rfl ?_; rintro b3 w10 hb3 E10 hB3 hHb3; have hlb3 := hB3.lt; have hLb3 := own_lit1 hHb3 hb3; clear hHb3
      have hr1 := hr1.ext E10; have hG := grownBy_ext hG E10; have hs11 := E10.size; refine Wo_nil ?_; refine ⟨trivial, ?_⟩; refine Wh_all (rs := [1]) (by kernel_rfl) rfl ?_; refine WhAll_cons rfl ?_ ?_
      refine Wo (v := q) rfl (opv_load Try.isAgg23 rfl ((hB2.ext E10).cell rfl)) ?_; refine Wo_nil ?_; refine ⟨trivial, ?_⟩; refine Wh_all (rs := [5]) (by kernel_rfl) rfl ?_; refine WhAll_cons rfl ?_ ?_
      refine Wo_app1 rfl el23 rfl rfl hB3 (hQ.ext E10) Owned.int (Nat.le_refl _) (by first | omega | (simp <;> omega)) (by omega) (by omega) (Ehr1.trans E10) (by omega) ?_; have hT1 := (hQ.ext E10); rintro v1 w11 hQ E11 M1
      have hB1 := (hB1.ext E10).moves M1 hT1 (by omega); have hB2 := (hB2.ext E10).moves M1 hT1 (by omega); have hO := (hO.ext E10).moves M1 hT1 (by omega); have hB3 := hB3.moves M1 hT1 (by omega)
      have hLb3 := hLb3.toB.moves M1 hT1 (by omega); have hr1 := hr1.moves E11 M1 hT1 (by omega); have hG := grownBy_moves hG M1 hT1 (by omega); have hs12 := E11.size; have szM1 := M1.1.size; have icv1 := OwnedB.isC (Owned.toB hQ)
      refine Wo_nil ?_; refine ⟨trivial, ?_⟩; refine Wh_take 6 rfl (by kernel_rfl) (by kernel_rfl) rfl (fun _ _ => opv_fieldAddr Try.underlying25 rfl rfl Try.sizeOf23 rfl) trivial ?_; refine Wh_all (rs := [7]) (by kernel_rfl) rfl ?_
      refine WhAll_cons rfl ?_ ?_; refine Wo_st (v := v1) rfl Try.sizeOf23 rfl rfl (OwnedB.isC hQ.toB) hB2 (by simp) (by omega) E11 ?_; rintro w12 E12 hB2 K3 hz3; simp only [List.set] at hB2; have hQ := hQ.toB.wrote K3 (by omega)
      have hB1 := hB1.of_heap (K3 _ (by omega)); have hO := hO.wrote K3 (by omega); have hB3 := hB3.of_heap (K3 _ (by omega)); have hLb3 := hLb3.wrote K3 (by omega); have hr1 := hr1.wrote E12 (K3 _ (by omega)) hz3
      have hG := grownBy_wrote hG E11 E12 K3 hz3 (by first | exact .inr rfl | omega); refine Wo_nil ?_; refine ⟨trivial, ?_⟩; refine Wh_done (by kernel_rfl) ?_; refine W_region rfl ?_; refine Wo rfl (opv_move (v := .int _ _) rfl) ?_
      refine Wo rfl (opv_sub rfl rfl (by omega)) ?_; refine Wo rfl (opv_assign (v := .int _ _) rfl) ?_; refine Wo_nil ?_; rotate_left; exact WhAll_nil; exact WhAll_nil; exact WhAll_nil; exact WhAll_nil; exact WhAll_nil; (exfalso; omega)
    all_goals
      refine ⟨(k - 1, v1, B ++ [(y3 : Int)]), ⟨congrArg (Value.int .i64) (show (k : Int) - 1 = ((k - 1 : Nat) : Int) by omega), trivial⟩, by repeat (first | with_reducible exact Same.refl | refine Same.upd rfl ?_ | refine Same.upds rfl ?_ | refine Same.mix rfl ?_), ?_, by simp only; omega⟩
      exact ⟨hG, hr1.le (by omega), by omega, by omega, hB1, hB2, hO, hQ.o, by simp; omega⟩
  obtain rfl : k = 0 := by omega
  have hB4 : 1 ≤ B.length ∧ B.length ≤ 4 := by omega
  clear hB
  have stop10 : True := trivial
  focus
    have szE7 := E7.size; have szEhr1 := Ehr1.size; have szE5 := E5.size; have szEhr1 := Ehr1.size; have szE5 := E5.size; have szE4 := E4.size; have szE3 := E3.size; have szE2 := E2.size; have szE1 := E1.size; have szE0 := E0.size
    refine W_seq ?_; refine W_seq ?_; refine W_region rfl ?_; refine Wo rfl (opv_move (v := .int _ _) rfl) ?_; refine Wo rfl (opv_gtr rfl rfl) ?_; refine Wo_nil ?_; refine W_cond_dec rfl (fun h2 => ?_) (fun h2 => ?_); contradiction
    refine W_exit ?_; refine exitX_same ?_; refine W_seq ?_; refine W_seq ?_
  clear stop10
  refine W_mid [36, 37, 38] (fun (x : Bool) => [(38, .bool x)]) (fun x w' => w.grownBy w' (some br) ∧ Rdr w0 w' br (m + 10) ∧ w7.heap.size ≤ w'.heap.size ∧ Blk w' b1 [.slice none 0 0, .slice none 0 0] ∧ Blk w' b2 [o, q] ∧ OwnedB w4.heap.size w5.heap.size XI w' o A ∧ OwnedB w6.heap.size w7.heap.size XI w' q B) ?_ ?_
  · have hQ := hQ.toB
    focus
      have szE7 := E7.size; have szEhr1 := Ehr1.size; have szE5 := E5.size; have szEhr1 := Ehr1.size; have szE5 := E5.size; have szE4 := E4.size; have szE3 := E3.size; have szE2 := E2.size; have szE1 := E1.size; have szE0 := E0.size
      refine W_region rfl ?_; refine Wo rfl (opv_move (v := .pointer _) rfl) ?_; refine Wo_call rfl (opc2 (a := .pointer _) (b := .int _ _) Try.call52 rfl rfl) (pick_ok _ _ (by assumption) (by omega)) ?_
      rintro _ w8 ⟨y3, rfl, E8, hr1, hy3⟩; (try dsimp only at hy3); have hlhr1 := hr1.lt; have Ehr1 := hr1.old; have hG := grownBy_trans hG E8; have hB1 := hB1.grown E8 (by simp only [ne_eq, Option.some.injEq]; omega)
      have hB2 := hB2.grown E8 (by simp only [ne_eq, Option.some.injEq]; omega); have hO := hO.grown E8 (by omega); have hQ := hQ.grown E8 (by omega); have hs9 := E8.size; refine Wo rfl (opv_eql rfl rfl) ?_; refine Wo_nil ?_
    exact ⟨_, ⟨rfl, trivial⟩, by repeat (first | with_reducible exact Same.refl | refine Same.upd rfl ?_ | refine Same.upds rfl ?_ | refine Same.mix rfl ?_), hG, hr1.le (by omega), by assumption, hB1, hB2, hO, hQ⟩
  clear hG hr hB1 hB2 hO hQ
  rintro x ρ8 w8 ⟨hG, hr, hs9, hB1, hB2, hO, hQ⟩
  have E8 := hr.old
  have hlr8 := hr.lt
  refine W_mid [39, 40, 41, 42, 43, 44, 45, 46] (fun (_ : Value × List Int) => []) (fun (q', B') w' => w.grownBy w' (some br) ∧ Rdr w0 w' br (m + 10) ∧ w7.heap.size ≤ w'.heap.size ∧ Blk w' b1 [.slice none 0 0, .slice none 0 0] ∧ Blk w' b2 [o, q'] ∧ OwnedB w4.heap.size w5.heap.size XI w' o A ∧ Owned w6.heap.size XI w' q' B' ∧ 1 ≤ B'.length ∧ B'.length ≤ 8) ?_ ?_
  · cases x
    · focus
        have szE8 := E8.size; have szE7 := E7.size; have szEhr1 := Ehr1.size; have szE5 := E5.size; have szEhr1 := Ehr1.size; have szE5 := E5.size; have szE4 := E4.size; have szE3 := E3.size; have szE2 := E2.size; have szE1 := E1.size
        have szE0 := E0.size; refine W_cond_false rfl ?_; refine W_skip ?_
      exact ⟨(q, B), trivial, by repeat (first | with_reducible exact Same.refl | refine Same.upd rfl ?_ | refine Same.upds rfl ?_ | refine Same.mix rfl ?_), hG, hr, hs9, hB1, hB2, hO, hQ.o, by omega, by omega⟩
    · focus
        have szE8 := E8.size; have szE7 := E7.size; have szEhr1 := Ehr1.size; have szE5 := E5.size; have szEhr1 := Ehr1.size; have szE5 := E5.size; have szE4 := E4.size; have szE3 := E3.size; have szE2 := E2.size; have szE1 := E1.size
        have szE0 := E0.size; refine W_cond_true rfl ?_; refine W_held (fun _ => True) mixed rfl (by kernel_rfl) ?_; intro w9 E9 K2 hz2; have hG := grownBy_ext hG E9; have hr := hr.ext E9; have hs10 := E9.size
        refine Wh_take 1 rfl (by kernel_rfl) (by kernel_rfl) rfl (fun _ _ => opv_fieldAddr Try.underlying25 rfl rfl Try.sizeOf23 rfl) trivial ?_
        refine Wh_take 4 rfl (by kernel_rfl) (by kernel_rfl) rfl (fun _ _ => opv_fieldAddr Try.underlying25 rfl rfl Try.sizeOf23 rfl) trivial ?_; refine Wh_all (rs := [0, 2, 5]) (by kernel_rfl) rfl ?_; refine WhAll_cons rfl ?_ ?_
        refine Wo_lit0 XInt rfl el23 Try.sizeOf3 ?_; rintro b3 w10 hb3 b3lt E10 hO1; have hG := grownBy_ext hG E10; have hr := hr.ext E10; have hs11 := E10.size; refine Wo_nil ?_; refine ⟨trivial, ?_⟩
        refine Wh_all (rs := [2, 5]) (by kernel_rfl) rfl ?_; refine WhAll_cons rfl ?_ ?_; refine Wo (v := q) rfl (opv_load Try.isAgg23 rfl ((hB2.ext (E9.trans E10)).cell rfl)) ?_; refine Wo_nil ?_; refine ⟨trivial, ?_⟩
        refine Wh_all (rs := [3, 5]) (by kernel_rfl) rfl ?_; refine WhAll_cons rfl ?_ ?_
        refine Wo_appS rfl el23 rfl rfl (Mono.mono (E9.trans E10) (OwnedB.read hQ)) hO1.toB (by first | omega | (simp <;> omega)) (by omega) (by omega) ((E8.trans E9).trans E10) (by omega) ?_; have hT1 := hO1.toB; rintro v1 w11 hO1 E11 M1
        have E12 := M1.ext hT1 (E9.trans E10) (by omega); have szE12 := E12.size; have E13 := M1.ext hT1 E10 (by omega); have szE13 := E13.size; have hB1 := (hB1.ext (E9.trans E10)).moves M1 hT1 (by omega)
        have hB2 := (hB2.ext (E9.trans E10)).moves M1 hT1 (by omega); have hO := (hO.ext (E9.trans E10)).moves M1 hT1 (by omega); have hQ := (hQ.ext (E9.trans E10)).moves M1 hT1 (by omega); have hG := grownBy_moves hG M1 hT1 (by omega)
        have hr := hr.moves E11 M1 hT1 (by omega); have hs12 := E11.size; have szM1 := M1.1.size; have icv1 := OwnedB.isC (Owned.toB hO1); refine Wo_nil ?_; refine ⟨trivial, ?_⟩; refine Wh_all (rs := [5]) (by kernel_rfl) rfl ?_
        refine WhAll_cons rfl ?_ ?_; refine Wo (v := q) rfl (opv_load Try.isAgg23 rfl (hB2.cell rfl)) ?_; refine Wo_nil ?_; refine ⟨trivial, ?_⟩; refine Wh_all (rs := [6]) (by kernel_rfl) rfl ?_; refine WhAll_cons rfl ?_ ?_
        refine Wo_appS rfl el23 rfl rfl (OwnedB.read hQ) hO1.toB (by first | omega | (simp <;> omega)) (by omega) (by omega) E11 (by omega) ?_; have hT2 := hO1.toB; rintro v2 w12 hO1 E14 M2; have E15 := M2.ext hT2 E12 (by omega)
        have szE15 := E15.size; have E16 := M2.ext hT2 E13 (by omega); have szE16 := E16.size; have hB1 := hB1.moves M2 hT2 (by omega); have hB2 := hB2.moves M2 hT2 (by omega); have hO := hO.moves M2 hT2 (by omega)
        have hQ := hQ.moves M2 hT2 (by omega); have hG := grownBy_moves hG M2 hT2 (by omega); have hr := hr.moves E14 M2 hT2 (by omega); have hs13 := E14.size; have szM2 := M2.1.size; have icv2 := OwnedB.isC (Owned.toB hO1)
        refine Wo_nil ?_; refine ⟨trivial, ?_⟩; refine Wh_take 7 rfl (by kernel_rfl) (by kernel_rfl) rfl (fun _ _ => opv_fieldAddr Try.underlying25 rfl rfl Try.sizeOf23 rfl) trivial ?_; refine Wh_all (rs := [8]) (by kernel_rfl) rfl ?_
        refine WhAll_cons rfl ?_ ?_; refine Wo_st (v := v2) rfl Try.sizeOf23 rfl rfl (OwnedB.isC hO1.toB) hB2 (by simp) (by omega) E14 ?_; rintro w13 E17 hB2 K3 hz3; simp only [List.set] at hB2; have hO1 := hO1.toB.wrote K3 (by omega)
        have hB1 := hB1.of_heap (K3 _ (by omega)); have hO := hO.wrote K3 (by omega); have hQ := hQ.wrote K3 (by omega); have hG := grownBy_wrote hG E14 E17 K3 hz3 (by first | exact .inr rfl | omega)
        have hr := hr.wrote E17 (K3 _ (by omega)) hz3; refine Wo_nil ?_; refine ⟨trivial, ?_⟩; refine Wh_done (by kernel_rfl) ?_; rotate_left; exact WhAll_nil; exact WhAll_nil; exact WhAll_nil; refine WhAll_cons rfl ?_ ?_
        refine Wo (v := q) rfl (opv_load Try.isAgg23 rfl ((hB2.ext (E9.trans E10)).cell rfl)) ?_; refine Wo_nil ?_; refine ⟨trivial, ?_⟩; refine Wh_all (rs := [3]) (by kernel_rfl) rfl ?_; refine WhAll_cons rfl ?_ ?_
        refine Wo_appS rfl el23 rfl rfl (Mono.mono (E9.trans E10) (OwnedB.read hQ)) hO1.toB (by first | omega | (simp <;> omega)) (by omega) (by omega) ((E8.trans E9).trans E10) (by omega) ?_; have hT1 := hO1.toB; rintro v1 w11 hO1 E11 M1
        have E12 := M1.ext hT1 (E9.trans E10) (by omega); have szE12 := E12.size; have E13 := M1.ext hT1 E10 (by omega); have szE13 := E13.size; have hB1 := (hB1.ext (E9.trans E10)).moves M1 hT1 (by omega)
        have hB2 := (hB2.ext (E9.trans E10)).moves M1 hT1 (by omega); have hO := (hO.ext (E9.trans E10)).moves M1 hT1 (by omega); have hQ := (hQ.ext (E9.trans E10)).moves M1 hT1 (by omega); have hG := grownBy_moves hG M1 hT1 (by omega)
        have hr := hr.moves E11 M1 hT1 (by omega); have hs12 := E11.size; have szM1 := M1.1.size; have icv1 := OwnedB.isC (Owned.toB hO1); refine Wo_nil ?_; refine ⟨trivial, ?_⟩; refine Wh_all (rs := [6]) (by kernel_rfl) rfl ?_
        refine WhAll_cons rfl ?_ ?_; refine Wo_appS rfl el23 rfl rfl (OwnedB.read hQ) hO1.toB (by first | omega | (simp <;> omega)) (by omega) (by omega) E11 (by omega) ?_; have hT2 := hO1.toB; rintro v2 w12 hO1 E14 M2
        have E15 := M2.ext hT2 E12 (by omega); have szE15 := E15.size; have E16 := M2.ext hT2 E13 (by omega); have szE16 := E16.size; have hB1 := hB1.moves M2 hT2 (by omega); have hB2 := hB2.moves M2 hT2 (by omega)
        have hO := hO.moves M2 hT2 (by omega); have hQ := hQ.moves M2 hT2 (by omega); have hG := grownBy_moves hG M2 hT2 (by omega); have hr := hr.moves E14 M2 hT2 (by omega); have hs13 := E14.size; have szM2 := M2.1.size
        have icv2 := OwnedB.isC (Owned.toB hO1); refine Wo_nil ?_; refine ⟨trivial, ?_⟩; refine Wh_take 7 rfl (by kernel_rfl) (by kernel_rfl) rfl (fun _ _ => opv_fieldAddr Try.underlying25 rfl rfl Try.sizeOf23 rfl) trivial ?_
        refine Wh_all (rs := [8]) (by kernel_rfl) rfl ?_; refine WhAll_cons rfl ?_ ?_; refine Wo_st (v := v2) rfl Try.sizeOf23 rfl rfl (OwnedB.isC hO1.toB) hB2 (by simp) (by omega) E14 ?_; rintro w13 E17 hB2 K3 hz3
        simp only [List.set] at hB2; have hO1 := hO1.toB.wrote K3 (by omega); have hB1 := hB1.of_heap (K3 _ (by omega)); have hO := hO.wrote K3 (by omega); have hQ := hQ.wrote K3 (by omega)
        have hG := grownBy_wrote hG E14 E17 K3 hz3 (by first | exact .inr rfl | omega); have hr := hr.wrote E17 (K3 _ (by omega)) hz3; refine Wo_nil ?_; refine ⟨trivial, ?_⟩; refine Wh_done (by kernel_rfl) ?_; rotate_left; exact WhAll_nil
        exact WhAll_nil; exact WhAll_nil; exact WhAll_nil; refine WhAll_cons rfl ?_ ?_; refine Wo (v := q) rfl (opv_load Try.isAgg23 rfl ((hB2.ext (E9.trans E10)).cell rfl)) ?_; refine Wo_nil ?_; refine ⟨trivial, ?_⟩
        refine Wh_all (rs := [2]) (by kernel_rfl) rfl ?_; refine WhAll_cons rfl ?_ ?_; refine Wo (v := q) rfl (opv_load Try.isAgg23 rfl ((hB2.ext (E9.trans E10)).cell rfl)) ?_; refine Wo_nil ?_; refine ⟨trivial, ?_⟩
        refine Wh_all (rs := [3]) (by kernel_rfl) rfl ?_; refine WhAll_cons rfl ?_ ?_
        refine Wo_appS rfl el23 rfl rfl (Mono.mono (E9.trans E10) (OwnedB.read hQ)) hO1.toB (by first | omega | (simp <;> omega)) (by omega) (by omega) ((E8.trans E9).trans E10) (by omega) ?_; have hT1 := hO1.toB; rintro v1 w11 hO1 E11 M1
        have E12 := M1.ext hT1 (E9.trans E10) (by omega); have szE12 := E12.size; have E13 := M1.ext hT1 E10 (by omega); have szE13 := E13.size; have hB1 := (hB1.ext (E9.trans E10)).moves M1 hT1 (by omega)
        have hB2 := (hB2.ext (E9.trans E10)).moves M1 hT1 (by omega); have hO := (hO.ext (E9.trans E10)).moves M1 hT1 (by omega); have hQ := (hQ.ext (E9.trans E10)).moves M1 hT1 (by omega); have hG := grownBy_moves hG M1 hT1 (by omega)
        have hr := hr.moves E11 M1 hT1 (by omega); have hs12 := E11.size; have szM1 := M1.1.size; have icv1 := OwnedB.isC (Owned.toB hO1); refine Wo_nil ?_; refine ⟨trivial, ?_⟩; refine Wh_all (rs := [6]) (by kernel_rfl) rfl ?_
        refine WhAll_cons rfl ?_ ?_; refine Wo_appS rfl el23 rfl rfl (OwnedB.read hQ) hO1.toB (by first | omega | (simp <;> omega)) (by omega) (by omega) E11 (by omega) ?_; have hT2 := hO1.toB; rintro v2 w12 hO1 E14 M2
        have E15 := M2.ext hT2 E12 (by omega); have szE15 := E15.size; have E16 := M2.ext hT2 E13 (by omega); have szE16 := E16.size; have hB1 := hB1.moves M2 hT2 (by omega); have hB2 := hB2.moves M2 hT2 (by omega)
        have hO := hO.moves M2 hT2 (by omega); have hQ := hQ.moves M2 hT2 (by omega); have hG := grownBy_moves hG M2 hT2 (by omega); have hr := hr.moves E14 M2 hT2 (by omega); have hs13 := E14.size; have szM2 := M2.1.size
        have icv2 := OwnedB.isC (Owned.toB hO1); refine Wo_nil ?_; refine ⟨trivial, ?_⟩; refine Wh_take 7 rfl (by kernel_rfl) (by kernel_rfl) rfl (fun _ _ => opv_fieldAddr Try.underlying25 rfl rfl Try.sizeOf23 rfl) trivial ?_
        refine Wh_all (rs := [8]) (by kernel_rfl) rfl ?_; refine WhAll_cons rfl ?_ ?_; refine Wo_st (v := v2) rfl Try.sizeOf23 rfl rfl (OwnedB.isC hO1.toB) hB2 (by simp) (by omega) E14 ?_; rintro w13 E17 hB2 K3 hz3
        simp only [List.set] at hB2; have hO1 := hO1.toB.wrote K3 (by omega); have hB1 := hB1.of_heap (K3 _ (by omega)); have hO := hO.wrote K3 (by omega); have hQ := hQ.wrote K3 (by omega)
        have hG := grownBy_wrote hG E14 E17 K3 hz3 (by first | exact .inr rfl | omega); have hr := hr.wrote E17 (K3 _ (by omega)) hz3; refine Wo_nil ?_; refine ⟨trivial, ?_⟩; refine Wh_done (by kernel_rfl) ?_; rotate_left; exact WhAll_nil
        exact WhAll_nil; exact WhAll_nil; exact WhAll_nil; exact WhAll_nil; refine WhAll_cons rfl ?_ ?_; refine Wo (v := q) rfl (opv_load Try.isAgg23 rfl ((hB2.ext E9).cell rfl)) ?_; refine Wo_nil ?_; refine ⟨trivial, ?_⟩
        refine Wh_all (rs := [0, 5]) (by kernel_rfl) rfl ?_; refine WhAll_cons rfl ?_ ?_; refine Wo_lit0 XInt rfl el23 Try.sizeOf3 ?_; rintro b3 w10 hb3 b3lt E10 hO1; have hG := grownBy_ext hG E10; have hr := hr.ext E10
        have hs11 := E10.size; refine Wo_nil ?_; refine ⟨trivial, ?_⟩; refine Wh_all (rs := [3, 5]) (by kernel_rfl) rfl ?_; refine WhAll_cons rfl ?_ ?_
        refine Wo_appS rfl el23 rfl rfl (Mono.mono (E9.trans E10) (OwnedB.read hQ)) hO1.toB (by first | omega | (simp <;> omega)) (by omega) (by omega) ((E8.trans E9).trans E10) (by omega) ?_; have hT1 := hO1.toB; rintro v1 w11 hO1 E11 M1
        have E12 := M1.ext hT1 (E9.trans E10) (by omega); have szE12 := E12.size; have E13 := M1.ext hT1 E10 (by omega); have szE13 := E13.size; have hB1 := (hB1.ext (E9.trans E10)).moves M1 hT1 (by omega)
        have hB2 := (hB2.ext (E9.trans E10)).moves M1 hT1 (by omega); have hO := (hO.ext (E9.trans E10)).moves M1 hT1 (by omega); have hQ := (hQ.ext (E9.trans E10)).moves M1 hT1 (by omega); have hG := grownBy_moves hG M1 hT1 (by omega)
        have hr := hr.moves E11 M1 hT1 (by omega); have hs12 := E11.size; have szM1 := M1.1.size; have icv1 := OwnedB.isC (Owned.toB hO1); refine Wo_nil ?_; refine ⟨trivial, ?_⟩; refine Wh_all (rs := [5]) (by kernel_rfl) rfl ?_
        refine WhAll_cons rfl ?_ ?_; refine Wo (v := q) rfl (opv_load Try.isAgg23 rfl (hB2.cell rfl)) ?_; refine Wo_nil ?_; refine ⟨trivial, ?_⟩; refine Wh_all (rs := [6]) (by kernel_rfl) rfl ?_; refine WhAll_cons rfl ?_ ?_
        refine Wo_appS rfl el23 rfl rfl (OwnedB.read hQ) hO1.toB (by first | omega | (simp <;> omega)) (by omega) (by omega) E11 (by omega) ?_; have hT2 := hO1.toB; rintro v2 w12 hO1 E14 M2; have E15 := M2.ext hT2 E12 (by omega)
        have szE15 := E15.size; have E16 := M2.ext hT2 E13 (by omega); have szE16 := E16.size; have hB1 := hB1.moves M2 hT2 (by omega); have hB2 := hB2.moves M2 hT2 (by omega); have hO := hO.moves M2 hT2 (by omega)
        have hQ := hQ.moves M2 hT2 (by omega); have hG := grownBy_moves hG M2 hT2 (by omega); have hr := hr.moves E14 M2 hT2 (by omega); have hs13 := E14.size; have szM2 := M2.1.size; have icv2 := OwnedB.isC (Owned.toB hO1)
        refine Wo_nil ?_; refine ⟨trivial, ?_⟩; refine Wh_take 7 rfl (by kernel_rfl) (by kernel_rfl) rfl (fun _ _ => opv_fieldAddr Try.underlying25 rfl rfl Try.sizeOf23 rfl) trivial ?_; refine Wh_all (rs := [8]) (by kernel_rfl) rfl ?_
        refine WhAll_cons rfl ?_ ?_; refine Wo_st (v := v2) rfl Try.sizeOf23 rfl rfl (OwnedB.isC hO1.toB) hB2 (by simp) (by omega) E14 ?_; rintro w13 E17 hB2 K3 hz3; simp only [List.set] at hB2; have hO1 := hO1.toB.wrote K3 (by omega)
        have hB1 := hB1.of_heap (K3 _ (by omega)); have hO := hO.wrote K3 (by omega); have hQ := hQ.wrote K3 (by omega); have hG := grownBy_wrote hG E14 E17 K3 hz3 (by first | exact .inr rfl | omega)
        have hr := hr.wrote E17 (K3 _ (by omega)) hz3; refine Wo_nil ?_; refine ⟨trivial, ?_⟩; refine Wh_done (by kernel_rfl) ?_; rotate_left; exact WhAll_nil; exact WhAll_nil; exact WhAll_nil; refine WhAll_cons rfl ?_ ?_
        refine Wo (v := q) rfl (opv_load Try.isAgg23 rfl ((hB2.ext (E9.trans E10)).cell rfl)) ?_; refine Wo_nil ?_; refine ⟨trivial, ?_⟩; refine Wh_all (rs := [3]) (by kernel_rfl) rfl ?_; refine WhAll_cons rfl ?_ ?_
        refine Wo_appS rfl el23 rfl rfl (Mono.mono (E9.trans E10) (OwnedB.read hQ)) hO1.toB (by first | omega | (simp <;> omega)) (by omega) (by omega) ((E8.trans E9).trans E10) (by omega) ?_; have hT1 := hO1.toB; rintro v1 w11 hO1 E11 M1
        have E12 := M1.ext hT1 (E9.trans E10) (by omega); have szE12 := E12.size; have E13 := M1.ext hT1 E10 (by omega); have szE13 := E13.size; have hB1 := (hB1.ext (E9.trans E10)).moves M1 hT1 (by omega)
        have hB2 := (hB2.ext (E9.trans E10)).moves M1 hT1 (by omega); have hO := (hO.ext (E9.trans E10)).moves M1 hT1 (by omega); have hQ := (hQ.ext (E9.trans E10)).moves M1 hT1 (by omega); have hG := grownBy_moves hG M1 hT1 (by omega)
        have hr := hr.moves E11 M1 hT1 (by omega); have hs12 := E11.size; have szM1 := M1.1.size; have icv1 := OwnedB.isC (Owned.toB hO1); refine Wo_nil ?_; refine ⟨trivial, ?_⟩; refine Wh_all (rs := [6]) (by kernel_rfl) rfl ?_
        refine WhAll_cons rfl ?_ ?_; refine Wo_appS rfl el23 rfl rfl (OwnedB.read hQ) hO1.toB (by first | omega | (simp <;> omega)) (by omega) (by omega) E11 (by omega) ?_; have hT2 := hO1.toB; rintro v2 w12 hO1 E14 M2
        have E15 := M2.ext hT2 E12 (by omega); have szE15 := E15.size; have E16 := M2.ext hT2 E13 (by omega); have szE16 := E16.size; have hB1 := hB1.moves M2 hT2 (by omega); have hB2 := hB2.moves M2 hT2 (by omega)
        have hO := hO.moves M2 hT2 (by omega); have hQ := hQ.moves M2 hT2 (by omega); have hG := grownBy_moves hG M2 hT2 (by omega); have hr := hr.moves E14 M2 hT2 (by omega); have hs13 := E14.size; have szM2 := M2.1.size
        have icv2 := OwnedB.isC (Owned.toB hO1); refine Wo_nil ?_; refine ⟨trivial, ?_⟩; refine Wh_take 7 rfl (by kernel_rfl) (by kernel_rfl) rfl (fun _ _ => opv_fieldAddr Try.underlying25 rfl rfl Try.sizeOf23 rfl) trivial ?_
        refine Wh_all (rs := [8]) (by kernel_rfl) rfl ?_; refine WhAll_cons rfl ?_ ?_; refine Wo_st (v := v2) rfl Try.sizeOf23 rfl rfl (OwnedB.isC hO1.toB) hB2 (by simp) (by omega) E14 ?_; rintro w13 E17 hB2 K3 hz3
        simp only [List.set] at hB2; have hO1 := hO1.toB.wrote K3 (by omega); have hB1 := hB1.of_heap (K3 _ (by omega)); have hO := hO.wrote K3 (by omega); have hQ := hQ.wrote K3 (by omega)
        have hG := grownBy_wrote hG E14 E17 K3 hz3 (by first | exact .inr rfl | omega); have hr := hr.wrote E17 (K3 _ (by omega)) hz3; refine Wo_nil ?_; refine ⟨trivial, ?_⟩; refine Wh_done (by kernel_rfl) ?_; rotate_left; exact WhAll_nil
        exact WhAll_nil; exact WhAll_nil; exact WhAll_nil; refine WhAll_cons rfl ?_ ?_; refine Wo (v := q) rfl (opv_load Try.isAgg23 rfl ((hB2.ext E9).cell rfl)) ?_; refine Wo_nil ?_; refine ⟨trivial, ?_⟩
        refine Wh_all (rs := [0]) (by kernel_rfl) rfl ?_; refine WhAll_cons rfl ?_ ?_; refine Wo_lit0 XInt rfl el23 Try.sizeOf3 ?_; rintro b3 w10 hb3 b3lt E10 hO1; have hG := grownBy_ext hG E10; have hr := hr.ext E10; have hs11 := E10.size
        refine Wo_nil ?_; refine ⟨trivial, ?_⟩; refine Wh_all (rs := [3]) (by kernel_rfl) rfl ?_; refine WhAll_cons rfl ?_ ?_
        refine Wo_appS rfl el23 rfl rfl (Mono.mono (E9.trans E10) (OwnedB.read hQ)) hO1.toB (by first | omega | (simp <;> omega)) (by omega) (by omega) ((E8.trans E9).trans E10) (by omega) ?_; have hT1 := hO1.toB; rintro v1 w11 hO1 E11 M1
        have E12 := M1.ext hT1 (E9.trans E10) (by omega); have szE12 := E12.size; have E13 := M1.ext hT1 E10 (by omega); have szE13 := E13.size; have hB1 := (hB1.ext (E9.trans E10)).moves M1 hT1 (by omega)
        have hB2 := (hB2.ext (E9.trans E10)).moves M1 hT1 (by omega); have hO := (hO.ext (E9.trans E10)).moves M1 hT1 (by omega); have hQ := (hQ.ext (E9.trans E10)).moves M1 hT1 (by omega); have hG := grownBy_moves hG M1 hT1 (by omega)
        have hr := hr.moves E11 M1 hT1 (by omega); have hs12 := E11.size; have szM1 := M1.1.size; have icv1 := OwnedB.isC (Owned.toB hO1); refine Wo_nil ?_; refine ⟨trivial, ?_⟩; refine Wh_all (rs := [6]) (by kernel_rfl) rfl ?_
        refine WhAll_cons rfl ?_ ?_; refine Wo_appS rfl el23 rfl rfl (OwnedB.read hQ) hO1.toB (by first | omega | (simp <;> omega)) (by omega) (by omega) E11 (by omega) ?_; have hT2 := hO1.toB; rintro v2 w12 hO1 E14 M2
        have E15 := M2.ext hT2 E12 (by omega); have szE15 := E15.size; have E16 := M2.ext hT2 E13 (by omega); have szE16 := E16.size; have hB1 := hB1.moves M2 hT2 (by omega); have hB2 := hB2.moves M2 hT2 (by omega)
        have hO := hO.moves M2 hT2 (by omega); have hQ := hQ.moves M2 hT2 (by omega); have hG := grownBy_moves hG M2 hT2 (by omega); have hr := hr.moves E14 M2 hT2 (by omega); have hs13 := E14.size; have szM2 := M2.1.size
        have icv2 := OwnedB.isC (Owned.toB hO1); refine Wo_nil ?_; refine ⟨trivial, ?_⟩; refine Wh_take 7 rfl (by kernel_rfl) (by kernel_rfl) rfl (fun _ _ => opv_fieldAddr Try.underlying25 rfl rfl Try.sizeOf23 rfl) trivial ?_
        refine Wh_all (rs := [8]) (by kernel_rfl) rfl ?_; refine WhAll_cons rfl ?_ ?_; refine Wo_st (v := v2) rfl Try.sizeOf23 rfl rfl (OwnedB.isC hO1.toB) hB2 (by simp) (by omega) E14 ?_; rintro w13 E17 hB2 K3 hz3
        simp only [List.set] at hB2; have hO1 := hO1.toB.wrote K3 (by omega); have hB1 := hB1.of_heap (K3 _ (by omega)); have hO := hO.wrote K3 (by omega); have hQ := hQ.wrote K3 (by omega)
        have hG := grownBy_wrote hG E14 E17 K3 hz3 (by first | exact .inr rfl | omega); have hr := hr.wrote E17 (K3 _ (by omega)) hz3; refine Wo_nil ?_; refine ⟨trivial, ?_⟩; refine Wh_done (by kernel_rfl) ?_; rotate_left; exact WhAll_nil
        exact WhAll_nil; exact WhAll_nil; exact WhAll_nil; exact WhAll_nil; refine WhAll_cons rfl ?_ ?_; refine Wo (v := q) rfl (opv_load Try.isAgg23 rfl ((hB2.ext E9).cell rfl)) ?_; refine Wo_nil ?_; refine ⟨trivial, ?_⟩
        refine Wh_all (rs := [0, 2]) (by kernel_rfl) rfl ?_; refine WhAll_cons rfl ?_ ?_; refine Wo_lit0 XInt rfl el23 Try.sizeOf3 ?_; rintro b3 w10 hb3 b3lt E10 hO1; have hG := grownBy_ext hG E10; have hr := hr.ext E10
        have hs11 := E10.size; refine Wo_nil ?_; refine ⟨trivial, ?_⟩; refine Wh_all (rs := [2]) (by kernel_rfl) rfl ?_; refine WhAll_cons rfl ?_ ?_; refine Wo (v := q) rfl (opv_load Try.isAgg23 rfl ((hB2.ext (E9.trans E10)).cell rfl)) ?_
        refine Wo_nil ?_; refine ⟨trivial, ?_⟩; refine Wh_all (rs := [3]) (by kernel_rfl) rfl ?_; refine WhAll_cons rfl ?_ ?_
        refine Wo_appS rfl el23 rfl rfl (Mono.mono (E9.trans E10) (OwnedB.read hQ)) hO1.toB (by first | omega | (simp <;> omega)) (by omega) (by omega) ((E8.trans E9).trans E10) (by omega) ?_; have hT1 := hO1.toB; rintro v1 w11 hO1 E11 M1
        have E12 := M1.ext hT1 (E9.trans E10) (by omega); have szE12 := E12.size; have E13 := M1.ext hT1 E10 (by omega); have szE13 := E13.size; have hB1 := (hB1.ext (E9.trans E10)).moves M1 hT1 (by omega)
        have hB2 := (hB2.ext (E9.trans E10)).moves M1 hT1 (by omega); have hO := (hO.ext (E9.trans E10)).moves M1 hT1 (by omega); have hQ := (hQ.ext (E9.trans E10)).moves M1 hT1 (by omega); have hG := grownBy_moves hG M1 hT1 (by omega)
        have hr := hr.moves E11 M1 hT1 (by omega); have hs12 := E11.size; have szM1 := M1.1.size; have icv1 := OwnedB.isC (Owned.toB hO1); refine Wo_nil ?_; refine ⟨trivial, ?_⟩; refine Wh_all (rs := [6]) (by kernel_rfl) rfl ?_
        refine WhAll_cons rfl ?_ ?_; refine Wo_appS rfl el23 rfl rfl (OwnedB.read hQ) hO1.toB (by first | omega | (simp <;> omega)) (by omega) (by omega) E11 (by omega) ?_; have hT2 := hO1.toB; rintro v2 w12 hO1 E14 M2
        have E15 := M2.ext hT2 E12 (by omega); have szE15 := E15.size; have E16 := M2.ext hT2 E13 (by omega); have szE16 := E16.size; have hB1 := hB1.moves M2 hT2 (by omega); have hB2 := hB2.moves M2 hT2 (by omega)
        have hO := hO.moves M2 hT2 (by omega); have hQ := hQ.moves M2 hT2 (by omega); have hG := grownBy_moves hG M2 hT2 (by omega); have hr := hr.moves E14 M2 hT2 (by omega); have hs13 := E14.size; have szM2 := M2.1.size
        have icv2 := OwnedB.isC (Owned.toB hO1); refine Wo_nil ?_; refine ⟨trivial, ?_⟩; refine Wh_take 7 rfl (by kernel_rfl) (by kernel_rfl) rfl (fun _ _ => opv_fieldAddr Try.underlying25 rfl rfl Try.sizeOf23 rfl) trivial ?_
        refine Wh_all (rs := [8]) (by kernel_rfl) rfl ?_; refine WhAll_cons rfl ?_ ?_; refine Wo_st (v := v2) rfl Try.sizeOf23 rfl rfl (OwnedB.isC hO1.toB) hB2 (by simp) (by omega) E14 ?_; rintro w13 E17 hB2 K3 hz3
        simp only [List.set] at hB2; have hO1 := hO1.toB.wrote K3 (by omega); have hB1 := hB1.of_heap (K3 _ (by omega)); have hO := hO.wrote K3 (by omega); have hQ := hQ.wrote K3 (by omega)
        have hG := grownBy_wrote hG E14 E17 K3 hz3 (by first | exact .inr rfl | omega); have hr := hr.wrote E17 (K3 _ (by omega)) hz3; refine Wo_nil ?_; refine ⟨trivial, ?_⟩; refine Wh_done (by kernel_rfl) ?_; rotate_left; exact WhAll_nil
        exact WhAll_nil; exact WhAll_nil; exact WhAll_nil; refine WhAll_cons rfl ?_ ?_; refine Wo (v := q) rfl (opv_load Try.isAgg23 rfl ((hB2.ext E9).cell rfl)) ?_; refine Wo_nil ?_; refine ⟨trivial, ?_⟩
        refine Wh_all (rs := [0]) (by kernel_rfl) rfl ?_; refine WhAll_cons rfl ?_ ?_; refine Wo_lit0 XInt rfl el23 Try.sizeOf3 ?_; rintro b3 w10 hb3 b3lt E10 hO1; have hG := grownBy_ext hG E10; have hr := hr.ext E10; have hs11 := E10.size
        refine Wo_nil ?_; refine ⟨trivial, ?_⟩; refine Wh_all (rs := [3]) (by kernel_rfl) rfl ?_; refine WhAll_cons rfl ?_ ?_
        refine Wo_appS rfl el23 rfl rfl (Mono.mono (E9.trans E10) (OwnedB.read hQ)) hO1.toB (by first | omega | (simp <;> omega)) (by omega) (by omega) ((E8.trans E9).trans E10) (by omega) ?_; have hT1 := hO1.toB; rintro v1 w11 hO1 E11 M1
        have E12 := M1.ext hT1 (E9.trans E10) (by omega); have szE12 := E12.size; have E13 := M1.ext hT1 E10 (by omega); have szE13 := E13.size; have hB1 := (hB1.ext (E9.trans E10)).moves M1 hT1 (by omega)
        have hB2 := (hB2.ext (E9.trans E10)).moves M1 hT1 (by omega); have hO := (hO.ext (E9.trans E10)).moves M1 hT1 (by omega); have hQ := (hQ.ext (E9.trans E10)).moves M1 hT1 (by omega); have hG := grownBy_moves hG M1 hT1 (by omega)
        have hr := hr.moves E11 M1 hT1 (by omega); have hs12 := E11.size; have szM1 := M1.1.size; have icv1 := OwnedB.isC (Owned.toB hO1); refine Wo_nil ?_; refine ⟨trivial, ?_⟩; refine Wh_all (rs := [6]) (by kernel_rfl) rfl ?_
        refine WhAll_cons rfl ?_ ?_; refine Wo_appS rfl el23 rfl rfl (OwnedB.read hQ) hO1.toB (by first | omega | (simp <;> omega)) (by omega) (by omega) E11 (by omega) ?_; have hT2 := hO1.toB; rintro v2 w12 hO1 E14 M2
        have E15 := M2.ext hT2 E12 (by omega); have szE15 := E15.size; have E16 := M2.ext hT2 E13 (by omega); have szE16 := E16.size; have hB1 := hB1.moves M2 hT2 (by omega); have hB2 := hB2.moves M2 hT2 (by omega)
        have hO := hO.moves M2 hT2 (by omega); have hQ := hQ.moves M2 hT2 (by omega); have hG := grownBy_moves hG M2 hT2 (by omega); have hr := hr.moves E14 M2 hT2 (by omega); have hs13 := E14.size; have szM2 := M2.1.size
        have icv2 := OwnedB.isC (Owned.toB hO1); refine Wo_nil ?_; refine ⟨trivial, ?_⟩; refine Wh_take 7 rfl (by kernel_rfl) (by kernel_rfl) rfl (fun _ _ => opv_fieldAddr Try.underlying25 rfl rfl Try.sizeOf23 rfl) trivial ?_
        refine Wh_all (rs := [8]) (by kernel_rfl) rfl ?_; refine WhAll_cons rfl ?_ ?_; refine Wo_st (v := v2) rfl Try.sizeOf23 rfl rfl (OwnedB.isC hO1.toB) hB2 (by simp) (by omega) E14 ?_; rintro w13 E17 hB2 K3 hz3
        simp only [List.set] at hB2; have hO1 := hO1.toB.wrote K3 (by omega); have hB1 := hB1.of_heap (K3 _ (by omega)); have hO := hO.wrote K3 (by omega); have hQ := hQ.wrote K3 (by omega)
        have hG := grownBy_wrote hG E14 E17 K3 hz3 (by first | exact .inr rfl | omega); have hr := hr.wrote E17 (K3 _ (by omega)) hz3; refine Wo_nil ?_; refine ⟨trivial, ?_⟩; refine Wh_done (by kernel_rfl) ?_; rotate_left; exact WhAll_nil
        exact WhAll_nil; exact WhAll_nil; exact WhAll_nil; exact WhAll_nil; exact WhAll_nil
      all_goals exact ⟨(v2, ([] ++ B) ++ B), trivial, by repeat (first | with_reducible exact Same.refl | refine Same.upd rfl ?_ | refine Same.upds rfl ?_ | refine Same.mix rfl ?_), hG, hr, by omega, hB1, hB2, hO, hO1.o.mono (by omega), by simp; omega, by simp; omega⟩
  clear hG hr hB1 hB2 hO hQ hB4
  rintro ⟨q', B'⟩ ρ9 w9 ⟨hG, hr, hs10, hB1, hB2, hO, hQ, hB4, hB8⟩
  have E9 := hr.old
  have hlr9 := hr.lt
  obtain ⟨qb, qc, rfl, _⟩ := hQ.lit (by omega)
  have hqb := hQ.lt_own (k := qb) rfl
  have hQ := hQ.toB
  have ico := OwnedB.isC hO
  focus
    have szE9 := E9.size; have szE8 := E8.size; have szE7 := E7.size; have szEhr1 := Ehr1.size; have szE5 := E5.size; have szEhr1 := Ehr1.size; have szE5 := E5.size; have szE4 := E4.size; have szE3 := E3.size; have szE2 := E2.size
    have szE1 := E1.size; have szE0 := E0.size; refine W_seq ?_; refine W_seq ?_; refine W_region rfl ?_; refine Wo rfl (opv_move (v := .pointer _) rfl) ?_; refine Wo rfl (opv_move (v := .int _ _) rfl) ?_
    refine Wo_call rfl (opc2 (a := .pointer _) (b := .int _ _) Try.call79 rfl rfl) (odd_ok _ _ (by assumption) (by omega) (by omega)) ?_; rintro _ w10 ⟨y3, rfl, E10, hr1, hy3⟩; (try dsimp only at hy3); have hlhr1 := hr1.lt
    have Ehr1 := hr1.old; have hG := grownBy_trans hG E10; have hB1 := hB1.grown E10 (by simp only [ne_eq, Option.some.injEq]; omega); have hO := hO.grown E10 (by omega)
    have hB2 := hB2.grown E10 (by simp only [ne_eq, Option.some.injEq]; omega); have hQ := hQ.grown E10 (by omega); have hs11 := E10.size; refine Wo_nil ?_; refine W_cond rfl (fun h3 => ?_) (fun h3 => ?_); refine W_seq ?_
    refine W_region rfl ?_; refine Wo rfl (opv_move (v := .pointer _) rfl) ?_; refine Wo_call rfl (opc2 (a := .pointer _) (b := .int _ _) Try.call52 rfl rfl) (pick_ok _ _ (by assumption) (by omega)) ?_
    rintro _ w11 ⟨y4, rfl, E11, hr2, hy4⟩; (try dsimp only at hy4); have hlhr2 := hr2.lt; have Ehr2 := hr2.old; have hG := grownBy_trans hG E11; have hB1 := hB1.grown E11 (by simp only [ne_eq, Option.some.injEq]; omega)
    have hO := hO.grown E11 (by omega); have hB2 := hB2.grown E11 (by simp only [ne_eq, Option.some.injEq]; omega); have hQ := hQ.grown E11 (by omega); have hs12 := E11.size; refine Wo_nil ?_; refine W_block ?_; refine W_seq ?_
    refine W_region rfl ?_; refine Wo rfl (opv_eql rfl rfl) ?_; refine Wo rfl (opv_assign (v := .bool _) rfl) ?_; refine Wo_nil ?_; refine W_cond_dec rfl (fun h4 => ?_) (fun h4 => ?_); refine W_region rfl ?_
    refine Wo_lit0 XInt rfl el23 Try.sizeOf3 ?_; rintro b3 w12 hb3 b3lt E12 hO1; have hr2 := hr2.ext E12; have hG := grownBy_ext hG E12; have hs13 := E12.size; refine Wo rfl (opv_fieldAddr Try.underlying25 rfl rfl Try.sizeOf23 rfl) ?_
    refine Wo_st (v := .slice _ _ _) rfl Try.sizeOf23 rfl rfl rfl (hB2.ext E12) (by simp) (by omega) (Ehr2.trans E12) ?_; rintro w13 E13 hB2 K2 hz2; simp only [List.set] at hB2; have hB1 := (hB1.ext E12).of_heap (K2 _ (by omega))
    have hO := (hO.ext E12).wrote K2 (by omega); have hQ := (hQ.ext E12).wrote K2 (by omega); have hO1 := hO1.toB.wrote K2 (by omega); have hr2 := hr2.wrote E13 (K2 _ (by omega)) hz2
    have hG := grownBy_wrote hG (Ehr2.trans E12) E13 K2 hz2 (by first | exact .inr rfl | omega); refine Wo_nil ?_; refine W_seq ?_; refine W_region rfl ?_; refine Wo (v := .agg _) rfl (opv_load2 Try.isAgg25 Try.sizeOf25 rfl hB2) ?_
    refine Wo_st2 rfl Try.sizeOf25 rfl rfl (by first | rfl | assumption) (by first | rfl | assumption) hB1 (by omega) E13 ?_; rintro w14 E14 hB1 K3 hz3; have hB2 := hB2.of_heap (K3 _ (by omega)); have hO := hO.wrote K3 (by omega)
    have hQ := hQ.wrote K3 (by omega); have hO1 := hO1.wrote K3 (by omega); have hr2 := hr2.wrote E14 (K3 _ (by omega)) hz3; have hG := grownBy_wrote hG E13 E14 K3 hz3 (by first | exact .inr rfl | omega); refine Wo_nil ?_
    refine W_ret ?_; rotate_left; refine W_seq ?_; refine W_region rfl ?_; refine Wo rfl (opv_eql rfl rfl) ?_; refine Wo rfl (opv_assign (v := .bool _) rfl) ?_; refine Wo_nil ?_; refine W_cond_dec rfl (fun h5 => ?_) (fun h5 => ?_)
    refine W_region rfl ?_; refine Wo rfl (opv_fieldAddr Try.underlying25 rfl rfl Try.sizeOf23 rfl) ?_; refine Wo (v := .slice _ _ _) rfl (opv_load Try.isAgg23 rfl (hB2.cell rfl)) ?_
    refine Wo rfl (opv_indexAddr (k := 0) Try.underlying23 Try.sizeOf3 rfl rfl (by omega)) ?_; refine Wo_set rfl Try.sizeOf3 rfl rfl hQ (by first | omega | (simp <;> omega)) Owned.int (Nat.le_refl _) (by omega) ?_
    rintro w12 hQ On1 K2 hz2; have E12 := On1.ext1 Ehr2 (by omega); have hr2 := hr2.wrote E12 (K2 _ (by omega)) hz2; have hG := grownBy_wrote hG Ehr2 E12 K2 hz2 (by first | exact .inr rfl | omega)
    have hB1 := hB1.of_heap (K2 _ (by omega)); have hO := hO.wrote K2 (by omega); have hB2 := hB2.of_heap (K2 _ (by omega)); have hs13 := On1.size; refine Wo_nil ?_; refine W_seq ?_; refine W_region rfl ?_
    refine Wo (v := .agg _) rfl (opv_load2 Try.isAgg25 Try.sizeOf25 rfl hB2) ?_; refine Wo_st2 rfl Try.sizeOf25 rfl rfl (by first | rfl | assumption) (by first | rfl | assumption) hB1 (by omega) E12 ?_; rintro w13 E13 hB1 K3 hz3
    have hQ := hQ.toB.wrote K3 (by omega); have hr2 := hr2.wrote E13 (K3 _ (by omega)) hz3; have hG := grownBy_wrote hG E12 E13 K3 hz3 (by first | exact .inr rfl | omega); have hO := hO.wrote K3 (by omega)
    have hB2 := hB2.of_heap (K3 _ (by omega)); refine Wo_nil ?_; refine W_ret ?_; rotate_left; refine W_region rfl ?_; refine Wo_makeI rfl el23 (int_z (by omega) rfl) (by omega) ?_; rintro b3 w12 hb3 b3lt E12 hO1
    have hr2 := hr2.ext E12; have hG := grownBy_ext hG E12; have hs13 := E12.size; refine Wo rfl (opv_fieldAddr Try.underlying25 rfl rfl Try.sizeOf23 rfl) ?_
    refine Wo_st (v := .slice _ _ _) rfl Try.sizeOf23 rfl rfl rfl (hB2.ext E12) (by simp) (by omega) (Ehr2.trans E12) ?_; rintro w13 E13 hB2 K2 hz2; simp only [List.set] at hB2; have hB1 := (hB1.ext E12).of_heap (K2 _ (by omega))
    have hO := (hO.ext E12).wrote K2 (by omega); have hQ := (hQ.ext E12).wrote K2 (by omega); have hO1 := hO1.toB.wrote K2 (by omega); have hr2 := hr2.wrote E13 (K2 _ (by omega)) hz2
    have hG := grownBy_wrote hG (Ehr2.trans E12) E13 K2 hz2 (by first | exact .inr rfl | omega); refine Wo_nil ?_; refine W_seq ?_; refine W_region rfl ?_; refine Wo (v := .agg _) rfl (opv_load2 Try.isAgg25 Try.sizeOf25 rfl hB2) ?_
    refine Wo_st2 rfl Try.sizeOf25 rfl rfl (by first | rfl | assumption) (by first | rfl | assumption) hB1 (by omega) E13 ?_; rintro w14 E14 hB1 K3 hz3; have hB2 := hB2.of_heap (K3 _ (by omega)); have hO := hO.wrote K3 (by omega)
    have hQ := hQ.wrote K3 (by omega); have hO1 := hO1.wrote K3 (by omega); have hr2 := hr2.wrote E14 (K3 _ (by omega)) hz3; have hG := grownBy_wrote hG E13 E14 K3 hz3 (by first | exact .inr rfl | omega); refine Wo_nil ?_
    refine W_ret ?_; rotate_left; refine W_skip ?_; refine W_seq ?_; refine W_region rfl ?_; refine Wo (v := .agg _) rfl (opv_load2 Try.isAgg25 Try.sizeOf25 rfl hB2) ?_
    refine Wo_st2 rfl Try.sizeOf25 rfl rfl (by first | rfl | assumption) (by first | rfl | assumption) hB1 (by omega) Ehr1 ?_; rintro w11 E11 hB1 K2 hz2; have hr1 := hr1.wrote E11 (K2 _ (by omega)) hz2
    have hG := grownBy_wrote hG Ehr1 E11 K2 hz2 (by first | exact .inr rfl | omega); have hO := hO.wrote K2 (by omega); have hB2 := hB2.of_heap (K2 _ (by omega)); have hQ := hQ.wrote K2 (by omega); refine Wo_nil ?_; refine W_ret ?_
    rotate_left
  · exact ⟨_, _, _, rfl, by assumption, _, _, _, _, rfl, hG, hr2.le (by omega), hO.o.mono (by omega), hO1.o.mono (by omega), by omega, by simp⟩
  · exact ⟨_, _, _, rfl, by assumption, _, _, _, _, rfl, hG, hr2.le (by omega), hO.o.mono (by omega), hQ.o.mono (by omega), by omega, by simp; omega⟩
  · exact ⟨_, _, _, rfl, by assumption, _, _, _, _, rfl, hG, hr2.le (by omega), hO1.o.mono (by omega), hQ.o.mono (by omega), by simp, by omega⟩
  · exact ⟨_, _, _, rfl, by assumption, _, _, _, _, rfl, hG, hr1.le (by omega), hO.o.mono (by omega), hQ.o.mono (by omega), by omega, by omega⟩

end Go.Proofs.Ytlalfmialbolhaa
