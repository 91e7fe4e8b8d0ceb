/- Walks: the law of streams that are the same. -/
import Derived.Test.YtlalfmialbolhaaHsWStrF
import Derived.Test.YtlalfmialbolhaaHsWAl
import Derived.Test.YtlalfmialbolhaaHsBt
namespace Go.Proofs.Ytlalfmialbolhaa
open Go.Hs
set_option maxRecDepth 10000
set_option maxHeartbeats 4000000
set_option linter.unusedVariables false
set_option linter.unusedSimpArgs false

theorem DrawSameStreams_ok (w : World) (v : Value) (xs : List UInt8) (h : Bytes w v xs) (hc : CapOk v) : Does Try.prog 13 [v] w (RetE2 w 3 smallS) := by
  have hle := h.le
  have litown : True := trivial
  refine fn_of_Wcc Try.func13 rfl Try.results13 Try.ntmps13 rfl Try.isAgg25 Try.sizeOf25 ?_
  have stop5 : True := trivial
  have stop7 : True := trivial
  have stop9 : True := trivial
  focus
    refine W_seq ?_; refine W_region rfl ?_; refine Wo_alloc2 rfl flat25 ?_; rintro b1 w1 hb1 E1 hB1; have hlb1 := hB1.lt; have hs1 := E1.size; refine Wo_alloc2 rfl flat25 ?_; rintro b2 w2 hb2 E2 hB2; have hlb2 := hB2.lt
    have hs2 := E2.size; refine Wo_nil ?_; refine W_seq ?_; refine W_region rfl ?_; refine Wo rfl (opv_move (v := v) rfl) ?_
    refine Wo_call rfl (opc1 (a := v) Try.call50 rfl) (open_ok _ _ _ ((Mono.mono (E1.trans E2) h)) (by assumption)) ?_; rintro _ w3 ⟨E3, y1, rfl, hy1⟩; have hlhy1 := hy1.lt; have hghy1 := hy1.ge; have hs3 := E3.size
    refine Wo rfl (opv_assign (v := .pointer _) rfl) ?_; refine Wo_nil ?_; refine W_seq ?_; refine W_region rfl ?_; refine Wo rfl (opv_move (v := .pointer _) rfl) ?_
    refine Wo_call rfl (opc2 (a := .pointer _) (b := .int _ _) Try.call51 rfl rfl) (Stream_ok _ _ (by assumption) (by omega) (by omega)) ?_; rintro _ w4 ⟨u1, q1, x1, y2, rfl, E4, hr1, hO1, hQ1, hy2⟩
    have icu1 := OwnedB.isC (Owned.toB hO1); have cpu1 := OwnedB.capOk (Owned.toB hO1); have icq1 := OwnedB.isC (Owned.toB hQ1); have cpq1 := OwnedB.capOk (Owned.toB hQ1); (try dsimp only at hy2); have hlhr1 := hr1.lt
    have Ehr1 := hr1.old; have hB1 := (hB1.ext (E2.trans E3)).grown E4 (by simp only [ne_eq, Option.some.injEq]; omega); have hB2 := (hB2.ext E3).grown E4 (by simp only [ne_eq, Option.some.injEq]; omega); have hs4 := E4.size
    refine Wo_alloc2 rfl flat25 ?_; rintro b3 w5 hb3 E5 hB3; have hlb3 := hB3.lt; have hr1 := hr1.ext E5; have hs5 := E5.size
    refine Wo_st2 rfl Try.sizeOf25 rfl rfl (by first | rfl | assumption) (by first | rfl | assumption) hB3 (by omega) (((E1.trans E2).trans Ehr1).trans E5) ?_; rintro w6 E6 hB3 K1 hz1
    have E7 := ((E2.trans Ehr1).trans E5).wroteAt (((E1.trans E2).trans Ehr1).trans E5) E6 K1 hz1 (by omega); have szE7 := E7.size; have E8 := (Ehr1.trans E5).wroteAt (((E1.trans E2).trans Ehr1).trans E5) E6 K1 hz1 (by omega)
    have szE8 := E8.size; have E9 := E5.wroteAt (((E1.trans E2).trans Ehr1).trans E5) E6 K1 hz1 (by omega); have szE9 := E9.size; have hO1 := (hO1.toB.ext E5).wrote K1 (by omega); have hQ1 := (hQ1.toB.ext E5).wrote K1 (by omega)
    have hB1 := (hB1.ext E5).of_heap (K1 _ (by omega)); have hB2 := (hB2.ext E5).of_heap (K1 _ (by omega)); have hr1 := hr1.wrote E8 (K1 _ (by omega)) hz1; refine Wo_nil ?_; refine W_seq ?_; refine W_seq ?_; refine W_region rfl ?_
    refine Wo rfl (opv_move (v := .pointer _) rfl) ?_; refine Wo_call rfl (opc2 (a := .pointer _) (b := .int _ _) Try.call52 rfl rfl) (pick_ok _ _ (by assumption) (by omega)) ?_; rintro _ w7 ⟨y3, rfl, E10, hr2, hy3⟩
    (try dsimp only at hy3); have hlhr2 := hr2.lt; have Ehr2 := hr2.old; have hB3 := hB3.grown E10 (by simp only [ne_eq, Option.some.injEq]; omega); have hO1 := hO1.grown E10 (by omega); have hQ1 := hQ1.grown E10 (by omega)
    have hB1 := hB1.grown E10 (by simp only [ne_eq, Option.some.injEq]; omega); have hB2 := hB2.grown E10 (by simp only [ne_eq, Option.some.injEq]; omega); have hs6 := E10.size; refine Wo_nil ?_; refine W_block ?_; refine W_seq ?_
    refine W_region rfl ?_; refine Wo rfl (opv_eql rfl rfl) ?_; refine Wo rfl (opv_assign (v := .bool _) rfl) ?_; refine Wo_nil ?_; refine W_cond_dec rfl (fun h1 => ?_) (fun h1 => ?_); refine W_seq ?_; rotate_left; refine W_seq ?_
    refine W_region rfl ?_; refine Wo rfl (opv_eql rfl rfl) ?_; refine Wo rfl (opv_assign (v := .bool _) rfl) ?_; refine Wo_nil ?_; refine W_cond_dec rfl (fun h2 => ?_) (fun h2 => ?_); refine W_seq ?_; rotate_left; refine W_skip ?_
    refine W_seq ?_; rotate_left
  · clear stop5 stop7 stop9
    have E2w := E1.trans E2
    have kS : ∀ (w : World) (u1 u2 : Value), Ints w u1 x1 → Ints w u2 y2 → Does Try.prog 53 [.agg #[u1, u2]] w (RetS2 w 3 (shV x1 y2).1 (shV x1 y2).2) := fun w u1 u2 h1 h2 => spec_ShortOf_ok w u1 u2 x1 y2 h1 h2 (by omega) (by omega)
    have hsl : (shV x1 y2).1.length ≤ 12 ∧ (shV x1 y2).2.length ≤ 12 := by
      unfold shV
      split
      · rename_i h
        have := h.short_stm.2.2
        simp only; omega
      · simp
    focus
      have szE2w := E2w.size; have szEhr2 := Ehr2.size; have szE9 := E9.size; have szE8 := E8.size; have szE7 := E7.size; have szE6 := E6.size; have szE5 := E5.size; have szEhr1 := Ehr1.size; have szE3 := E3.size; have szE2 := E2.size
      have szE1 := E1.size; refine W_held (fun _ => True) mixed rfl (by kernel_rfl) ?_; intro w8 E11 K2 hz2; have hr2 := hr2.ext E11; have hs7 := E11.size; refine Wh_all (rs := [0, 1]) (by kernel_rfl) rfl ?_; refine WhAll_cons rfl ?_ ?_
      refine Wo (v := .agg _) rfl (opv_load2 Try.isAgg25 Try.sizeOf25 rfl (hB3.ext E11)) ?_; refine Wo_nil ?_; refine ⟨trivial, ?_⟩; refine Wh_all (rs := [1]) (by kernel_rfl) rfl ?_; refine WhAll_cons rfl ?_ ?_
      refine Wo (v := .agg _) rfl (opv_load2 Try.isAgg25 Try.sizeOf25 rfl (hB3.ext E11)) ?_; refine Wo_nil ?_; refine ⟨trivial, ?_⟩; refine Wh_all (rs := [2]) (by kernel_rfl) rfl ?_; refine WhAll_cons rfl ?_ ?_
      refine Wo_call rfl (opc1 (a := .agg _) Try.call53 rfl) (kS _ _ _ ((Mono.mono E11 (OwnedB.read hO1))) ((Mono.mono E11 (OwnedB.read hQ1)))) ?_; rintro _ w9 ⟨u2, q2, rfl, E12, hO2, hQ2, hd1⟩; have icu2 := OwnedB.isC (Owned.toB hO2)
      have cpu2 := OwnedB.capOk (Owned.toB hO2); have icq2 := OwnedB.isC (Owned.toB hQ2); have cpq2 := OwnedB.capOk (Owned.toB hQ2); have hr2 := hr2.ext E12; have hs8 := E12.size; refine Wo_nil ?_; refine ⟨trivial, ?_⟩
      refine Wh_all (rs := [3]) (by kernel_rfl) rfl ?_; refine WhAll_cons rfl ?_ ?_
      refine Wo_st2 rfl Try.sizeOf25 rfl rfl (by first | rfl | assumption) (by first | rfl | assumption) (hB1.ext (E11.trans E12)) (by omega) (((E2w.trans Ehr2).trans E11).trans E12) ?_; rintro w10 E13 hB1 K3 hz3
      have hB3 := (hB3.ext (E11.trans E12)).of_heap (K3 _ (by omega)); have hO1 := (hO1.ext (E11.trans E12)).wrote K3 (by omega); have hQ1 := (hQ1.ext (E11.trans E12)).wrote K3 (by omega)
      have hB2 := (hB2.ext (E11.trans E12)).of_heap (K3 _ (by omega)); have hO2 := hO2.toB.wrote K3 (by omega); have hQ2 := hQ2.toB.wrote K3 (by omega); refine Wo_nil ?_; refine ⟨trivial, ?_⟩
      refine Wh_all (rs := [4]) (by kernel_rfl) rfl ?_; refine WhAll_cons rfl ?_ ?_; refine Wo_st2 rfl Try.sizeOf25 rfl rfl (by first | rfl | assumption) (by first | rfl | assumption) hB2 (by omega) E13 ?_; rintro w11 E14 hB2 K4 hz4
      have hB1 := hB1.of_heap (K4 _ (by omega)); have hB3 := hB3.of_heap (K4 _ (by omega)); have hO1 := hO1.wrote K4 (by omega); have hQ1 := hQ1.wrote K4 (by omega); have hO2 := hO2.wrote K4 (by omega); have hQ2 := hQ2.wrote K4 (by omega)
      refine Wo_nil ?_; refine ⟨trivial, ?_⟩; refine Wh_done (by kernel_rfl) ?_; refine W_ret ?_; rotate_left; exact WhAll_nil; exact WhAll_nil; exact WhAll_nil; exact WhAll_nil; refine WhAll_cons rfl ?_ ?_
      refine Wo (v := .agg _) rfl (opv_load2 Try.isAgg25 Try.sizeOf25 rfl (hB3.ext E11)) ?_; refine Wo_nil ?_; refine ⟨trivial, ?_⟩; refine Wh_all (rs := [0, 2]) (by kernel_rfl) rfl ?_; refine WhAll_cons rfl ?_ ?_
      refine Wo (v := .agg _) rfl (opv_load2 Try.isAgg25 Try.sizeOf25 rfl (hB3.ext E11)) ?_; refine Wo_nil ?_; refine ⟨trivial, ?_⟩; refine Wh_all (rs := [2]) (by kernel_rfl) rfl ?_; refine WhAll_cons rfl ?_ ?_
      refine Wo_call rfl (opc1 (a := .agg _) Try.call53 rfl) (kS _ _ _ ((Mono.mono E11 (OwnedB.read hO1))) ((Mono.mono E11 (OwnedB.read hQ1)))) ?_; rintro _ w9 ⟨u2, q2, rfl, E12, hO2, hQ2, hd1⟩; have icu2 := OwnedB.isC (Owned.toB hO2)
      have cpu2 := OwnedB.capOk (Owned.toB hO2); have icq2 := OwnedB.isC (Owned.toB hQ2); have cpq2 := OwnedB.capOk (Owned.toB hQ2); have hr2 := hr2.ext E12; have hs8 := E12.size; refine Wo_nil ?_; refine ⟨trivial, ?_⟩
      refine Wh_all (rs := [3]) (by kernel_rfl) rfl ?_; refine WhAll_cons rfl ?_ ?_
      refine Wo_st2 rfl Try.sizeOf25 rfl rfl (by first | rfl | assumption) (by first | rfl | assumption) (hB1.ext (E11.trans E12)) (by omega) (((E2w.trans Ehr2).trans E11).trans E12) ?_; rintro w10 E13 hB1 K3 hz3
      have hB3 := (hB3.ext (E11.trans E12)).of_heap (K3 _ (by omega)); have hO1 := (hO1.ext (E11.trans E12)).wrote K3 (by omega); have hQ1 := (hQ1.ext (E11.trans E12)).wrote K3 (by omega)
      have hB2 := (hB2.ext (E11.trans E12)).of_heap (K3 _ (by omega)); have hO2 := hO2.toB.wrote K3 (by omega); have hQ2 := hQ2.toB.wrote K3 (by omega); refine Wo_nil ?_; refine ⟨trivial, ?_⟩
      refine Wh_all (rs := [4]) (by kernel_rfl) rfl ?_; refine WhAll_cons rfl ?_ ?_; refine Wo_st2 rfl Try.sizeOf25 rfl rfl (by first | rfl | assumption) (by first | rfl | assumption) hB2 (by omega) E13 ?_; rintro w11 E14 hB2 K4 hz4
      have hB1 := hB1.of_heap (K4 _ (by omega)); have hB3 := hB3.of_heap (K4 _ (by omega)); have hO1 := hO1.wrote K4 (by omega); have hQ1 := hQ1.wrote K4 (by omega); have hO2 := hO2.wrote K4 (by omega); have hQ2 := hQ2.wrote K4 (by omega)
      refine Wo_nil ?_; refine ⟨trivial, ?_⟩; refine Wh_done (by kernel_rfl) ?_; refine W_ret ?_; rotate_left; exact WhAll_nil; exact WhAll_nil; exact WhAll_nil; refine WhAll_cons rfl ?_ ?_
      refine Wo_call rfl (opc1 (a := .agg _) Try.call53 rfl) (kS _ _ _ ((Mono.mono E11 (OwnedB.read hO1))) ((Mono.mono E11 (OwnedB.read hQ1)))) ?_; rintro _ w9 ⟨u2, q2, rfl, E12, hO2, hQ2, hd1⟩; have icu2 := OwnedB.isC (Owned.toB hO2)
      have cpu2 := OwnedB.capOk (Owned.toB hO2); have icq2 := OwnedB.isC (Owned.toB hQ2); have cpq2 := OwnedB.capOk (Owned.toB hQ2); have hr2 := hr2.ext E12; have hs8 := E12.size; refine Wo_nil ?_; refine ⟨trivial, ?_⟩
      refine Wh_all (rs := [0]) (by kernel_rfl) rfl ?_; refine WhAll_cons rfl ?_ ?_; refine Wo (v := .agg _) rfl (opv_load2 Try.isAgg25 Try.sizeOf25 rfl (hB3.ext (E11.trans E12))) ?_; refine Wo_nil ?_; refine ⟨trivial, ?_⟩
      refine Wh_all (rs := [3]) (by kernel_rfl) rfl ?_; refine WhAll_cons rfl ?_ ?_
      refine Wo_st2 rfl Try.sizeOf25 rfl rfl (by first | rfl | assumption) (by first | rfl | assumption) (hB1.ext (E11.trans E12)) (by omega) (((E2w.trans Ehr2).trans E11).trans E12) ?_; rintro w10 E13 hB1 K3 hz3
      have hB3 := (hB3.ext (E11.trans E12)).of_heap (K3 _ (by omega)); have hO1 := (hO1.ext (E11.trans E12)).wrote K3 (by omega); have hQ1 := (hQ1.ext (E11.trans E12)).wrote K3 (by omega)
      have hB2 := (hB2.ext (E11.trans E12)).of_heap (K3 _ (by omega)); have hO2 := hO2.toB.wrote K3 (by omega); have hQ2 := hQ2.toB.wrote K3 (by omega); refine Wo_nil ?_; refine ⟨trivial, ?_⟩
      refine Wh_all (rs := [4]) (by kernel_rfl) rfl ?_; refine WhAll_cons rfl ?_ ?_; refine Wo_st2 rfl Try.sizeOf25 rfl rfl (by first | rfl | assumption) (by first | rfl | assumption) hB2 (by omega) E13 ?_; rintro w11 E14 hB2 K4 hz4
      have hB1 := hB1.of_heap (K4 _ (by omega)); have hB3 := hB3.of_heap (K4 _ (by omega)); have hO1 := hO1.wrote K4 (by omega); have hQ1 := hQ1.wrote K4 (by omega); have hO2 := hO2.wrote K4 (by omega); have hQ2 := hQ2.wrote K4 (by omega)
      refine Wo_nil ?_; refine ⟨trivial, ?_⟩; refine Wh_done (by kernel_rfl) ?_; refine W_ret ?_; rotate_left; exact WhAll_nil; exact WhAll_nil; exact WhAll_nil; exact WhAll_nil; exact WhAll_nil
    all_goals exact ⟨_, _, _, rfl, by assumption, _, _, _, rfl, by assumption, _, _, _, _, _, _, _, _, rfl, by assumption, hO1.o.mono (by omega), hQ1.o.mono (by omega), hO2.o.mono (by omega), hQ2.o.mono (by omega), by unfold smallS; omega, by unfold smallS; omega⟩
  · clear stop5 stop7 stop9
    have heldS : w7 = w7 := rfl
    have Ew7 := (E1.trans E2).trans Ehr2
    have offs : True := trivial
    refine W_mid [20, 21, 22, 23, 24, 25, 26, 27, 28, 29, 6] (fun ((b6, _) : Nat × Value) => [(6, .pointer (some ⟨b6, 0, none⟩))]) (fun (b6, vv) w' => Ext w7 w' ∧ w7.heap.size ≤ b6 ∧ Blk w' b6 [vv, q1] ∧ Owned w7.heap.size XI w' vv (([] ++ x1) ++ y2)) ?_ ?_
    · focus
        have szEw7 := Ew7.size; have szEhr2 := Ehr2.size; have szE9 := E9.size; have szE8 := E8.size; have szE7 := E7.size; have szE6 := E6.size; have szE5 := E5.size; have szEhr1 := Ehr1.size; have szE3 := E3.size; have szE2 := E2.size
        have szE1 := E1.size; refine W_held (fun w' => Ext w7 w') mixed rfl (by kernel_rfl) ?_; intro w8 E11 K2 hz2; have hr2 := hr2.ext E11; have hs7 := E11.size
        refine Wh_take 1 rfl (by kernel_rfl) (by kernel_rfl) rfl (fun _ _ => opv_fieldAddr Try.underlying25 rfl rfl Try.sizeOf23 rfl) E11 ?_
        refine Wh_take (v := u1) 2 rfl (by kernel_rfl) (by kernel_rfl) rfl (fun w' hw' => opv_load Try.isAgg23 rfl ((hB3.ext hw').cell rfl)) E11 ?_
        refine Wh_take 4 rfl (by kernel_rfl) (by kernel_rfl) rfl (fun _ _ => opv_fieldAddr Try.underlying25 rfl rfl Try.sizeOf23 rfl) E11 ?_
        refine Wh_take (v := q1) 5 rfl (by kernel_rfl) (by kernel_rfl) rfl (fun w' hw' => opv_load Try.isAgg23 rfl ((hB3.ext hw').cell rfl)) E11 ?_
        refine Wh_take 7 rfl (by kernel_rfl) (by kernel_rfl) rfl (fun _ _ => opv_fieldAddr Try.underlying25 rfl rfl Try.sizeOf23 rfl) E11 ?_
        refine Wh_take (v := q1) 8 rfl (by kernel_rfl) (by kernel_rfl) rfl (fun w' hw' => opv_load Try.isAgg23 rfl ((hB3.ext hw').cell rfl)) E11 ?_; refine Wh_all (rs := [0, 10]) (by kernel_rfl) rfl ?_; refine WhAll_cons rfl ?_ ?_
        refine Wo_lit0 XInt rfl el23 Try.sizeOf3 ?_; rintro b4 w9 hb4 b4lt E12 hO2; have hr2 := hr2.ext E12; have hs8 := E12.size; refine Wo_nil ?_; refine ⟨(E11.trans E12), ?_⟩; refine Wh_all (rs := [3, 10]) (by kernel_rfl) rfl ?_
        refine WhAll_cons rfl ?_ ?_; refine Wo_appS rfl el23 rfl rfl (Mono.mono (E11.trans E12) (OwnedB.read hO1)) hO2.toB (by first | omega | (simp <;> omega)) (by omega) (by omega) ((Ew7.trans E11).trans E12) (by omega) ?_
        have hT1 := hO2.toB; rintro v1 w10 hO2 E13 M1; have E14 := M1.ext hT1 (((E2.trans Ehr2).trans E11).trans E12) (by omega); have szE14 := E14.size; have E15 := M1.ext hT1 ((Ehr2.trans E11).trans E12) (by omega); have szE15 := E15.size
        have E16 := M1.ext hT1 (E11.trans E12) (by omega); have szE16 := E16.size; have E17 := M1.ext hT1 E12 (by omega); have szE17 := E17.size; have hB3 := (hB3.ext (E11.trans E12)).moves M1 hT1 (by omega)
        have hO1 := (hO1.ext (E11.trans E12)).moves M1 hT1 (by omega); have hQ1 := (hQ1.ext (E11.trans E12)).moves M1 hT1 (by omega); have hB1 := (hB1.ext (E11.trans E12)).moves M1 hT1 (by omega)
        have hB2 := (hB2.ext (E11.trans E12)).moves M1 hT1 (by omega); have hr2 := hr2.moves E15 M1 hT1 (by omega); have offhB3 : Value.ownBlock v1 ≠ some b3 := Moves.off M1 (fun e => own_notin hT1 (by omega) e.symm) (by omega)
        have offhB1 : Value.ownBlock v1 ≠ some b1 := Moves.off M1 (fun e => own_notin hT1 (by omega) e.symm) (by omega); have offhB2 : Value.ownBlock v1 ≠ some b2 := Moves.off M1 (fun e => own_notin hT1 (by omega) e.symm) (by omega)
        have hs9 := E13.size; have szM1 := M1.1.size; have icv1 := OwnedB.isC (Owned.toB hO2); refine Wo_nil ?_; refine ⟨E16, ?_⟩; refine Wh_all (rs := [6, 10]) (by kernel_rfl) rfl ?_; refine WhAll_cons rfl ?_ ?_
        refine Wo_appS rfl el23 rfl rfl (OwnedB.read hQ1) hO2.toB (by first | omega | (simp <;> omega)) (by omega) (by omega) E13 (by omega) ?_; have hT2 := hO2.toB; rintro v2 w11 hO2 E18 M2; have E19 := M2.ext hT2 E14 (by omega)
        have szE19 := E19.size; have E20 := M2.ext hT2 E15 (by omega); have szE20 := E20.size; have E21 := M2.ext hT2 E16 (by omega); have szE21 := E21.size; have E22 := M2.ext hT2 E17 (by omega); have szE22 := E22.size
        have hB3 := hB3.moves M2 hT2 (by omega); have hO1 := hO1.moves M2 hT2 (by omega); have hQ1 := hQ1.moves M2 hT2 (by omega); have hB1 := hB1.moves M2 hT2 (by omega); have hB2 := hB2.moves M2 hT2 (by omega)
        have hr2 := hr2.moves E20 M2 hT2 (by omega); have offhB3 : Value.ownBlock v2 ≠ some b3 := Moves.off M2 (fun e => own_notin hT2 (by omega) e.symm) (by omega)
        have offhB1 : Value.ownBlock v2 ≠ some b1 := Moves.off M2 (fun e => own_notin hT2 (by omega) e.symm) (by omega); have offhB2 : Value.ownBlock v2 ≠ some b2 := Moves.off M2 (fun e => own_notin hT2 (by omega) e.symm) (by omega)
        have hs10 := E18.size; have szM2 := M2.1.size; have icv2 := OwnedB.isC (Owned.toB hO2); refine Wo_nil ?_; refine ⟨E21, ?_⟩
        refine Wh_take 9 rfl (by kernel_rfl) (by kernel_rfl) rfl (fun _ _ => opv_build2 flat25 rfl (by first | assumption | rfl) (by first | assumption | rfl)) E21 ?_; refine Wh_all (rs := [10]) (by kernel_rfl) rfl ?_
        refine WhAll_cons rfl ?_ ?_; refine Wo_alloc2 rfl flat25 ?_; rintro b5 w12 hb5 E23 hB4; have hlb5 := hB4.lt; have hr2 := hr2.ext E23; have hs11 := E23.size; refine Wo_nil ?_; refine ⟨(E21.trans E23), ?_⟩
        refine Wh_all (rs := [11]) (by kernel_rfl) rfl ?_; refine WhAll_cons rfl ?_ ?_; refine Wo_st2 rfl Try.sizeOf25 rfl rfl (by first | rfl | assumption) (by first | rfl | assumption) hB4 (by omega) (E18.trans E23) ?_
        rintro w13 E24 hB4 K3 hz3; have E25 := (E19.trans E23).wroteAt (E18.trans E23) E24 K3 hz3 (by omega); have szE25 := E25.size; have E26 := (E20.trans E23).wroteAt (E18.trans E23) E24 K3 hz3 (by omega); have szE26 := E26.size
        have E27 := (E21.trans E23).wroteAt (E18.trans E23) E24 K3 hz3 (by omega); have szE27 := E27.size; have E28 := (E22.trans E23).wroteAt (E18.trans E23) E24 K3 hz3 (by omega); have szE28 := E28.size
        have E29 := E23.wroteAt (E18.trans E23) E24 K3 hz3 (by omega); have szE29 := E29.size; simp only [List.set] at hB4; have hO2 := (hO2.toB.ext E23).wrote K3 (by omega); have hB3 := (hB3.ext E23).of_heap (K3 _ (by omega))
        have hO1 := (hO1.ext E23).wrote K3 (by omega); have hQ1 := (hQ1.ext E23).wrote K3 (by omega); have hB1 := (hB1.ext E23).of_heap (K3 _ (by omega)); have hB2 := (hB2.ext E23).of_heap (K3 _ (by omega))
        have hr2 := hr2.wrote E26 (K3 _ (by omega)) hz3; refine Wo_nil ?_; refine ⟨E27, ?_⟩; refine Wh_done (by kernel_rfl) ?_; rotate_left; exact WhAll_nil; exact WhAll_nil; refine WhAll_cons rfl ?_ ?_; refine Wo_alloc2 rfl flat25 ?_
        rintro b5 w11 hb5 E18 hB4; have hlb5 := hB4.lt; have hr2 := hr2.ext E18; have hs10 := E18.size; refine Wo_nil ?_; refine ⟨(E16.trans E18), ?_⟩; refine Wh_all (rs := [6]) (by kernel_rfl) rfl ?_; refine WhAll_cons rfl ?_ ?_
        refine Wo_appS rfl el23 rfl rfl (Mono.mono E18 (OwnedB.read hQ1)) (hO2.toB.ext E18) (by first | omega | (simp <;> omega)) (by omega) (by omega) (E13.trans E18) (by omega) ?_; have hT2 := (hO2.toB.ext E18); rintro v2 w12 hO2 E19 M2
        have E20 := M2.ext hT2 (E14.trans E18) (by omega); have szE20 := E20.size; have E21 := M2.ext hT2 (E15.trans E18) (by omega); have szE21 := E21.size; have E22 := M2.ext hT2 (E16.trans E18) (by omega); have szE22 := E22.size
        have E23 := M2.ext hT2 (E17.trans E18) (by omega); have szE23 := E23.size; have hB3 := (hB3.ext E18).moves M2 hT2 (by omega); have hO1 := (hO1.ext E18).moves M2 hT2 (by omega); have hQ1 := (hQ1.ext E18).moves M2 hT2 (by omega)
        have hB1 := (hB1.ext E18).moves M2 hT2 (by omega); have hB2 := (hB2.ext E18).moves M2 hT2 (by omega); have hB4 := hB4.moves M2 hT2 (by omega); have hr2 := hr2.moves E21 M2 hT2 (by omega)
        have offhB3 : Value.ownBlock v2 ≠ some b3 := Moves.off M2 (fun e => own_notin hT2 (by omega) e.symm) (by omega); have offhB1 : Value.ownBlock v2 ≠ some b1 := Moves.off M2 (fun e => own_notin hT2 (by omega) e.symm) (by omega)
        have offhB2 : Value.ownBlock v2 ≠ some b2 := Moves.off M2 (fun e => own_notin hT2 (by omega) e.symm) (by omega); have offhB4 : Value.ownBlock v2 ≠ some b5 := Moves.off M2 (fun e => own_notin hT2 (by omega) e.symm) (by omega)
        have hs11 := E19.size; have szM2 := M2.1.size; have icv2 := OwnedB.isC (Owned.toB hO2); refine Wo_nil ?_; refine ⟨E22, ?_⟩
        refine Wh_take 9 rfl (by kernel_rfl) (by kernel_rfl) rfl (fun _ _ => opv_build2 flat25 rfl (by first | assumption | rfl) (by first | assumption | rfl)) E22 ?_; refine Wh_all (rs := [11]) (by kernel_rfl) rfl ?_
        refine WhAll_cons rfl ?_ ?_; refine Wo_st2 rfl Try.sizeOf25 rfl rfl (by first | rfl | assumption) (by first | rfl | assumption) hB4 (by omega) E19 ?_; rintro w13 E24 hB4 K3 hz3; have E25 := E20.wroteAt E19 E24 K3 hz3 (by omega)
        have szE25 := E25.size; have E26 := E21.wroteAt E19 E24 K3 hz3 (by omega); have szE26 := E26.size; have E27 := E22.wroteAt E19 E24 K3 hz3 (by omega); have szE27 := E27.size; have E28 := E23.wroteAt E19 E24 K3 hz3 (by omega)
        have szE28 := E28.size; simp only [List.set] at hB4; have hO2 := OwnedB.wroteOff hO2.toB (by assumption) K3; have hB3 := hB3.of_heap (K3 _ (by omega)); have hO1 := hO1.wrote K3 (by omega); have hQ1 := hQ1.wrote K3 (by omega)
        have hB1 := hB1.of_heap (K3 _ (by omega)); have hB2 := hB2.of_heap (K3 _ (by omega)); have hr2 := hr2.wrote E26 (K3 _ (by omega)) hz3; refine Wo_nil ?_; refine ⟨E27, ?_⟩; refine Wh_done (by kernel_rfl) ?_; rotate_left
        exact WhAll_nil; exact WhAll_nil; exact WhAll_nil; refine WhAll_cons rfl ?_ ?_; refine Wo_alloc2 rfl flat25 ?_; rintro b5 w10 hb5 E13 hB4; have hlb5 := hB4.lt; have hr2 := hr2.ext E13; have hs9 := E13.size; refine Wo_nil ?_
        refine ⟨((E11.trans E12).trans E13), ?_⟩; refine Wh_all (rs := [3]) (by kernel_rfl) rfl ?_; refine WhAll_cons rfl ?_ ?_
        refine Wo_appS rfl el23 rfl rfl (Mono.mono ((E11.trans E12).trans E13) (OwnedB.read hO1)) (hO2.toB.ext E13) (by first | omega | (simp <;> omega)) (by omega) (by omega) (((Ew7.trans E11).trans E12).trans E13) (by omega) ?_
        have hT1 := (hO2.toB.ext E13); rintro v1 w11 hO2 E14 M1; have E15 := M1.ext hT1 ((((E2.trans Ehr2).trans E11).trans E12).trans E13) (by omega); have szE15 := E15.size
        have E16 := M1.ext hT1 (((Ehr2.trans E11).trans E12).trans E13) (by omega); have szE16 := E16.size; have E17 := M1.ext hT1 ((E11.trans E12).trans E13) (by omega); have szE17 := E17.size
        have E18 := M1.ext hT1 (E12.trans E13) (by omega); have szE18 := E18.size; have hB3 := (hB3.ext ((E11.trans E12).trans E13)).moves M1 hT1 (by omega); have hO1 := (hO1.ext ((E11.trans E12).trans E13)).moves M1 hT1 (by omega)
        have hQ1 := (hQ1.ext ((E11.trans E12).trans E13)).moves M1 hT1 (by omega); have hB1 := (hB1.ext ((E11.trans E12).trans E13)).moves M1 hT1 (by omega); have hB2 := (hB2.ext ((E11.trans E12).trans E13)).moves M1 hT1 (by omega)
        have hB4 := hB4.moves M1 hT1 (by omega); have hr2 := hr2.moves E16 M1 hT1 (by omega); have offhB3 : Value.ownBlock v1 ≠ some b3 := Moves.off M1 (fun e => own_notin hT1 (by omega) e.symm) (by omega)
        have offhB1 : Value.ownBlock v1 ≠ some b1 := Moves.off M1 (fun e => own_notin hT1 (by omega) e.symm) (by omega); have offhB2 : Value.ownBlock v1 ≠ some b2 := Moves.off M1 (fun e => own_notin hT1 (by omega) e.symm) (by omega)
        have offhB4 : Value.ownBlock v1 ≠ some b5 := Moves.off M1 (fun e => own_notin hT1 (by omega) e.symm) (by omega); have hs10 := E14.size; have szM1 := M1.1.size; have icv1 := OwnedB.isC (Owned.toB hO2); refine Wo_nil ?_
        refine ⟨E17, ?_⟩; refine Wh_all (rs := [6]) (by kernel_rfl) rfl ?_; refine WhAll_cons rfl ?_ ?_; refine Wo_appS rfl el23 rfl rfl (OwnedB.read hQ1) hO2.toB (by first | omega | (simp <;> omega)) (by omega) (by omega) E14 (by omega) ?_
        have hT2 := hO2.toB; rintro v2 w12 hO2 E19 M2; have E20 := M2.ext hT2 E15 (by omega); have szE20 := E20.size; have E21 := M2.ext hT2 E16 (by omega); have szE21 := E21.size; have E22 := M2.ext hT2 E17 (by omega)
        have szE22 := E22.size; have E23 := M2.ext hT2 E18 (by omega); have szE23 := E23.size; have hB3 := hB3.moves M2 hT2 (by omega); have hO1 := hO1.moves M2 hT2 (by omega); have hQ1 := hQ1.moves M2 hT2 (by omega)
        have hB1 := hB1.moves M2 hT2 (by omega); have hB2 := hB2.moves M2 hT2 (by omega); have hB4 := hB4.movesOff M2 (Moves.offS M1 rfl (by omega) (by omega)); have hr2 := hr2.moves E21 M2 hT2 (by omega)
        have offhB3 : Value.ownBlock v2 ≠ some b3 := Moves.off M2 (fun e => own_notin hT2 (by omega) e.symm) (by omega); have offhB1 : Value.ownBlock v2 ≠ some b1 := Moves.off M2 (fun e => own_notin hT2 (by omega) e.symm) (by omega)
        have offhB2 : Value.ownBlock v2 ≠ some b2 := Moves.off M2 (fun e => own_notin hT2 (by omega) e.symm) (by omega); have offhB4 : Value.ownBlock v2 ≠ some b5 := Moves.off M2 (by assumption) (by omega); have hs11 := E19.size
        have szM2 := M2.1.size; have icv2 := OwnedB.isC (Owned.toB hO2); refine Wo_nil ?_; refine ⟨E22, ?_⟩
        refine Wh_take 9 rfl (by kernel_rfl) (by kernel_rfl) rfl (fun _ _ => opv_build2 flat25 rfl (by first | assumption | rfl) (by first | assumption | rfl)) E22 ?_; refine Wh_all (rs := [11]) (by kernel_rfl) rfl ?_
        refine WhAll_cons rfl ?_ ?_; refine Wo_st2 rfl Try.sizeOf25 rfl rfl (by first | rfl | assumption) (by first | rfl | assumption) hB4 (by omega) E19 ?_; rintro w13 E24 hB4 K3 hz3; have E25 := E20.wroteAt E19 E24 K3 hz3 (by omega)
        have szE25 := E25.size; have E26 := E21.wroteAt E19 E24 K3 hz3 (by omega); have szE26 := E26.size; have E27 := E22.wroteAt E19 E24 K3 hz3 (by omega); have szE27 := E27.size; have E28 := E23.wroteAt E19 E24 K3 hz3 (by omega)
        have szE28 := E28.size; simp only [List.set] at hB4; have hO2 := OwnedB.wroteOff hO2.toB (by assumption) K3; have hB3 := hB3.of_heap (K3 _ (by omega)); have hO1 := hO1.wrote K3 (by omega); have hQ1 := hQ1.wrote K3 (by omega)
        have hB1 := hB1.of_heap (K3 _ (by omega)); have hB2 := hB2.of_heap (K3 _ (by omega)); have hr2 := hr2.wrote E26 (K3 _ (by omega)) hz3; refine Wo_nil ?_; refine ⟨E27, ?_⟩; refine Wh_done (by kernel_rfl) ?_; rotate_left
        exact WhAll_nil; exact WhAll_nil; exact WhAll_nil; exact WhAll_nil; refine WhAll_cons rfl ?_ ?_; refine Wo_alloc2 rfl flat25 ?_; rintro b4 w9 hb4 E12 hB4; have hlb4 := hB4.lt; have hr2 := hr2.ext E12; have hs8 := E12.size
        refine Wo_nil ?_; refine ⟨(E11.trans E12), ?_⟩; refine Wh_all (rs := [0]) (by kernel_rfl) rfl ?_; refine WhAll_cons rfl ?_ ?_; refine Wo_lit0 XInt rfl el23 Try.sizeOf3 ?_; rintro b5 w10 hb5 b5lt E13 hO2; have hr2 := hr2.ext E13
        have hs9 := E13.size; refine Wo_nil ?_; refine ⟨((E11.trans E12).trans E13), ?_⟩; refine Wh_all (rs := [3]) (by kernel_rfl) rfl ?_; refine WhAll_cons rfl ?_ ?_
        refine Wo_appS rfl el23 rfl rfl (Mono.mono ((E11.trans E12).trans E13) (OwnedB.read hO1)) hO2.toB (by first | omega | (simp <;> omega)) (by omega) (by omega) (((Ew7.trans E11).trans E12).trans E13) (by omega) ?_; have hT1 := hO2.toB
        rintro v1 w11 hO2 E14 M1; have E15 := M1.ext hT1 ((((E2.trans Ehr2).trans E11).trans E12).trans E13) (by omega); have szE15 := E15.size; have E16 := M1.ext hT1 (((Ehr2.trans E11).trans E12).trans E13) (by omega)
        have szE16 := E16.size; have E17 := M1.ext hT1 ((E11.trans E12).trans E13) (by omega); have szE17 := E17.size; have E18 := M1.ext hT1 (E12.trans E13) (by omega); have szE18 := E18.size; have E19 := M1.ext hT1 E13 (by omega)
        have szE19 := E19.size; have hB3 := (hB3.ext ((E11.trans E12).trans E13)).moves M1 hT1 (by omega); have hO1 := (hO1.ext ((E11.trans E12).trans E13)).moves M1 hT1 (by omega)
        have hQ1 := (hQ1.ext ((E11.trans E12).trans E13)).moves M1 hT1 (by omega); have hB1 := (hB1.ext ((E11.trans E12).trans E13)).moves M1 hT1 (by omega); have hB2 := (hB2.ext ((E11.trans E12).trans E13)).moves M1 hT1 (by omega)
        have hB4 := (hB4.ext E13).moves M1 hT1 (by omega); have hr2 := hr2.moves E16 M1 hT1 (by omega); have offhB3 : Value.ownBlock v1 ≠ some b3 := Moves.off M1 (fun e => own_notin hT1 (by omega) e.symm) (by omega)
        have offhB1 : Value.ownBlock v1 ≠ some b1 := Moves.off M1 (fun e => own_notin hT1 (by omega) e.symm) (by omega); have offhB2 : Value.ownBlock v1 ≠ some b2 := Moves.off M1 (fun e => own_notin hT1 (by omega) e.symm) (by omega)
        have offhB4 : Value.ownBlock v1 ≠ some b4 := Moves.off M1 (fun e => own_notin hT1 (by omega) e.symm) (by omega); have hs10 := E14.size; have szM1 := M1.1.size; have icv1 := OwnedB.isC (Owned.toB hO2); refine Wo_nil ?_
        refine ⟨E17, ?_⟩; refine Wh_all (rs := [6]) (by kernel_rfl) rfl ?_; refine WhAll_cons rfl ?_ ?_; refine Wo_appS rfl el23 rfl rfl (OwnedB.read hQ1) hO2.toB (by first | omega | (simp <;> omega)) (by omega) (by omega) E14 (by omega) ?_
        have hT2 := hO2.toB; rintro v2 w12 hO2 E20 M2; have E21 := M2.ext hT2 E15 (by omega); have szE21 := E21.size; have E22 := M2.ext hT2 E16 (by omega); have szE22 := E22.size; have E23 := M2.ext hT2 E17 (by omega)
        have szE23 := E23.size; have E24 := M2.ext hT2 E18 (by omega); have szE24 := E24.size; have E25 := M2.ext hT2 E19 (by omega); have szE25 := E25.size; have hB3 := hB3.moves M2 hT2 (by omega); have hO1 := hO1.moves M2 hT2 (by omega)
        have hQ1 := hQ1.moves M2 hT2 (by omega); have hB1 := hB1.moves M2 hT2 (by omega); have hB2 := hB2.moves M2 hT2 (by omega); have hB4 := hB4.moves M2 hT2 (by omega); have hr2 := hr2.moves E22 M2 hT2 (by omega)
        have offhB3 : Value.ownBlock v2 ≠ some b3 := Moves.off M2 (fun e => own_notin hT2 (by omega) e.symm) (by omega); have offhB1 : Value.ownBlock v2 ≠ some b1 := Moves.off M2 (fun e => own_notin hT2 (by omega) e.symm) (by omega)
        have offhB2 : Value.ownBlock v2 ≠ some b2 := Moves.off M2 (fun e => own_notin hT2 (by omega) e.symm) (by omega); have offhB4 : Value.ownBlock v2 ≠ some b4 := Moves.off M2 (fun e => own_notin hT2 (by omega) e.symm) (by omega)
        have hs11 := E20.size; have szM2 := M2.1.size; have icv2 := OwnedB.isC (Owned.toB hO2); refine Wo_nil ?_; refine ⟨E23, ?_⟩
        refine Wh_take 9 rfl (by kernel_rfl) (by kernel_rfl) rfl (fun _ _ => opv_build2 flat25 rfl (by first | assumption | rfl) (by first | assumption | rfl)) E23 ?_; refine Wh_all (rs := [11]) (by kernel_rfl) rfl ?_
        refine WhAll_cons rfl ?_ ?_; refine Wo_st2 rfl Try.sizeOf25 rfl rfl (by first | rfl | assumption) (by first | rfl | assumption) hB4 (by omega) E20 ?_; rintro w13 E26 hB4 K3 hz3; have E27 := E21.wroteAt E20 E26 K3 hz3 (by omega)
        have szE27 := E27.size; have E28 := E22.wroteAt E20 E26 K3 hz3 (by omega); have szE28 := E28.size; have E29 := E23.wroteAt E20 E26 K3 hz3 (by omega); have szE29 := E29.size; have E30 := E24.wroteAt E20 E26 K3 hz3 (by omega)
        have szE30 := E30.size; simp only [List.set] at hB4; have hO2 := hO2.toB.wrote K3 (by omega); have hB3 := hB3.of_heap (K3 _ (by omega)); have hO1 := hO1.wrote K3 (by omega); have hQ1 := hQ1.wrote K3 (by omega)
        have hB1 := hB1.of_heap (K3 _ (by omega)); have hB2 := hB2.of_heap (K3 _ (by omega)); have hr2 := hr2.wrote E28 (K3 _ (by omega)) hz3; refine Wo_nil ?_; refine ⟨E29, ?_⟩; refine Wh_done (by kernel_rfl) ?_; rotate_left
        exact WhAll_nil; exact WhAll_nil; exact WhAll_nil; exact WhAll_nil; exact WhAll_nil
      all_goals first
        | exact ⟨(b4, v2), ⟨rfl, trivial⟩, by repeat (first | with_reducible exact Same.refl | refine Same.upd rfl ?_ | refine Same.upds rfl ?_ | refine Same.mix rfl ?_), by assumption, by omega, by assumption, by first | exact hO2.o.mono (by omega) | exact hO2.mono (by omega)⟩
        | exact ⟨(b5, v2), ⟨rfl, trivial⟩, by repeat (first | with_reducible exact Same.refl | refine Same.upd rfl ?_ | refine Same.upds rfl ?_ | refine Same.mix rfl ?_), by assumption, by omega, by assumption, by first | exact hO2.o.mono (by omega) | exact hO2.mono (by omega)⟩
    clear heldS offs
    rintro ⟨b6, vv⟩ ρ8 w8 ⟨E8', hb6, hB6, hO2⟩
    have ic1 := OwnedB.isC hO1
    have ic2 := OwnedB.isC hQ1
    have ic3 := OwnedB.isC hO2.toB
    focus
      have szE8' := E8'.size; have szEw7 := Ew7.size; have szEhr2 := Ehr2.size; have szE9 := E9.size; have szE8 := E8.size; have szE7 := E7.size; have szE6 := E6.size; have szE5 := E5.size; have szEhr1 := Ehr1.size; have szE3 := E3.size
      have szE2 := E2.size; have szE1 := E1.size; refine W_seq ?_; refine W_held (fun _ => True) mixed rfl (by kernel_rfl) ?_; intro w9 E11 K2 hz2; have hs7 := E11.size; refine Wh_all (rs := [0, 1]) (by kernel_rfl) rfl ?_
      refine WhAll_cons rfl ?_ ?_; refine Wo (v := .agg _) rfl (opv_load2 Try.isAgg25 Try.sizeOf25 rfl (hB3.ext (E8'.trans E11))) ?_; refine Wo_nil ?_; refine ⟨trivial, ?_⟩; refine Wh_all (rs := [1, 2]) (by kernel_rfl) rfl ?_
      refine WhAll_cons rfl ?_ ?_; refine Wo (v := .agg _) rfl (opv_load2 Try.isAgg25 Try.sizeOf25 rfl (hB6.ext E11)) ?_; refine Wo_nil ?_; refine ⟨trivial, ?_⟩; refine Wh_all (rs := [2]) (by kernel_rfl) rfl ?_
      refine WhAll_cons rfl ?_ ?_; refine Wo_st2 rfl Try.sizeOf25 rfl rfl (by first | rfl | assumption) (by first | rfl | assumption) (hB1.ext (E8'.trans E11)) (by omega) ((Ew7.trans E8').trans E11) ?_; rintro w10 E12 hB1 K3 hz3
      have hB3 := (hB3.ext (E8'.trans E11)).of_heap (K3 _ (by omega)); have hO1 := (hO1.ext (E8'.trans E11)).wrote K3 (by omega); have hQ1 := (hQ1.ext (E8'.trans E11)).wrote K3 (by omega)
      have hB2 := (hB2.ext (E8'.trans E11)).of_heap (K3 _ (by omega)); have hB6 := (hB6.ext E11).of_heap (K3 _ (by omega)); have hO2 := (hO2.toB.ext E11).wrote K3 (by omega); refine Wo_nil ?_; refine ⟨trivial, ?_⟩
      refine Wh_all (rs := [3]) (by kernel_rfl) rfl ?_; refine WhAll_cons rfl ?_ ?_; refine Wo_st2 rfl Try.sizeOf25 rfl rfl (by first | rfl | assumption) (by first | rfl | assumption) hB2 (by omega) E12 ?_; rintro w11 E13 hB2 K4 hz4
      have hB1 := hB1.of_heap (K4 _ (by omega)); have hB3 := hB3.of_heap (K4 _ (by omega)); have hO1 := hO1.wrote K4 (by omega); have hQ1 := hQ1.wrote K4 (by omega); have hB6 := hB6.of_heap (K4 _ (by omega))
      have hO2 := hO2.wrote K4 (by omega); refine Wo_nil ?_; refine ⟨trivial, ?_⟩; refine Wh_done (by kernel_rfl) ?_; refine W_ret ?_; rotate_left; exact WhAll_nil; exact WhAll_nil; refine WhAll_cons rfl ?_ ?_
      refine Wo_st2 rfl Try.sizeOf25 rfl rfl (by first | rfl | assumption) (by first | rfl | assumption) (hB1.ext (E8'.trans E11)) (by omega) ((Ew7.trans E8').trans E11) ?_; rintro w10 E12 hB1 K3 hz3
      have hB3 := (hB3.ext (E8'.trans E11)).of_heap (K3 _ (by omega)); have hO1 := (hO1.ext (E8'.trans E11)).wrote K3 (by omega); have hQ1 := (hQ1.ext (E8'.trans E11)).wrote K3 (by omega)
      have hB2 := (hB2.ext (E8'.trans E11)).of_heap (K3 _ (by omega)); have hB6 := (hB6.ext E11).of_heap (K3 _ (by omega)); have hO2 := (hO2.toB.ext E11).wrote K3 (by omega); refine Wo_nil ?_; refine ⟨trivial, ?_⟩
      refine Wh_all (rs := [1]) (by kernel_rfl) rfl ?_; refine WhAll_cons rfl ?_ ?_; refine Wo (v := .agg _) rfl (opv_load2 Try.isAgg25 Try.sizeOf25 rfl hB6) ?_; refine Wo_nil ?_; refine ⟨trivial, ?_⟩
      refine Wh_all (rs := [3]) (by kernel_rfl) rfl ?_; refine WhAll_cons rfl ?_ ?_; refine Wo_st2 rfl Try.sizeOf25 rfl rfl (by first | rfl | assumption) (by first | rfl | assumption) hB2 (by omega) E12 ?_; rintro w11 E13 hB2 K4 hz4
      have hB1 := hB1.of_heap (K4 _ (by omega)); have hB3 := hB3.of_heap (K4 _ (by omega)); have hO1 := hO1.wrote K4 (by omega); have hQ1 := hQ1.wrote K4 (by omega); have hB6 := hB6.of_heap (K4 _ (by omega))
      have hO2 := hO2.wrote K4 (by omega); refine Wo_nil ?_; refine ⟨trivial, ?_⟩; refine Wh_done (by kernel_rfl) ?_; refine W_ret ?_; rotate_left; exact WhAll_nil; exact WhAll_nil; exact WhAll_nil; refine WhAll_cons rfl ?_ ?_
      refine Wo (v := .agg _) rfl (opv_load2 Try.isAgg25 Try.sizeOf25 rfl (hB6.ext E11)) ?_; refine Wo_nil ?_; refine ⟨trivial, ?_⟩; refine Wh_all (rs := [0]) (by kernel_rfl) rfl ?_; refine WhAll_cons rfl ?_ ?_
      refine Wo (v := .agg _) rfl (opv_load2 Try.isAgg25 Try.sizeOf25 rfl (hB3.ext (E8'.trans E11))) ?_; refine Wo_nil ?_; refine ⟨trivial, ?_⟩; refine Wh_all (rs := [2]) (by kernel_rfl) rfl ?_; refine WhAll_cons rfl ?_ ?_
      refine Wo_st2 rfl Try.sizeOf25 rfl rfl (by first | rfl | assumption) (by first | rfl | assumption) (hB1.ext (E8'.trans E11)) (by omega) ((Ew7.trans E8').trans E11) ?_; rintro w10 E12 hB1 K3 hz3
      have hB3 := (hB3.ext (E8'.trans E11)).of_heap (K3 _ (by omega)); have hO1 := (hO1.ext (E8'.trans E11)).wrote K3 (by omega); have hQ1 := (hQ1.ext (E8'.trans E11)).wrote K3 (by omega)
      have hB2 := (hB2.ext (E8'.trans E11)).of_heap (K3 _ (by omega)); have hB6 := (hB6.ext E11).of_heap (K3 _ (by omega)); have hO2 := (hO2.toB.ext E11).wrote K3 (by omega); refine Wo_nil ?_; refine ⟨trivial, ?_⟩
      refine Wh_all (rs := [3]) (by kernel_rfl) rfl ?_; refine WhAll_cons rfl ?_ ?_; refine Wo_st2 rfl Try.sizeOf25 rfl rfl (by first | rfl | assumption) (by first | rfl | assumption) hB2 (by omega) E12 ?_; rintro w11 E13 hB2 K4 hz4
      have hB1 := hB1.of_heap (K4 _ (by omega)); have hB3 := hB3.of_heap (K4 _ (by omega)); have hO1 := hO1.wrote K4 (by omega); have hQ1 := hQ1.wrote K4 (by omega); have hB6 := hB6.of_heap (K4 _ (by omega))
      have hO2 := hO2.wrote K4 (by omega); refine Wo_nil ?_; refine ⟨trivial, ?_⟩; refine Wh_done (by kernel_rfl) ?_; refine W_ret ?_; rotate_left; exact WhAll_nil; exact WhAll_nil; exact WhAll_nil; exact WhAll_nil
    all_goals exact ⟨_, _, _, rfl, hB1, _, _, _, rfl, hB2, _, _, _, _, _, _, _, _, rfl, by assumption, hO1.o.mono (by omega), hQ1.o.mono (by omega), hO2.o.mono (by omega), hQ1.o.mono (by omega), by unfold smallS; omega, by unfold smallS; simp; omega⟩
  · clear stop5 stop7 stop9
    focus
      have szEhr2 := Ehr2.size; have szE9 := E9.size; have szE8 := E8.size; have szE7 := E7.size; have szE6 := E6.size; have szE5 := E5.size; have szEhr1 := Ehr1.size; have szE3 := E3.size; have szE2 := E2.size; have szE1 := E1.size
      refine W_held (fun _ => True) mixed rfl (by kernel_rfl) ?_; intro w8 E11 K2 hz2; have hr2 := hr2.ext E11; have hs7 := E11.size
      refine Wh_take 1 rfl (by kernel_rfl) (by kernel_rfl) rfl (fun _ _ => opv_move (v := .pointer _) rfl) trivial ?_; refine Wh_all (rs := [0, 2]) (by kernel_rfl) rfl ?_; refine WhAll_cons rfl ?_ ?_
      refine Wo (v := .agg _) rfl (opv_load2 Try.isAgg25 Try.sizeOf25 rfl (hB3.ext E11)) ?_; refine Wo_nil ?_; refine ⟨trivial, ?_⟩; refine Wh_all (rs := [2]) (by kernel_rfl) rfl ?_; refine WhAll_cons rfl ?_ ?_
      refine Wo_call rfl (opc2 (a := .pointer _) (b := .int _ _) Try.call51 rfl rfl) (Stream_ok _ _ (by assumption) (by omega) (by omega)) ?_; rintro _ w9 ⟨u2, q2, x2, y4, rfl, E12, hr3, hO2, hQ2, hy4⟩
      have icu2 := OwnedB.isC (Owned.toB hO2); have cpu2 := OwnedB.capOk (Owned.toB hO2); have icq2 := OwnedB.isC (Owned.toB hQ2); have cpq2 := OwnedB.capOk (Owned.toB hQ2); (try dsimp only at hy4); have hlhr3 := hr3.lt
      have Ehr3 := hr3.old; have hB3 := (hB3.ext E11).grown E12 (by simp only [ne_eq, Option.some.injEq]; omega); have hO1 := (hO1.ext E11).grown E12 (by omega); have hQ1 := (hQ1.ext E11).grown E12 (by omega)
      have hB1 := (hB1.ext E11).grown E12 (by simp only [ne_eq, Option.some.injEq]; omega); have hB2 := (hB2.ext E11).grown E12 (by simp only [ne_eq, Option.some.injEq]; omega); have hs8 := E12.size; refine Wo_nil ?_; refine ⟨trivial, ?_⟩
      refine Wh_all (rs := [3]) (by kernel_rfl) rfl ?_; refine WhAll_cons rfl ?_ ?_; refine Wo_st2 rfl Try.sizeOf25 rfl rfl (by first | rfl | assumption) (by first | rfl | assumption) hB1 (by omega) ((E1.trans E2).trans Ehr3) ?_
      rintro w10 E13 hB1 K3 hz3; have hO2 := hO2.toB.wrote K3 (by omega); have hQ2 := hQ2.toB.wrote K3 (by omega); have hB3 := hB3.of_heap (K3 _ (by omega)); have hO1 := hO1.wrote K3 (by omega); have hQ1 := hQ1.wrote K3 (by omega)
      have hB2 := hB2.of_heap (K3 _ (by omega)); refine Wo_nil ?_; refine ⟨trivial, ?_⟩; refine Wh_all (rs := [4]) (by kernel_rfl) rfl ?_; refine WhAll_cons rfl ?_ ?_
      refine Wo_st2 rfl Try.sizeOf25 rfl rfl (by first | rfl | assumption) (by first | rfl | assumption) hB2 (by omega) E13 ?_; rintro w11 E14 hB2 K4 hz4; have hB1 := hB1.of_heap (K4 _ (by omega)); have hO2 := hO2.wrote K4 (by omega)
      have hQ2 := hQ2.wrote K4 (by omega); have hB3 := hB3.of_heap (K4 _ (by omega)); have hO1 := hO1.wrote K4 (by omega); have hQ1 := hQ1.wrote K4 (by omega); refine Wo_nil ?_; refine ⟨trivial, ?_⟩; refine Wh_done (by kernel_rfl) ?_
      refine W_ret ?_; rotate_left; exact WhAll_nil; exact WhAll_nil; exact WhAll_nil; refine WhAll_cons rfl ?_ ?_
      refine Wo_call rfl (opc2 (a := .pointer _) (b := .int _ _) Try.call51 rfl rfl) (Stream_ok _ _ (by assumption) (by omega) (by omega)) ?_; rintro _ w9 ⟨u2, q2, x2, y4, rfl, E12, hr3, hO2, hQ2, hy4⟩
      have icu2 := OwnedB.isC (Owned.toB hO2); have cpu2 := OwnedB.capOk (Owned.toB hO2); have icq2 := OwnedB.isC (Owned.toB hQ2); have cpq2 := OwnedB.capOk (Owned.toB hQ2); (try dsimp only at hy4); have hlhr3 := hr3.lt
      have Ehr3 := hr3.old; have hB3 := (hB3.ext E11).grown E12 (by simp only [ne_eq, Option.some.injEq]; omega); have hO1 := (hO1.ext E11).grown E12 (by omega); have hQ1 := (hQ1.ext E11).grown E12 (by omega)
      have hB1 := (hB1.ext E11).grown E12 (by simp only [ne_eq, Option.some.injEq]; omega); have hB2 := (hB2.ext E11).grown E12 (by simp only [ne_eq, Option.some.injEq]; omega); have hs8 := E12.size; refine Wo_nil ?_; refine ⟨trivial, ?_⟩
      refine Wh_all (rs := [0]) (by kernel_rfl) rfl ?_; refine WhAll_cons rfl ?_ ?_; refine Wo (v := .agg _) rfl (opv_load2 Try.isAgg25 Try.sizeOf25 rfl hB3) ?_; refine Wo_nil ?_; refine ⟨trivial, ?_⟩
      refine Wh_all (rs := [3]) (by kernel_rfl) rfl ?_; refine WhAll_cons rfl ?_ ?_; refine Wo_st2 rfl Try.sizeOf25 rfl rfl (by first | rfl | assumption) (by first | rfl | assumption) hB1 (by omega) ((E1.trans E2).trans Ehr3) ?_
      rintro w10 E13 hB1 K3 hz3; have hO2 := hO2.toB.wrote K3 (by omega); have hQ2 := hQ2.toB.wrote K3 (by omega); have hB3 := hB3.of_heap (K3 _ (by omega)); have hO1 := hO1.wrote K3 (by omega); have hQ1 := hQ1.wrote K3 (by omega)
      have hB2 := hB2.of_heap (K3 _ (by omega)); refine Wo_nil ?_; refine ⟨trivial, ?_⟩; refine Wh_all (rs := [4]) (by kernel_rfl) rfl ?_; refine WhAll_cons rfl ?_ ?_
      refine Wo_st2 rfl Try.sizeOf25 rfl rfl (by first | rfl | assumption) (by first | rfl | assumption) hB2 (by omega) E13 ?_; rintro w11 E14 hB2 K4 hz4; have hB1 := hB1.of_heap (K4 _ (by omega)); have hO2 := hO2.wrote K4 (by omega)
      have hQ2 := hQ2.wrote K4 (by omega); have hB3 := hB3.of_heap (K4 _ (by omega)); have hO1 := hO1.wrote K4 (by omega); have hQ1 := hQ1.wrote K4 (by omega); refine Wo_nil ?_; refine ⟨trivial, ?_⟩; refine Wh_done (by kernel_rfl) ?_
      refine W_ret ?_; rotate_left; exact WhAll_nil; exact WhAll_nil; exact WhAll_nil; exact WhAll_nil
    all_goals exact ⟨_, _, _, rfl, by assumption, _, _, _, rfl, by assumption, _, _, _, _, _, _, _, _, rfl, by assumption, hO1.o.mono (by omega), hQ1.o.mono (by omega), hO2.o.mono (by omega), hQ2.o.mono (by omega), by unfold smallS; omega, by unfold smallS; omega⟩

end Go.Proofs.Ytlalfmialbolhaa
