/- Walks: what the streams' laws draw. -/
import Derived.Test.YtlalfmialbolhaaHsWStrD
namespace Go.Proofs.Ytlalfmialbolhaa
open Go.Hs
set_option maxRecDepth 10000
set_option maxHeartbeats 4000000
set_option linter.unusedVariables false
set_option linter.unusedSimpArgs false
def smallS (A B : List Int) : Prop := A.length ≤ 24 ∧ B.length ≤ 24

theorem DrawPutAhead_ok (w : World) (v : Value) (xs : List UInt8) (h : Bytes w v xs) (hc : CapOk v) : Does Try.prog 29 [v] w (RetEz1 w 3 (fun z A B => smallS A B)) := by
  have hle := h.le
  have litown : True := trivial
  refine fn_of_Wtc Try.func29 rfl Try.results29 Try.ntmps29 rfl Try.isAgg25 Try.sizeOf25 ?_
  focus
    refine W_seq ?_; refine W_region rfl ?_; refine Wo rfl (opv_assign (v := .int _ _) rfl) ?_; refine Wo_alloc2 rfl flat25 ?_; rintro b1 w1 hb1 E1 hB1; have hlb1 := hB1.lt; have hs1 := E1.size; refine Wo_nil ?_; refine W_seq ?_
    refine W_region rfl ?_; refine Wo rfl (opv_move (v := v) rfl) ?_; refine Wo_call rfl (opc1 (a := v) Try.call50 rfl) (open_ok _ _ _ ((Mono.mono E1 h)) (by assumption)) ?_; rintro _ w2 ⟨E2, y1, rfl, hy1⟩; have hlhy1 := hy1.lt
    have hghy1 := hy1.ge; have hs2 := E2.size; refine Wo rfl (opv_assign (v := .pointer _) rfl) ?_; refine Wo_nil ?_; refine W_seq ?_; refine W_region rfl ?_; refine Wo rfl (opv_move (v := .pointer _) rfl) ?_
    refine Wo_call rfl (opc2 (a := .pointer _) (b := .int _ _) Try.call52 rfl rfl) (pick_ok _ _ (by assumption) (by omega)) ?_; rintro _ w3 ⟨y2, rfl, E3, hr1, hy2⟩; (try dsimp only at hy2); have hlhr1 := hr1.lt; have Ehr1 := hr1.old
    have hB1 := (hB1.ext E2).grown E3 (by simp only [ne_eq, Option.some.injEq]; omega); have hs3 := E3.size; refine Wo rfl (opv_move (v := .pointer _) rfl) ?_
    refine Wo_call rfl (opc2 (a := .pointer _) (b := .int _ _) Try.call52 rfl rfl) (pick_ok _ _ (by assumption) (by omega)) ?_; rintro _ w4 ⟨y3, rfl, E4, hr2, hy3⟩; (try dsimp only at hy3); have hlhr2 := hr2.lt; have Ehr2 := hr2.old
    have hB1 := hB1.grown E4 (by simp only [ne_eq, Option.some.injEq]; omega); have hs4 := E4.size; refine Wo rfl (opv_quo rfl rfl (by omega)) ?_; refine Wo rfl (opv_mul rfl rfl (by omega)) ?_
    refine Wo rfl (opv_add rfl rfl (by omega)) ?_; refine Wo rfl (opv_move (v := .pointer _) rfl) ?_
    refine Wo_call rfl (opc2 (a := .pointer _) (b := .int _ _) Try.call51 rfl rfl) (Stream_ok _ _ (by assumption) (by omega) (by omega)) ?_; rintro _ w5 ⟨u1, q1, x1, y4, rfl, E5, hr3, hO1, hQ1, hy4⟩
    have icu1 := OwnedB.isC (Owned.toB hO1); have cpu1 := OwnedB.capOk (Owned.toB hO1); have icq1 := OwnedB.isC (Owned.toB hQ1); have cpq1 := OwnedB.capOk (Owned.toB hQ1); (try dsimp only at hy4); have hlhr3 := hr3.lt
    have Ehr3 := hr3.old; have hB1 := hB1.grown E5 (by simp only [ne_eq, Option.some.injEq]; omega); have hs5 := E5.size; refine Wo rfl (opv_assign (v := .int _ _) rfl) ?_
    refine Wo_st2 rfl Try.sizeOf25 rfl rfl (by first | rfl | assumption) (by first | rfl | assumption) hB1 (by omega) (E1.trans Ehr3) ?_; rintro w6 E6 hB1 K1 hz1; have hO1 := hO1.toB.wrote K1 (by omega)
    have hQ1 := hQ1.toB.wrote K1 (by omega); refine Wo_nil ?_; refine W_ret ?_
  exact ⟨_, _, _, rfl, by assumption, _, _, _, _, _, rfl, by assumption, hO1.o.mono (by omega), hQ1.o.mono (by omega), by unfold smallS; omega⟩

theorem DrawRestOf_ok (w : World) (v : Value) (xs : List UInt8) (h : Bytes w v xs) (hc : CapOk v) : Does Try.prog 34 [v] w (RetE1z w 3 (fun A B z => smallS A B ∧ -1 ≤ z ∧ z ≤ 101)) := by
  have hle := h.le
  have litown : True := trivial
  refine fn_of_Wct Try.func34 rfl Try.results34 Try.ntmps34 rfl Try.isAgg25 Try.sizeOf25 ?_
  focus
    refine W_seq ?_; refine W_region rfl ?_; refine Wo_alloc2 rfl flat25 ?_; rintro b1 w1 hb1 E1 hB1; have hlb1 := hB1.lt; have hs1 := E1.size; refine Wo rfl (opv_assign (v := .int _ _) rfl) ?_; refine Wo_nil ?_; refine W_seq ?_
    refine W_region rfl ?_; refine Wo rfl (opv_move (v := v) rfl) ?_; refine Wo_call rfl (opc1 (a := v) Try.call50 rfl) (open_ok _ _ _ ((Mono.mono E1 h)) (by assumption)) ?_; rintro _ w2 ⟨E2, y1, rfl, hy1⟩; have hlhy1 := hy1.lt
    have hghy1 := hy1.ge; have hs2 := E2.size; refine Wo rfl (opv_assign (v := .pointer _) rfl) ?_; refine Wo_nil ?_; refine W_seq ?_; refine W_region rfl ?_; refine Wo rfl (opv_move (v := .pointer _) rfl) ?_
    refine Wo_call rfl (opc2 (a := .pointer _) (b := .int _ _) Try.call51 rfl rfl) (Stream_ok _ _ (by assumption) (by omega) (by omega)) ?_; rintro _ w3 ⟨u1, q1, x1, y2, rfl, E3, hr1, hO1, hQ1, hy2⟩
    have icu1 := OwnedB.isC (Owned.toB hO1); have cpu1 := OwnedB.capOk (Owned.toB hO1); have icq1 := OwnedB.isC (Owned.toB hQ1); have cpq1 := OwnedB.capOk (Owned.toB hQ1); (try dsimp only at hy2); have hlhr1 := hr1.lt
    have Ehr1 := hr1.old; have hB1 := (hB1.ext E2).grown E3 (by simp only [ne_eq, Option.some.injEq]; omega); have hs3 := E3.size; refine Wo rfl (opv_move (v := .pointer _) rfl) ?_
    refine Wo_call rfl (opc2 (a := .pointer _) (b := .int _ _) Try.call52 rfl rfl) (pick_ok _ _ (by assumption) (by omega)) ?_; rintro _ w4 ⟨y3, rfl, E4, hr2, hy3⟩; (try dsimp only at hy3); have hlhr2 := hr2.lt; have Ehr2 := hr2.old
    have hO1 := hO1.toB.grown E4 (by omega); have hQ1 := hQ1.toB.grown E4 (by omega); have hB1 := hB1.grown E4 (by simp only [ne_eq, Option.some.injEq]; omega); have hs4 := E4.size; refine Wo rfl (opv_move (v := .pointer _) rfl) ?_
    refine Wo_call rfl (opc2 (a := .pointer _) (b := .int _ _) Try.call52 rfl rfl) (pick_ok _ _ (by assumption) (by omega)) ?_; rintro _ w5 ⟨y4, rfl, E5, hr3, hy4⟩; (try dsimp only at hy4); have hlhr3 := hr3.lt; have Ehr3 := hr3.old
    have hO1 := hO1.grown E5 (by omega); have hQ1 := hQ1.grown E5 (by omega); have hB1 := hB1.grown E5 (by simp only [ne_eq, Option.some.injEq]; omega); have hs5 := E5.size; refine Wo rfl (opv_quo rfl rfl (by omega)) ?_
    refine Wo rfl (opv_sub rfl rfl (by omega)) ?_; refine Wo rfl (opv_move (v := .pointer _) rfl) ?_; refine Wo_call rfl (opc2 (a := .pointer _) (b := .int _ _) Try.call52 rfl rfl) (pick_ok _ _ (by assumption) (by omega)) ?_
    rintro _ w6 ⟨y5, rfl, E6, hr4, hy5⟩; (try dsimp only at hy5); have hlhr4 := hr4.lt; have Ehr4 := hr4.old; have hO1 := hO1.grown E6 (by omega); have hQ1 := hQ1.grown E6 (by omega)
    have hB1 := hB1.grown E6 (by simp only [ne_eq, Option.some.injEq]; omega); have hs6 := E6.size; refine Wo rfl (opv_quo rfl rfl (by omega)) ?_; refine Wo rfl (opv_mul rfl rfl (by omega)) ?_
    refine Wo rfl (opv_add rfl rfl (by omega)) ?_; refine Wo_st2 rfl Try.sizeOf25 rfl rfl (by first | rfl | assumption) (by first | rfl | assumption) hB1 (by omega) (E1.trans Ehr4) ?_; rintro w7 E7 hB1 K1 hz1
    have hO1 := hO1.wrote K1 (by omega); have hQ1 := hQ1.wrote K1 (by omega); refine Wo rfl (opv_assign (v := .int _ _) rfl) ?_; refine Wo_nil ?_; refine W_ret ?_
  exact ⟨_, _, _, rfl, by assumption, _, _, _, _, _, rfl, by assumption, hO1.o.mono (by omega), hQ1.o.mono (by omega), by unfold smallS; omega, by omega, by omega⟩

theorem DrawEveryOther_ok (w : World) (v : Value) (xs : List UInt8) (h : Bytes w v xs) (hc : CapOk v) : Does Try.prog 37 [v] w (RetE1 w 3 smallS) := by
  have hle := h.le
  have litown : True := trivial
  refine fn_of_Wc Try.func37 rfl Try.results37 Try.ntmps37 rfl Try.isAgg25 Try.sizeOf25 ?_
  focus
    refine W_seq ?_; refine W_region rfl ?_; refine Wo_alloc2 rfl flat25 ?_; rintro b1 w1 hb1 E1 hB1; have hlb1 := hB1.lt; have hs1 := E1.size; refine Wo_nil ?_; refine W_seq ?_; refine W_region rfl ?_
    refine Wo rfl (opv_move (v := v) rfl) ?_; refine Wo_call rfl (opc1 (a := v) Try.call50 rfl) (open_ok _ _ _ ((Mono.mono E1 h)) (by assumption)) ?_; rintro _ w2 ⟨E2, y1, rfl, hy1⟩; have hlhy1 := hy1.lt; have hghy1 := hy1.ge
    have hs2 := E2.size; refine Wo_call rfl (opc2 (a := .pointer _) (b := .int _ _) Try.call51 rfl rfl) (Stream_ok _ _ (by assumption) (by omega) (by omega)) ?_; rintro _ w3 ⟨u1, q1, x1, y2, rfl, E3, hr1, hO1, hQ1, hy2⟩
    have icu1 := OwnedB.isC (Owned.toB hO1); have cpu1 := OwnedB.capOk (Owned.toB hO1); have icq1 := OwnedB.isC (Owned.toB hQ1); have cpq1 := OwnedB.capOk (Owned.toB hQ1); (try dsimp only at hy2); have hlhr1 := hr1.lt
    have Ehr1 := hr1.old; have hB1 := (hB1.ext E2).grown E3 (by simp only [ne_eq, Option.some.injEq]; omega); have hs3 := E3.size
    refine Wo_st2 rfl Try.sizeOf25 rfl rfl (by first | rfl | assumption) (by first | rfl | assumption) hB1 (by omega) (E1.trans Ehr1) ?_; rintro w4 E4 hB1 K1 hz1; have hO1 := hO1.toB.wrote K1 (by omega)
    have hQ1 := hQ1.toB.wrote K1 (by omega); refine Wo_nil ?_; refine W_ret ?_
  exact ⟨_, _, _, rfl, by assumption, _, _, _, _, rfl, by assumption, hO1.o.mono (by omega), hQ1.o.mono (by omega), by unfold smallS; omega⟩

theorem DrawStreamDrawn_ok (w : World) (v : Value) (xs : List UInt8) (h : Bytes w v xs) (hc : CapOk v) : Does Try.prog 45 [v] w (RetE1 w 3 smallS) := by
  have hle := h.le
  have litown : True := trivial
  refine fn_of_Wc Try.func45 rfl Try.results45 Try.ntmps45 rfl Try.isAgg25 Try.sizeOf25 ?_
  focus
    refine W_seq ?_; refine W_region rfl ?_; refine Wo_alloc2 rfl flat25 ?_; rintro b1 w1 hb1 E1 hB1; have hlb1 := hB1.lt; have hs1 := E1.size; refine Wo_nil ?_; refine W_seq ?_; refine W_region rfl ?_
    refine Wo rfl (opv_move (v := v) rfl) ?_; refine Wo_call rfl (opc1 (a := v) Try.call50 rfl) (open_ok _ _ _ ((Mono.mono E1 h)) (by assumption)) ?_; rintro _ w2 ⟨E2, y1, rfl, hy1⟩; have hlhy1 := hy1.lt; have hghy1 := hy1.ge
    have hs2 := E2.size; refine Wo_call rfl (opc2 (a := .pointer _) (b := .int _ _) Try.call51 rfl rfl) (Stream_ok _ _ (by assumption) (by omega) (by omega)) ?_; rintro _ w3 ⟨u1, q1, x1, y2, rfl, E3, hr1, hO1, hQ1, hy2⟩
    have icu1 := OwnedB.isC (Owned.toB hO1); have cpu1 := OwnedB.capOk (Owned.toB hO1); have icq1 := OwnedB.isC (Owned.toB hQ1); have cpq1 := OwnedB.capOk (Owned.toB hQ1); (try dsimp only at hy2); have hlhr1 := hr1.lt
    have Ehr1 := hr1.old; have hB1 := (hB1.ext E2).grown E3 (by simp only [ne_eq, Option.some.injEq]; omega); have hs3 := E3.size
    refine Wo_st2 rfl Try.sizeOf25 rfl rfl (by first | rfl | assumption) (by first | rfl | assumption) hB1 (by omega) (E1.trans Ehr1) ?_; rintro w4 E4 hB1 K1 hz1; have hO1 := hO1.toB.wrote K1 (by omega)
    have hQ1 := hQ1.toB.wrote K1 (by omega); refine Wo_nil ?_; refine W_ret ?_
  exact ⟨_, _, _, rfl, by assumption, _, _, _, _, rfl, by assumption, hO1.o.mono (by omega), hQ1.o.mono (by omega), by unfold smallS; omega⟩

theorem DrawLaidBetween_ok (w : World) (v : Value) (xs : List UInt8) (h : Bytes w v xs) (hc : CapOk v) : Does Try.prog 38 [v] w (RetE2 w 3 smallS) := by
  have hle := h.le
  have litown : True := trivial
  refine fn_of_Wcc Try.func38 rfl Try.results38 Try.ntmps38 rfl Try.isAgg25 Try.sizeOf25 ?_
  have stop4 : True := trivial
  focus
    refine W_seq ?_; refine W_region rfl ?_; refine Wo_alloc2 rfl flat25 ?_; rintro b1 w1 hb1 E1 hB1; have hlb1 := hB1.lt; have hs1 := E1.size; refine Wo_alloc2 rfl flat25 ?_; rintro b2 w2 hb2 E2 hB2; have hlb2 := hB2.lt
    have hs2 := E2.size; refine Wo_nil ?_; refine W_seq ?_; refine W_region rfl ?_; refine Wo rfl (opv_move (v := v) rfl) ?_
    refine Wo_call rfl (opc1 (a := v) Try.call50 rfl) (open_ok _ _ _ ((Mono.mono (E1.trans E2) h)) (by assumption)) ?_; rintro _ w3 ⟨E3, y1, rfl, hy1⟩; have hlhy1 := hy1.lt; have hghy1 := hy1.ge; have hs3 := E3.size
    refine Wo rfl (opv_assign (v := .pointer _) rfl) ?_; refine Wo_nil ?_; refine W_seq ?_; refine W_region rfl ?_; refine Wo rfl (opv_move (v := .pointer _) rfl) ?_
    refine Wo_call rfl (opc2 (a := .pointer _) (b := .int _ _) Try.call51 rfl rfl) (Stream_ok _ _ (by assumption) (by omega) (by omega)) ?_; rintro _ w4 ⟨u1, q1, x1, y2, rfl, E4, hr1, hO1, hQ1, hy2⟩
    have icu1 := OwnedB.isC (Owned.toB hO1); have cpu1 := OwnedB.capOk (Owned.toB hO1); have icq1 := OwnedB.isC (Owned.toB hQ1); have cpq1 := OwnedB.capOk (Owned.toB hQ1); (try dsimp only at hy2); have hlhr1 := hr1.lt
    have Ehr1 := hr1.old; have hB1 := (hB1.ext (E2.trans E3)).grown E4 (by simp only [ne_eq, Option.some.injEq]; omega); have hB2 := (hB2.ext E3).grown E4 (by simp only [ne_eq, Option.some.injEq]; omega); have hs4 := E4.size
    refine Wo_alloc2 rfl flat25 ?_; rintro b3 w5 hb3 E5 hB3; have hlb3 := hB3.lt; have hr1 := hr1.ext E5; have hs5 := E5.size
    refine Wo_st2 rfl Try.sizeOf25 rfl rfl (by first | rfl | assumption) (by first | rfl | assumption) hB3 (by omega) (((E1.trans E2).trans Ehr1).trans E5) ?_; rintro w6 E6 hB3 K1 hz1
    have E7 := ((E2.trans Ehr1).trans E5).wroteAt (((E1.trans E2).trans Ehr1).trans E5) E6 K1 hz1 (by omega); have szE7 := E7.size; have E8 := (Ehr1.trans E5).wroteAt (((E1.trans E2).trans Ehr1).trans E5) E6 K1 hz1 (by omega)
    have szE8 := E8.size; have E9 := E5.wroteAt (((E1.trans E2).trans Ehr1).trans E5) E6 K1 hz1 (by omega); have szE9 := E9.size; have hO1 := (hO1.toB.ext E5).wrote K1 (by omega); have hQ1 := (hQ1.toB.ext E5).wrote K1 (by omega)
    have hB1 := (hB1.ext E5).of_heap (K1 _ (by omega)); have hB2 := (hB2.ext E5).of_heap (K1 _ (by omega)); have hr1 := hr1.wrote E8 (K1 _ (by omega)) hz1; refine Wo_nil ?_; refine W_seq ?_; refine W_region rfl ?_
    refine Wo rfl (opv_move (v := .pointer _) rfl) ?_; refine Wo_call rfl (opc2 (a := .pointer _) (b := .int _ _) Try.call51 rfl rfl) (Stream_ok _ _ (by assumption) (by omega) (by omega)) ?_
    rintro _ w7 ⟨u2, q2, x2, y3, rfl, E10, hr2, hO2, hQ2, hy3⟩; have icu2 := OwnedB.isC (Owned.toB hO2); have cpu2 := OwnedB.capOk (Owned.toB hO2); have icq2 := OwnedB.isC (Owned.toB hQ2); have cpq2 := OwnedB.capOk (Owned.toB hQ2)
    (try dsimp only at hy3); have hlhr2 := hr2.lt; have Ehr2 := hr2.old; have hB3 := hB3.grown E10 (by simp only [ne_eq, Option.some.injEq]; omega); have hO1 := hO1.grown E10 (by omega); have hQ1 := hQ1.grown E10 (by omega)
    have hB1 := hB1.grown E10 (by simp only [ne_eq, Option.some.injEq]; omega); have hB2 := hB2.grown E10 (by simp only [ne_eq, Option.some.injEq]; omega); have hs6 := E10.size; refine Wo_alloc2 rfl flat25 ?_; rintro b4 w8 hb4 E11 hB4
    have hlb4 := hB4.lt; have hr2 := hr2.ext E11; have hs7 := E11.size; refine Wo_st2 rfl Try.sizeOf25 rfl rfl (by first | rfl | assumption) (by first | rfl | assumption) hB4 (by omega) (((E1.trans E2).trans Ehr2).trans E11) ?_
    rintro w9 E12 hB4 K2 hz2; have E13 := ((E2.trans Ehr2).trans E11).wroteAt (((E1.trans E2).trans Ehr2).trans E11) E12 K2 hz2 (by omega); have szE13 := E13.size
    have E14 := (Ehr2.trans E11).wroteAt (((E1.trans E2).trans Ehr2).trans E11) E12 K2 hz2 (by omega); have szE14 := E14.size; have E15 := E11.wroteAt (((E1.trans E2).trans Ehr2).trans E11) E12 K2 hz2 (by omega); have szE15 := E15.size
    have hO2 := (hO2.toB.ext E11).wrote K2 (by omega); have hQ2 := (hQ2.toB.ext E11).wrote K2 (by omega); have hB3 := (hB3.ext E11).of_heap (K2 _ (by omega)); have hO1 := (hO1.ext E11).wrote K2 (by omega)
    have hQ1 := (hQ1.ext E11).wrote K2 (by omega); have hB1 := (hB1.ext E11).of_heap (K2 _ (by omega)); have hB2 := (hB2.ext E11).of_heap (K2 _ (by omega)); have hr2 := hr2.wrote E14 (K2 _ (by omega)) hz2; refine Wo_nil ?_
    refine W_seq ?_; refine W_seq ?_
  clear stop4
  have Ew2 := E1.trans E2
  refine W_mid [13, 14, 15, 16, 17, 18, 19, 20, 21] (fun (x : Bool) => [(21, .bool x)]) (fun x w' => (x = true → 1 < x1.length) ∧ Rdr w2 w' y1 30 ∧ Ext w w' ∧ w9.heap.size ≤ w'.heap.size ∧ Blk w' b1 [.slice none 0 0, .slice none 0 0] ∧ Blk w' b2 [.slice none 0 0, .slice none 0 0] ∧ Blk w' b3 [u1, q1] ∧ Blk w' b4 [u2, q2] ∧ OwnedB w3.heap.size w4.heap.size XI w' u1 x1 ∧ OwnedB w3.heap.size w4.heap.size XI w' q1 y2 ∧ OwnedB w6.heap.size w7.heap.size XI w' u2 x2 ∧ OwnedB w6.heap.size w7.heap.size XI w' q2 y3) ?_ ?_
  · focus
      have szEw2 := Ew2.size; have szE15 := E15.size; have szE14 := E14.size; have szE13 := E13.size; have szE12 := E12.size; have szE11 := E11.size; have szEhr2 := Ehr2.size; have szE9 := E9.size; have szE8 := E8.size
      have szE7 := E7.size; have szE6 := E6.size; have szE5 := E5.size; have szEhr1 := Ehr1.size; have szE3 := E3.size; have szE2 := E2.size; have szE1 := E1.size; refine W_region rfl ?_; refine Wo rfl (opv_move (v := .pointer _) rfl) ?_
      refine Wo_call rfl (opc2 (a := .pointer _) (b := .int _ _) Try.call52 rfl rfl) (pick_ok _ _ (by assumption) (by omega)) ?_; rintro _ w10 ⟨y4, rfl, E16, hr3, hy4⟩; (try dsimp only at hy4); have hlhr3 := hr3.lt; have Ehr3 := hr3.old
      have hB4 := hB4.grown E16 (by simp only [ne_eq, Option.some.injEq]; omega); have hO2 := hO2.grown E16 (by omega); have hQ2 := hQ2.grown E16 (by omega); have hB3 := hB3.grown E16 (by simp only [ne_eq, Option.some.injEq]; omega)
      have hO1 := hO1.grown E16 (by omega); have hQ1 := hQ1.grown E16 (by omega); have hB1 := hB1.grown E16 (by simp only [ne_eq, Option.some.injEq]; omega); have hB2 := hB2.grown E16 (by simp only [ne_eq, Option.some.injEq]; omega)
      have hs8 := E16.size; refine Wo rfl (opv_eql rfl rfl) ?_; refine Wo_split_dec rfl (opv_move (v := .bool _) rfl) (fun h1 => ?_) (fun h1 => ?_); refine Wo rfl (opv_fieldAddr Try.underlying25 rfl rfl Try.sizeOf23 rfl) ?_
      refine Wo (v := u1) rfl (opv_load Try.isAgg23 rfl (hB3.cell rfl)) ?_; refine Wo rfl (opv_len Try.underlying23 rfl (OwnedB.read hO1)) ?_; refine Wo rfl (opv_gtr rfl rfl) ?_; refine Wo rfl (opv_pick_t (v := .bool _) rfl rfl) ?_
      refine Wo_nil ?_; rotate_left; refine Wo_skip rfl ?_; refine Wo_skip rfl ?_; refine Wo_skip rfl ?_; refine Wo_skip rfl ?_; refine Wo rfl (opv_pick_f (v := .bool _) rfl rfl) ?_; refine Wo_nil ?_; rotate_left
    all_goals refine ⟨_, ⟨rfl, trivial⟩, by repeat (first | with_reducible exact Same.refl | refine Same.upd rfl ?_ | refine Same.upds rfl ?_ | refine Same.mix rfl ?_), ?_, hr3.le (by omega), Ew2.trans hr3.old, by omega, hB1, hB2, hB3, hB4, hO1, hQ1, hO2, hQ2⟩
    all_goals (intro hx; first | exact Bool.noConfusion hx | (have := of_decide_eq_true hx; omega) | (simp at hx; omega))
  clear hr2 hB1 hB2 hB3 hB4 hO1 hQ1 hO2 hQ2
  rintro x ρ10 w10 ⟨hx, hr, Ew, hsz, hB1, hB2, hB3, hB4, hO1, hQ1, hO2, hQ2⟩
  have hl10 := hr.lt
  have E2w := hr.old
  refine W_mid [22, 23, 24, 25] (fun (_ : Value × List Int) => []) (fun (u1, A) w' => A.length ≤ 12 ∧ Rdr w2 w' y1 30 ∧ Ext w w' ∧ w9.heap.size ≤ w'.heap.size ∧ Blk w' b1 [.slice none 0 0, .slice none 0 0] ∧ Blk w' b2 [.slice none 0 0, .slice none 0 0] ∧ Blk w' b3 [u1, q1] ∧ Blk w' b4 [u2, q2] ∧ OwnedB w3.heap.size w4.heap.size XI w' u1 A ∧ OwnedB w3.heap.size w4.heap.size XI w' q1 y2 ∧ OwnedB w6.heap.size w7.heap.size XI w' u2 x2 ∧ OwnedB w6.heap.size w7.heap.size XI w' q2 y3) ?_ ?_
  · cases x
    · focus
        have szE2w := E2w.size; have szEw := Ew.size; have szEw2 := Ew2.size; have szE15 := E15.size; have szE14 := E14.size; have szE13 := E13.size; have szE12 := E12.size; have szE11 := E11.size; have szEhr2 := Ehr2.size
        have szE9 := E9.size; have szE8 := E8.size; have szE7 := E7.size; have szE6 := E6.size; have szE5 := E5.size; have szEhr1 := Ehr1.size; have szE3 := E3.size; have szE2 := E2.size; have szE1 := E1.size; refine W_cond_false rfl ?_
        refine W_skip ?_
      exact ⟨(u1, x1), trivial, by repeat (first | with_reducible exact Same.refl | refine Same.upd rfl ?_ | refine Same.upds rfl ?_ | refine Same.mix rfl ?_), by omega, hr, Ew, hsz, hB1, hB2, hB3, hB4, hO1, hQ1, hO2, hQ2⟩
    · have hx' := hx rfl
      obtain ⟨ub, uc, rfl, huc⟩ := hO1.o.lit (by omega)
      have hP := hO1.pre (k := 1) (by omega)
      have icP := OwnedB.isC hP
      focus
        have szE2w := E2w.size; have szEw := Ew.size; have szEw2 := Ew2.size; have szE15 := E15.size; have szE14 := E14.size; have szE13 := E13.size; have szE12 := E12.size; have szE11 := E11.size; have szEhr2 := Ehr2.size
        have szE9 := E9.size; have szE8 := E8.size; have szE7 := E7.size; have szE6 := E6.size; have szE5 := E5.size; have szEhr1 := Ehr1.size; have szE3 := E3.size; have szE2 := E2.size; have szE1 := E1.size; refine W_cond_true rfl ?_
        refine W_region rfl ?_; refine Wo rfl (opv_fieldAddr Try.underlying25 rfl rfl Try.sizeOf23 rfl) ?_; refine Wo (v := .slice _ _ _) rfl (opv_load Try.isAgg23 rfl (hB3.cell rfl)) ?_
        refine Wo rfl (opv_slice_sl_hi Try.underlying23 Try.sizeOf3 rfl rfl (by omega)) ?_; refine Wo rfl (opv_fieldAddr Try.underlying25 rfl rfl Try.sizeOf23 rfl) ?_
        refine Wo_st (v := .slice _ _ _) rfl Try.sizeOf23 rfl rfl rfl hB3 (by simp) (by omega) Ew ?_; rintro w11 E16 hB3 K3 hz3; have E17 := (E2.trans E2w).wroteAt Ew E16 K3 hz3 (by omega); have szE17 := E17.size
        have E18 := E2w.wroteAt Ew E16 K3 hz3 (by omega); have szE18 := E18.size; simp only [List.set] at hB3; have hr := hr.wrote E18 (K3 _ (by omega)) hz3; have hB1 := hB1.of_heap (K3 _ (by omega))
        have hB2 := hB2.of_heap (K3 _ (by omega)); have hB4 := hB4.of_heap (K3 _ (by omega)); have hQ1 := hQ1.wrote K3 (by omega); have hO2 := hO2.wrote K3 (by omega); have hQ2 := hQ2.wrote K3 (by omega); have hO1 := hO1.wrote K3 (by omega)
        have hP := hP.wrote K3 (by omega); refine Wo_nil ?_
      exact ⟨(_, _), trivial, by repeat (first | with_reducible exact Same.refl | refine Same.upd rfl ?_ | refine Same.upds rfl ?_ | refine Same.mix rfl ?_), by simp; omega, hr, by assumption, by omega, hB1, hB2, hB3, hB4, hP, hQ1, hO2, hQ2⟩
  clear hr hB1 hB2 hB3 hB4 hO1 hQ1 hO2 hQ2 Ew
  clear hx E2w
  rintro ⟨u1, A⟩ ρ11 w11 ⟨hA, hr, Ew, hsz, hB1, hB2, hB3, hB4, hO1, hQ1, hO2, hQ2⟩
  have hl11 := hr.lt
  have E2w := hr.old
  repeat (refine W_seq ?_)
  refine W_mid [26, 27, 28, 29, 30, 31, 32, 33, 34] (fun (x : Bool) => [(34, .bool x)]) (fun x w' => (x = true → 1 < x2.length) ∧ Rdr w2 w' y1 31 ∧ Ext w w' ∧ w9.heap.size ≤ w'.heap.size ∧ Blk w' b1 [.slice none 0 0, .slice none 0 0] ∧ Blk w' b2 [.slice none 0 0, .slice none 0 0] ∧ Blk w' b3 [u1, q1] ∧ Blk w' b4 [u2, q2] ∧ OwnedB w3.heap.size w4.heap.size XI w' u1 A ∧ OwnedB w3.heap.size w4.heap.size XI w' q1 y2 ∧ OwnedB w6.heap.size w7.heap.size XI w' u2 x2 ∧ OwnedB w6.heap.size w7.heap.size XI w' q2 y3) ?_ ?_
  · focus
      have szE2w := E2w.size; have szEw := Ew.size; have szEw2 := Ew2.size; have szE15 := E15.size; have szE14 := E14.size; have szE13 := E13.size; have szE12 := E12.size; have szE11 := E11.size; have szEhr2 := Ehr2.size
      have szE9 := E9.size; have szE8 := E8.size; have szE7 := E7.size; have szE6 := E6.size; have szE5 := E5.size; have szEhr1 := Ehr1.size; have szE3 := E3.size; have szE2 := E2.size; have szE1 := E1.size; refine W_region rfl ?_
      refine Wo rfl (opv_move (v := .pointer _) rfl) ?_; refine Wo_call rfl (opc2 (a := .pointer _) (b := .int _ _) Try.call52 rfl rfl) (pick_ok _ _ (by assumption) (by omega)) ?_; rintro _ w12 ⟨y4, rfl, E16, hr3, hy4⟩
      (try dsimp only at hy4); have hlhr3 := hr3.lt; have Ehr3 := hr3.old; have hB1 := hB1.grown E16 (by simp only [ne_eq, Option.some.injEq]; omega); have hB2 := hB2.grown E16 (by simp only [ne_eq, Option.some.injEq]; omega)
      have hB3 := hB3.grown E16 (by simp only [ne_eq, Option.some.injEq]; omega); have hB4 := hB4.grown E16 (by simp only [ne_eq, Option.some.injEq]; omega); have hO1 := hO1.grown E16 (by omega); have hQ1 := hQ1.grown E16 (by omega)
      have hO2 := hO2.grown E16 (by omega); have hQ2 := hQ2.grown E16 (by omega); have hs8 := E16.size; refine Wo rfl (opv_eql rfl rfl) ?_; refine Wo_split_dec rfl (opv_move (v := .bool _) rfl) (fun h1 => ?_) (fun h1 => ?_)
      refine Wo rfl (opv_fieldAddr Try.underlying25 rfl rfl Try.sizeOf23 rfl) ?_; refine Wo (v := u2) rfl (opv_load Try.isAgg23 rfl (hB4.cell rfl)) ?_; refine Wo rfl (opv_len Try.underlying23 rfl (OwnedB.read hO2)) ?_
      refine Wo rfl (opv_gtr rfl rfl) ?_; refine Wo rfl (opv_pick_t (v := .bool _) rfl rfl) ?_; refine Wo_nil ?_; rotate_left; refine Wo_skip rfl ?_; refine Wo_skip rfl ?_; refine Wo_skip rfl ?_; refine Wo_skip rfl ?_
      refine Wo rfl (opv_pick_f (v := .bool _) rfl rfl) ?_; refine Wo_nil ?_; rotate_left
    all_goals refine ⟨_, ⟨rfl, trivial⟩, by repeat (first | with_reducible exact Same.refl | refine Same.upd rfl ?_ | refine Same.upds rfl ?_ | refine Same.mix rfl ?_), ?_, Rdr.le hr3 (by omega), Ew2.trans hr3.old, by omega, hB1, hB2, hB3, hB4, hO1, hQ1, hO2, hQ2⟩
    all_goals (intro hx; first | exact Bool.noConfusion hx | (have := of_decide_eq_true hx; omega) | (simp at hx; omega))
  clear hr hB1 hB2 hB3 hB4 hO1 hQ1 hO2 hQ2 Ew
  rintro x ρ12 w12 ⟨hx, hr, Ew, hsz, hB1, hB2, hB3, hB4, hO1, hQ1, hO2, hQ2⟩
  have hl12 := hr.lt
  have E2w := hr.old
  refine W_mid [35, 36, 37, 38] (fun (_ : Value × List Int) => []) (fun (u2, C) w' => C.length ≤ 12 ∧ Rdr w2 w' y1 31 ∧ Ext w w' ∧ w9.heap.size ≤ w'.heap.size ∧ Blk w' b1 [.slice none 0 0, .slice none 0 0] ∧ Blk w' b2 [.slice none 0 0, .slice none 0 0] ∧ Blk w' b3 [u1, q1] ∧ Blk w' b4 [u2, q2] ∧ OwnedB w3.heap.size w4.heap.size XI w' u1 A ∧ OwnedB w3.heap.size w4.heap.size XI w' q1 y2 ∧ OwnedB w6.heap.size w7.heap.size XI w' u2 C ∧ OwnedB w6.heap.size w7.heap.size XI w' q2 y3) ?_ ?_
  · cases x
    · focus
        have szE2w := E2w.size; have szEw := Ew.size; have szE2w := E2w.size; have szEw2 := Ew2.size; have szE15 := E15.size; have szE14 := E14.size; have szE13 := E13.size; have szE12 := E12.size; have szE11 := E11.size
        have szEhr2 := Ehr2.size; have szE9 := E9.size; have szE8 := E8.size; have szE7 := E7.size; have szE6 := E6.size; have szE5 := E5.size; have szEhr1 := Ehr1.size; have szE3 := E3.size; have szE2 := E2.size; have szE1 := E1.size
        refine W_cond_false rfl ?_; refine W_skip ?_
      exact ⟨(u2, x2), trivial, by repeat (first | with_reducible exact Same.refl | refine Same.upd rfl ?_ | refine Same.upds rfl ?_ | refine Same.mix rfl ?_), by omega, hr, Ew, hsz, hB1, hB2, hB3, hB4, hO1, hQ1, hO2, hQ2⟩
    · have hx' := hx rfl
      obtain ⟨ub, uc, rfl, huc⟩ := hO2.o.lit (by omega)
      have hP := hO2.pre (k := 1) (by omega)
      have icP := OwnedB.isC hP
      focus
        have szE2w := E2w.size; have szEw := Ew.size; have szE2w := E2w.size; have szEw2 := Ew2.size; have szE15 := E15.size; have szE14 := E14.size; have szE13 := E13.size; have szE12 := E12.size; have szE11 := E11.size
        have szEhr2 := Ehr2.size; have szE9 := E9.size; have szE8 := E8.size; have szE7 := E7.size; have szE6 := E6.size; have szE5 := E5.size; have szEhr1 := Ehr1.size; have szE3 := E3.size; have szE2 := E2.size; have szE1 := E1.size
        refine W_cond_true rfl ?_; refine W_region rfl ?_; refine Wo rfl (opv_fieldAddr Try.underlying25 rfl rfl Try.sizeOf23 rfl) ?_; refine Wo (v := .slice _ _ _) rfl (opv_load Try.isAgg23 rfl (hB4.cell rfl)) ?_
        refine Wo rfl (opv_slice_sl_hi Try.underlying23 Try.sizeOf3 rfl rfl (by omega)) ?_; refine Wo rfl (opv_fieldAddr Try.underlying25 rfl rfl Try.sizeOf23 rfl) ?_
        refine Wo_st (v := .slice _ _ _) rfl Try.sizeOf23 rfl rfl rfl hB4 (by simp) (by omega) Ew ?_; rintro w13 E16 hB4 K3 hz3; have E17 := (E2.trans E2w).wroteAt Ew E16 K3 hz3 (by omega); have szE17 := E17.size
        have E18 := E2w.wroteAt Ew E16 K3 hz3 (by omega); have szE18 := E18.size; simp only [List.set] at hB4; have hr := hr.wrote E18 (K3 _ (by omega)) hz3; have hB1 := hB1.of_heap (K3 _ (by omega))
        have hB2 := hB2.of_heap (K3 _ (by omega)); have hB3 := hB3.of_heap (K3 _ (by omega)); have hO1 := hO1.wrote K3 (by omega); have hQ1 := hQ1.wrote K3 (by omega); have hQ2 := hQ2.wrote K3 (by omega); have hO2 := hO2.wrote K3 (by omega)
        have hP := hP.wrote K3 (by omega); refine Wo_nil ?_
      exact ⟨(_, _), trivial, by repeat (first | with_reducible exact Same.refl | refine Same.upd rfl ?_ | refine Same.upds rfl ?_ | refine Same.mix rfl ?_), by simp; omega, hr, by assumption, by omega, hB1, hB2, hB3, hB4, hO1, hQ1, hP, hQ2⟩
  clear hr hB1 hB2 hB3 hB4 hO1 hQ1 hO2 hQ2 Ew
  clear hx E2w
  rintro ⟨u2, C⟩ ρ13 w13 ⟨hC, hr, Ew, hsz, hB1, hB2, hB3, hB4, hO1, hQ1, hO2, hQ2⟩
  have hl13 := hr.lt
  have ic1 := OwnedB.isC hO1
  have ic2 := OwnedB.isC hQ1
  have ic3 := OwnedB.isC hO2
  have ic4 := OwnedB.isC hQ2
  focus
    have szEw := Ew.size; have szE2w := E2w.size; have szEw2 := Ew2.size; have szE15 := E15.size; have szE14 := E14.size; have szE13 := E13.size; have szE12 := E12.size; have szE11 := E11.size; have szEhr2 := Ehr2.size
    have szE9 := E9.size; have szE8 := E8.size; have szE7 := E7.size; have szE6 := E6.size; have szE5 := E5.size; have szEhr1 := Ehr1.size; have szE3 := E3.size; have szE2 := E2.size; have szE1 := E1.size; refine W_seq ?_
    refine W_held (fun _ => True) mixed rfl (by kernel_rfl) ?_; intro w14 E16 K3 hz3; have hr := hr.ext E16; have hs8 := E16.size; refine Wh_all (rs := [0, 1]) (by kernel_rfl) rfl ?_; refine WhAll_cons rfl ?_ ?_
    refine Wo (v := .agg _) rfl (opv_load2 Try.isAgg25 Try.sizeOf25 rfl (hB3.ext E16)) ?_; refine Wo_nil ?_; refine ⟨trivial, ?_⟩; refine Wh_all (rs := [1, 2]) (by kernel_rfl) rfl ?_; refine WhAll_cons rfl ?_ ?_
    refine Wo (v := .agg _) rfl (opv_load2 Try.isAgg25 Try.sizeOf25 rfl (hB4.ext E16)) ?_; refine Wo_nil ?_; refine ⟨trivial, ?_⟩; refine Wh_all (rs := [2]) (by kernel_rfl) rfl ?_; refine WhAll_cons rfl ?_ ?_
    refine Wo_st2 rfl Try.sizeOf25 rfl rfl (by first | rfl | assumption) (by first | rfl | assumption) (hB1.ext E16) (by omega) (Ew.trans E16) ?_; rintro w15 E17 hB1 K4 hz4; have hB2 := (hB2.ext E16).of_heap (K4 _ (by omega))
    have hB3 := (hB3.ext E16).of_heap (K4 _ (by omega)); have hB4 := (hB4.ext E16).of_heap (K4 _ (by omega)); have hO1 := (hO1.ext E16).wrote K4 (by omega); have hQ1 := (hQ1.ext E16).wrote K4 (by omega)
    have hO2 := (hO2.ext E16).wrote K4 (by omega); have hQ2 := (hQ2.ext E16).wrote K4 (by omega); refine Wo_nil ?_; refine ⟨trivial, ?_⟩; refine Wh_all (rs := [3]) (by kernel_rfl) rfl ?_; refine WhAll_cons rfl ?_ ?_
    refine Wo_st2 rfl Try.sizeOf25 rfl rfl (by first | rfl | assumption) (by first | rfl | assumption) hB2 (by omega) E17 ?_; rintro w16 E18 hB2 K5 hz5; have hB1 := hB1.of_heap (K5 _ (by omega))
    have hB3 := hB3.of_heap (K5 _ (by omega)); have hB4 := hB4.of_heap (K5 _ (by omega)); have hO1 := hO1.wrote K5 (by omega); have hQ1 := hQ1.wrote K5 (by omega); have hO2 := hO2.wrote K5 (by omega); have hQ2 := hQ2.wrote K5 (by omega)
    refine Wo_nil ?_; refine ⟨trivial, ?_⟩; refine Wh_done (by kernel_rfl) ?_; refine W_ret ?_; rotate_left; exact WhAll_nil; exact WhAll_nil; refine WhAll_cons rfl ?_ ?_
    refine Wo_st2 rfl Try.sizeOf25 rfl rfl (by first | rfl | assumption) (by first | rfl | assumption) (hB1.ext E16) (by omega) (Ew.trans E16) ?_; rintro w15 E17 hB1 K4 hz4; have hB2 := (hB2.ext E16).of_heap (K4 _ (by omega))
    have hB3 := (hB3.ext E16).of_heap (K4 _ (by omega)); have hB4 := (hB4.ext E16).of_heap (K4 _ (by omega)); have hO1 := (hO1.ext E16).wrote K4 (by omega); have hQ1 := (hQ1.ext E16).wrote K4 (by omega)
    have hO2 := (hO2.ext E16).wrote K4 (by omega); have hQ2 := (hQ2.ext E16).wrote K4 (by omega); refine Wo_nil ?_; refine ⟨trivial, ?_⟩; refine Wh_all (rs := [1]) (by kernel_rfl) rfl ?_; refine WhAll_cons rfl ?_ ?_
    refine Wo (v := .agg _) rfl (opv_load2 Try.isAgg25 Try.sizeOf25 rfl hB4) ?_; refine Wo_nil ?_; refine ⟨trivial, ?_⟩; refine Wh_all (rs := [3]) (by kernel_rfl) rfl ?_; refine WhAll_cons rfl ?_ ?_
    refine Wo_st2 rfl Try.sizeOf25 rfl rfl (by first | rfl | assumption) (by first | rfl | assumption) hB2 (by omega) E17 ?_; rintro w16 E18 hB2 K5 hz5; have hB1 := hB1.of_heap (K5 _ (by omega))
    have hB3 := hB3.of_heap (K5 _ (by omega)); have hB4 := hB4.of_heap (K5 _ (by omega)); have hO1 := hO1.wrote K5 (by omega); have hQ1 := hQ1.wrote K5 (by omega); have hO2 := hO2.wrote K5 (by omega); have hQ2 := hQ2.wrote K5 (by omega)
    refine Wo_nil ?_; refine ⟨trivial, ?_⟩; refine Wh_done (by kernel_rfl) ?_; refine W_ret ?_; rotate_left; exact WhAll_nil; exact WhAll_nil; exact WhAll_nil; refine WhAll_cons rfl ?_ ?_
    refine Wo (v := .agg _) rfl (opv_load2 Try.isAgg25 Try.sizeOf25 rfl (hB4.ext E16)) ?_; refine Wo_nil ?_; refine ⟨trivial, ?_⟩; refine Wh_all (rs := [0]) (by kernel_rfl) rfl ?_; refine WhAll_cons rfl ?_ ?_
    refine Wo (v := .agg _) rfl (opv_load2 Try.isAgg25 Try.sizeOf25 rfl (hB3.ext E16)) ?_; refine Wo_nil ?_; refine ⟨trivial, ?_⟩; refine Wh_all (rs := [2]) (by kernel_rfl) rfl ?_; refine WhAll_cons rfl ?_ ?_
    refine Wo_st2 rfl Try.sizeOf25 rfl rfl (by first | rfl | assumption) (by first | rfl | assumption) (hB1.ext E16) (by omega) (Ew.trans E16) ?_; rintro w15 E17 hB1 K4 hz4; have hB2 := (hB2.ext E16).of_heap (K4 _ (by omega))
    have hB3 := (hB3.ext E16).of_heap (K4 _ (by omega)); have hB4 := (hB4.ext E16).of_heap (K4 _ (by omega)); have hO1 := (hO1.ext E16).wrote K4 (by omega); have hQ1 := (hQ1.ext E16).wrote K4 (by omega)
    have hO2 := (hO2.ext E16).wrote K4 (by omega); have hQ2 := (hQ2.ext E16).wrote K4 (by omega); refine Wo_nil ?_; refine ⟨trivial, ?_⟩; refine Wh_all (rs := [3]) (by kernel_rfl) rfl ?_; refine WhAll_cons rfl ?_ ?_
    refine Wo_st2 rfl Try.sizeOf25 rfl rfl (by first | rfl | assumption) (by first | rfl | assumption) hB2 (by omega) E17 ?_; rintro w16 E18 hB2 K5 hz5; have hB1 := hB1.of_heap (K5 _ (by omega))
    have hB3 := hB3.of_heap (K5 _ (by omega)); have hB4 := hB4.of_heap (K5 _ (by omega)); have hO1 := hO1.wrote K5 (by omega); have hQ1 := hQ1.wrote K5 (by omega); have hO2 := hO2.wrote K5 (by omega); have hQ2 := hQ2.wrote K5 (by omega)
    refine Wo_nil ?_; refine ⟨trivial, ?_⟩; refine Wh_done (by kernel_rfl) ?_; refine W_ret ?_; rotate_left; exact WhAll_nil; exact WhAll_nil; exact WhAll_nil; exact WhAll_nil
  all_goals exact ⟨_, _, _, rfl, hB1, _, _, _, rfl, hB2, _, _, _, _, _, _, _, _, rfl, by assumption, hO1.o.mono (by omega), hQ1.o.mono (by omega), hO2.o.mono (by omega), hQ2.o.mono (by omega), by unfold smallS; omega, by unfold smallS; omega⟩

end Go.Proofs.Ytlalfmialbolhaa
