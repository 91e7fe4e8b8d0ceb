/- Lemmas for FnDeskOk. -/
import Derived.Test.YtgphoihilheoeaaGreatDoorMFnDeskOk6
namespace Go.Proofs.YtgphoihilheoeaaGreatDoor
open Go.Hs
set_option maxRecDepth 10000
set_option maxHeartbeats 4000000
set_option linter.unusedVariables false
set_option linter.unusedSimpArgs false

open Classical in
theorem spec_DeskDo_own (w : World) (u1 u2 : Value) (d : Dsk) (h1 : ESl Ints w u1 d.now) (h2 : ESl (ESl Ints) w u2 d.past) (k n : Int) (t : List UInt8) (ht : t.length ≤ 1048576) :
    Does Tryz.prog 62 [.agg #[u1, u2], .agg #[.int .i64 k, str t, .int .i64 n]] w (RetDkF w 22 d.past.length (if DkOk d then (doV d ⟨k, t, n⟩).1.now else []) (if DkOk d then (doV d ⟨k, t, n⟩).1.past else []) (decide (DkOk d) && (doV d ⟨k, t, n⟩).2)) := by
  obtain ⟨p, pp⟩ := d
  have hle := h2.le
  have i1 : isCell u1 = true := ESl_isC h1
  have i2 : isCell u2 = true := ESl_isC h2
  simp only at h1 h2 hle
  refine fn_of_Wct Tryz.func62 rfl Tryz.results62 Tryz.ntmps62 rfl Tryz.isAgg28 Tryz.sizeOf28 ?_
  by_cases hd : DkOk ⟨p, pp⟩
  · have k0 : ∀ w, ESl Ints w u1 p → ESl (ESl Ints) w u2 pp → Does Tryz.prog 7 [.agg #[u1, u2]] w (Ret w (.bool true)) := fun w h1 h2 => by
      have := spec_DeskOk_ok w u1 u2 ⟨p, pp⟩ h1 h2; rwa [decide_eq_true hd] at this
    have hpp : Pic p := hd.1.1
    have hppl : pp.length ≤ 8 := hd.2.1
    have hb1 : p.length ≤ 100 ∧ ∀ r ∈ p, r.length ≤ 100 := ⟨by have := hpp.2.1; omega, fun r hr => by rw [(hpp.2.2 r hr).1]; have := hpp.2.1; omega⟩
    have hb2 : ∀ q ∈ pp, q.length ≤ 100 ∧ ∀ r ∈ q, r.length ≤ 100 := fun q hq => by
      have hq := (hd.2.2 q hq).1
      exact ⟨by have := hq.2.1; omega, fun r hr => by rw [(hq.2.2 r hr).1]; have := hq.2.1; omega⟩
    have k1 : ∀ w, ESl Ints w u1 p → ESl (ESl Ints) w u2 pp → Does Tryz.prog 82 [.agg #[u1, u2]] w (RetDk w 22 58 3 p pp) := fun w h1 h2 => l11Copy_ok w u1 u2 p pp h1 h2 hb1 (by omega) hb2
    rw [if_pos hd, if_pos hd, decide_eq_true hd, Bool.true_and]
    by_cases hb : isBack ⟨p, pp⟩ ⟨k, t, n⟩
    · obtain ⟨e, hne⟩ := hb
      cases e
      have hpl : 0 < pp.length := List.length_pos_iff.2 hne
      have hdo : doV ⟨p, pp⟩ ⟨4, [], 0⟩ = (⟨pp.getLastD [], pp.dropLast⟩, true) := by unfold doV; rw [if_pos ⟨rfl, hne⟩]
      rw [hdo]
      simp only
      have litown : True := trivial
      have stop6 : True := trivial
      focus
        refine W_seq ?_; refine W_region rfl ?_; refine Wo_box rfl rfl rfl ?_; rintro b1 w1 hb3 E1 hB1; have hlb1 := hB1.lt; have hs1 := E1.size; refine Wo_box rfl rfl rfl ?_; rintro b2 w2 hb4 E2 hB2; have hlb2 := hB2.lt
        have hs2 := E2.size; refine Wo_alloc2 rfl flat28 ?_; rintro b3 w3 hb5 E3 hB3; have hlb3 := hB3.lt; have hs3 := E3.size; refine Wo rfl (opv_assign (v := .bool _) rfl) ?_; refine Wo_nil ?_; refine W_seq ?_; refine W_seq ?_
        refine W_region rfl ?_; refine Wo (v := .agg _) rfl (opv_load2 Tryz.isAgg28 Tryz.sizeOf28 rfl (hB1.ext (E2.trans E3))) ?_
        refine Wo_call rfl (opc1 (a := .agg _) Tryz.call7 rfl) (k0 _ ((Mono.mono ((E1.trans E2).trans E3) h1)) ((Mono.mono ((E1.trans E2).trans E3) h2))) ?_; rintro _ w4 ⟨rfl, E4⟩; have hs4 := E4.size; refine Wo rfl (opv_not rfl) ?_
        refine Wo_nil ?_; refine W_cond rfl (fun h3 => ?_) (fun h3 => ?_); contradiction; refine W_skip ?_; refine W_seq ?_; refine W_region rfl ?_
        refine Wo (v := .agg _) rfl (opv_load2 Tryz.isAgg28 Tryz.sizeOf28 rfl (hB1.ext ((E2.trans E3).trans E4))) ?_
        refine Wo_call rfl (opc1 (a := .agg _) Tryz.call82 rfl) (k1 _ ((Mono.mono (((E1.trans E2).trans E3).trans E4) h1)) ((Mono.mono (((E1.trans E2).trans E3).trans E4) h2))) ?_; rintro _ w5 ⟨u3, q1, m1, rfl, E5, hO1, hQ1, hm1, hn1⟩
        have icu3 := OwnedB.isC hO1; have cpu3 := OwnedB.capOk hO1; have icq1 := OwnedB.isC (Owned.toB hQ1); have cpq1 := OwnedB.capOk (Owned.toB hQ1); have hs5 := E5.size; refine Wo_alloc2 rfl flat28 ?_; rintro b4 w6 hb6 E6 hB4
        have hlb4 := hB4.lt; have hs6 := E6.size; refine Wo_st2 rfl Tryz.sizeOf28 rfl rfl (by first | rfl | assumption) (by first | rfl | assumption) hB4 (by omega) (((((E1.trans E2).trans E3).trans E4).trans E5).trans E6) ?_
        rintro w7 E7 hB4 K1 hz1; have E8 := ((((E2.trans E3).trans E4).trans E5).trans E6).wroteAt (((((E1.trans E2).trans E3).trans E4).trans E5).trans E6) E7 K1 hz1 (by omega); have szE8 := E8.size
        have E9 := (((E3.trans E4).trans E5).trans E6).wroteAt (((((E1.trans E2).trans E3).trans E4).trans E5).trans E6) E7 K1 hz1 (by omega); have szE9 := E9.size
        have E10 := ((E4.trans E5).trans E6).wroteAt (((((E1.trans E2).trans E3).trans E4).trans E5).trans E6) E7 K1 hz1 (by omega); have szE10 := E10.size
        have E11 := (E5.trans E6).wroteAt (((((E1.trans E2).trans E3).trans E4).trans E5).trans E6) E7 K1 hz1 (by omega); have szE11 := E11.size
        have E12 := E6.wroteAt (((((E1.trans E2).trans E3).trans E4).trans E5).trans E6) E7 K1 hz1 (by omega); have szE12 := E12.size; have hB1 := (hB1.ext ((((E2.trans E3).trans E4).trans E5).trans E6)).of_heap (K1 _ (by omega))
        have hB2 := (hB2.ext (((E3.trans E4).trans E5).trans E6)).of_heap (K1 _ (by omega)); have hB3 := (hB3.ext ((E4.trans E5).trans E6)).of_heap (K1 _ (by omega)); have hO1 := (hO1.ext E6).wrote K1 (by omega)
        have hQ1 := (hQ1.toB.ext E6).wrote K1 (by omega); refine Wo_nil ?_; refine W_seq ?_; refine W_seq ?_; refine W_region rfl ?_; refine Wo (v := .agg _) rfl (opv_load3 Tryz.isAgg75 Tryz.sizeOf75 rfl hB2) ?_
        refine Wo rfl (opv_build (ps := [(0, .int _ _)]) (cs := [_, _, _]) flat75 rfl rfl) ?_; refine Wo rfl (opv_eqD rfl rfl) ?_; refine Wo_split_dec rfl (opv_move (v := .bool _) rfl) (fun h4 => ?_) (fun h4 => ?_)
        refine Wo rfl (opv_fieldAddr Tryz.underlying28 rfl rfl Tryz.sizeOf23 rfl) ?_; refine Wo (v := u2) rfl (opv_load Tryz.isAgg23 rfl (hB1.cell rfl)) ?_; refine Wo rfl (opv_len Tryz.underlying23 rfl h2) ?_
        refine Wo rfl (opv_gtr rfl rfl) ?_; refine Wo rfl (opv_pick_t (v := .bool _) rfl rfl) ?_; refine Wo_nil ?_; refine W_cond_dec rfl (fun h5 => ?_) (fun h5 => ?_); refine W_seq ?_; refine W_region rfl ?_
        refine Wo rfl (opv_fieldAddr Tryz.underlying28 rfl rfl Tryz.sizeOf23 rfl) ?_; refine Wo (v := q1) rfl (opv_load Tryz.isAgg23 rfl (hB4.cell rfl)) ?_; refine Wo rfl (opv_len Tryz.underlying23 rfl (OwnedB.read hQ1)) ?_
        refine Wo rfl (opv_sub rfl rfl (by omega)) ?_; refine Wo rfl (opv_assign (v := .int _ _) rfl) ?_; refine Wo_nil ?_; refine W_seq ?_; rotate_left; (exfalso; omega); contradiction
      clear stop6
      obtain ⟨qb, qc, ur, rfl, hqc, hcl, icr, hqb, hqb2, hDk⟩ := hQ1.backDk hpl (by omega)
      have hel := hDk.dkNow
      have hcl : w7.cell? ⟨qb, 0 + ((pp.length : Int) - 1).toNat, none⟩ = some ur := by rw [Nat.zero_add, show ((pp.length : Int) - 1).toNat = pp.length - 1 by omega]; exact hcl
      have cellF : True := trivial
      focus
        have szE12 := E12.size; have szE11 := E11.size; have szE10 := E10.size; have szE9 := E9.size; have szE8 := E8.size; have szE7 := E7.size; have szE6 := E6.size; have szE5 := E5.size; have szE4 := E4.size; have szE3 := E3.size
        have szE2 := E2.size; have szE1 := E1.size; refine W_region rfl ?_; refine Wo rfl (opv_fieldAddr Tryz.underlying28 rfl rfl Tryz.sizeOf23 rfl) ?_; refine Wo (v := .slice _ _ _) rfl (opv_load Tryz.isAgg23 rfl (hB4.cell rfl)) ?_
        refine Wo rfl (opv_move (v := .int _ _) rfl) ?_; refine Wo rfl (opv_indexAddr_z Tryz.underlying23 Tryz.sizeOf22 rfl rfl (by omega)) ?_; refine Wo rfl (opv_load Tryz.isAgg22 rfl (by assumption)) ?_
        refine Wo rfl (opv_fieldAddr Tryz.underlying28 rfl rfl Tryz.sizeOf22 rfl) ?_; refine Wo_st (v := ur) rfl Tryz.sizeOf22 rfl rfl (by assumption) hB4 (by first | decide | simp) (by omega) E7 ?_; rintro w8 E13 hB4 K2 hz2
        have E14 := E8.wroteAt E7 E13 K2 hz2 (by omega); have szE14 := E14.size; have E15 := E9.wroteAt E7 E13 K2 hz2 (by omega); have szE15 := E15.size; have E16 := E10.wroteAt E7 E13 K2 hz2 (by omega); have szE16 := E16.size
        have E17 := E11.wroteAt E7 E13 K2 hz2 (by omega); have szE17 := E17.size; have E18 := E12.wroteAt E7 E13 K2 hz2 (by omega); have szE18 := E18.size; simp only [List.set] at hB4; have hB1 := hB1.of_heap (K2 _ (by omega))
        have hB2 := hB2.of_heap (K2 _ (by omega)); have hB3 := hB3.of_heap (K2 _ (by omega)); have hO1 := hO1.wrote K2 (by omega); have hQ1 := hQ1.wrote K2 (by omega); have hDk := hDk.wrote K2 (by omega); have hel := hel.wrote K2 (by omega)
        refine Wo_nil ?_; refine W_seq ?_; refine W_region rfl ?_; refine Wo rfl (opv_fieldAddr Tryz.underlying28 rfl rfl Tryz.sizeOf23 rfl) ?_; refine Wo (v := .slice _ _ _) rfl (opv_load Tryz.isAgg23 rfl (hB4.cell rfl)) ?_
        refine Wo rfl (opv_move (v := .int _ _) rfl) ?_; refine Wo rfl (opv_slice_sl_hi Tryz.underlying23 Tryz.sizeOf22 rfl rfl (by omega)) ?_; refine Wo rfl (opv_fieldAddr Tryz.underlying28 rfl rfl Tryz.sizeOf23 rfl) ?_
        refine Wo_st (v := .slice _ _ _) rfl Tryz.sizeOf23 rfl rfl rfl hB4 (by simp) (by omega) E13 ?_; rintro w9 E19 hB4 K3 hz3; have E20 := E14.wroteAt E13 E19 K3 hz3 (by omega); have szE20 := E20.size
        have E21 := E15.wroteAt E13 E19 K3 hz3 (by omega); have szE21 := E21.size; have E22 := E16.wroteAt E13 E19 K3 hz3 (by omega); have szE22 := E22.size; have E23 := E17.wroteAt E13 E19 K3 hz3 (by omega); have szE23 := E23.size
        have E24 := E18.wroteAt E13 E19 K3 hz3 (by omega); have szE24 := E24.size; simp only [List.set] at hB4; have hB1 := hB1.of_heap (K3 _ (by omega)); have hB2 := hB2.of_heap (K3 _ (by omega)); have hB3 := hB3.of_heap (K3 _ (by omega))
        have hO1 := hO1.wrote K3 (by omega); have hQ1 := hQ1.wrote K3 (by omega); have hDk := hDk.wrote K3 (by omega); have hel := hel.wrote K3 (by omega); refine Wo_nil ?_; refine W_seq ?_; refine W_region rfl ?_
        refine Wo (v := .agg _) rfl (opv_load2 Tryz.isAgg28 Tryz.sizeOf28 rfl hB4) ?_; refine Wo_st2 rfl Tryz.sizeOf28 rfl rfl (by first | rfl | assumption) (by first | rfl | assumption) hB3 (by omega) E19 ?_; rintro w10 E25 hB3 K4 hz4
        have E26 := E20.wroteAt E19 E25 K4 hz4 (by omega); have szE26 := E26.size; have E27 := E21.wroteAt E19 E25 K4 hz4 (by omega); have szE27 := E27.size; have hB4 := hB4.of_heap (K4 _ (by omega))
        have hB1 := hB1.of_heap (K4 _ (by omega)); have hB2 := hB2.of_heap (K4 _ (by omega)); have hO1 := hO1.wrote K4 (by omega); have hQ1 := hQ1.wrote K4 (by omega); have hDk := hDk.wrote K4 (by omega); have hel := hel.wrote K4 (by omega)
        refine Wo rfl (opv_assign (v := .bool _) rfl) ?_; refine Wo_nil ?_; refine W_ret ?_
      have hlast : pp.getLastD [] = pp[pp.length - 1] := by rw [List.getLastD_eq_getLast?, List.getLast?_eq_getElem?, List.getElem?_eq_getElem (by omega)]; rfl
      rw [hlast, List.dropLast_eq_take]
      rw [show ((pp.length : Int) - 1).toNat = pp.length - 1 by omega] at *
      refine ⟨b3, ur, _, rfl, hB3, ur, _, rfl, E25, hDk.dkNow.rd_above.mono (by omega), hDk.dkPast.rd_above.mono (by omega), icr, rfl, by omega, fun _ _ => ?_⟩
      exact hDk.wide (by omega) (by omega)
    · have hdo : doV ⟨p, pp⟩ ⟨k, t, n⟩ = match nextV p ⟨k, t, n⟩ with
        | some c => (⟨c, last8 (pp ++ [p])⟩, true)
        | none => (⟨p, pp⟩, false) := by unfold doV; rw [if_neg hb]; rfl
      rw [hdo]
      have hback : (⟨k, t, n⟩ : Deed) = ⟨4, [], 0⟩ → pp.length = 0 := fun e => Classical.byContradiction fun h => hb ⟨e, fun h' => h (by rw [show pp = [] from h']; rfl)⟩
      have k2 : ∀ w, ESl Ints w u1 p → Does Tryz.prog 83 [u1, .agg #[.int .i64 k, str t, .int .i64 n]] w (RetOB w XR (og (madeV p ⟨k, t, n⟩)) (madeV p ⟨k, t, n⟩).isSome) := fun w h => l11Made_ok w u1 p h hpp k n t ht
      have litown : True := trivial
      by_cases ha : (⟨k, t, n⟩ : Deed) = ⟨4, [], 0⟩
      · have hpl0 := hback ha
        cases ha
        have hmv : madeV p ⟨4, [], 0⟩ = none := by simp [madeV]
        have hnx : nextV p ⟨4, [], 0⟩ = none := by unfold nextV; rw [hmv]
        rw [hmv, show og none = [] from rfl, show (none : Option (List (List Int))).isSome = false from rfl] at k2
        rw [hnx]
        simp only
        focus
          refine W_seq ?_; refine W_region rfl ?_; refine Wo_box rfl rfl rfl ?_; rintro b1 w1 hb3 E1 hB1; have hlb1 := hB1.lt; have hs1 := E1.size; refine Wo_box rfl rfl rfl ?_; rintro b2 w2 hb4 E2 hB2; have hlb2 := hB2.lt
          have hs2 := E2.size; refine Wo_alloc2 rfl flat28 ?_; rintro b3 w3 hb5 E3 hB3; have hlb3 := hB3.lt; have hs3 := E3.size; refine Wo rfl (opv_assign (v := .bool _) rfl) ?_; refine Wo_nil ?_; refine W_seq ?_; refine W_seq ?_
          refine W_region rfl ?_; refine Wo (v := .agg _) rfl (opv_load2 Tryz.isAgg28 Tryz.sizeOf28 rfl (hB1.ext (E2.trans E3))) ?_
          refine Wo_call rfl (opc1 (a := .agg _) Tryz.call7 rfl) (k0 _ ((Mono.mono ((E1.trans E2).trans E3) h1)) ((Mono.mono ((E1.trans E2).trans E3) h2))) ?_; rintro _ w4 ⟨rfl, E4⟩; have hs4 := E4.size; refine Wo rfl (opv_not rfl) ?_
          refine Wo_nil ?_; refine W_cond rfl (fun h3 => ?_) (fun h3 => ?_); contradiction; refine W_skip ?_; refine W_seq ?_; refine W_region rfl ?_
          refine Wo (v := .agg _) rfl (opv_load2 Tryz.isAgg28 Tryz.sizeOf28 rfl (hB1.ext ((E2.trans E3).trans E4))) ?_
          refine Wo_call rfl (opc1 (a := .agg _) Tryz.call82 rfl) (k1 _ ((Mono.mono (((E1.trans E2).trans E3).trans E4) h1)) ((Mono.mono (((E1.trans E2).trans E3).trans E4) h2))) ?_; rintro _ w5 ⟨u3, q1, m1, rfl, E5, hO1, hQ1, hm1, hn1⟩
          have icu3 := OwnedB.isC hO1; have cpu3 := OwnedB.capOk hO1; have icq1 := OwnedB.isC (Owned.toB hQ1); have cpq1 := OwnedB.capOk (Owned.toB hQ1); have hs5 := E5.size; refine Wo_alloc2 rfl flat28 ?_; rintro b4 w6 hb6 E6 hB4
          have hlb4 := hB4.lt; have hs6 := E6.size; refine Wo_st2 rfl Tryz.sizeOf28 rfl rfl (by first | rfl | assumption) (by first | rfl | assumption) hB4 (by omega) (((((E1.trans E2).trans E3).trans E4).trans E5).trans E6) ?_
          rintro w7 E7 hB4 K1 hz1; have E8 := ((((E2.trans E3).trans E4).trans E5).trans E6).wroteAt (((((E1.trans E2).trans E3).trans E4).trans E5).trans E6) E7 K1 hz1 (by omega); have szE8 := E8.size
          have E9 := (((E3.trans E4).trans E5).trans E6).wroteAt (((((E1.trans E2).trans E3).trans E4).trans E5).trans E6) E7 K1 hz1 (by omega); have szE9 := E9.size
          have E10 := ((E4.trans E5).trans E6).wroteAt (((((E1.trans E2).trans E3).trans E4).trans E5).trans E6) E7 K1 hz1 (by omega); have szE10 := E10.size
          have E11 := (E5.trans E6).wroteAt (((((E1.trans E2).trans E3).trans E4).trans E5).trans E6) E7 K1 hz1 (by omega); have szE11 := E11.size
          have E12 := E6.wroteAt (((((E1.trans E2).trans E3).trans E4).trans E5).trans E6) E7 K1 hz1 (by omega); have szE12 := E12.size; have hB1 := (hB1.ext ((((E2.trans E3).trans E4).trans E5).trans E6)).of_heap (K1 _ (by omega))
          have hB2 := (hB2.ext (((E3.trans E4).trans E5).trans E6)).of_heap (K1 _ (by omega)); have hB3 := (hB3.ext ((E4.trans E5).trans E6)).of_heap (K1 _ (by omega)); have hO1 := (hO1.ext E6).wrote K1 (by omega)
          have hQ1 := (hQ1.toB.ext E6).wrote K1 (by omega); refine Wo_nil ?_; refine W_seq ?_; refine W_seq ?_; refine W_region rfl ?_; refine Wo (v := .agg _) rfl (opv_load3 Tryz.isAgg75 Tryz.sizeOf75 rfl hB2) ?_
          refine Wo rfl (opv_build (ps := [(0, .int _ _)]) (cs := [_, _, _]) flat75 rfl rfl) ?_; refine Wo rfl (opv_eqD rfl rfl) ?_; refine Wo_split_dec rfl (opv_move (v := .bool _) rfl) (fun h4 => ?_) (fun h4 => ?_)
          refine Wo rfl (opv_fieldAddr Tryz.underlying28 rfl rfl Tryz.sizeOf23 rfl) ?_; refine Wo (v := u2) rfl (opv_load Tryz.isAgg23 rfl (hB1.cell rfl)) ?_; refine Wo rfl (opv_len Tryz.underlying23 rfl h2) ?_
          refine Wo rfl (opv_gtr rfl rfl) ?_; refine Wo rfl (opv_pick_t (v := .bool _) rfl rfl) ?_; refine Wo_nil ?_; refine W_cond_dec rfl (fun h5 => ?_) (fun h5 => ?_); (exfalso; omega); refine W_skip ?_; refine W_seq ?_
          refine W_region rfl ?_; refine Wo rfl (opv_fieldAddr Tryz.underlying28 rfl rfl Tryz.sizeOf22 rfl) ?_; refine Wo (v := u1) rfl (opv_load Tryz.isAgg22 rfl (hB1.cell rfl)) ?_
          refine Wo (v := .agg _) rfl (opv_load3 Tryz.isAgg75 Tryz.sizeOf75 rfl hB2) ?_; refine Wo_call rfl (opc2 (a := u1) (b := .agg _) Tryz.call83 rfl rfl) (k2 _ ((Mono.mono E7 h1))) ?_; rintro _ w8 ⟨u4, rfl, E13, hO2⟩
          have ichO2 := OwnedB.isC (Owned.toB hO2); have hs7 := E13.size; refine Wo rfl (opv_move (v := .tuple _) rfl) ?_; refine Wo rfl (opv_extract (v := u4) rfl rfl) ?_; refine Wo rfl (opv_extract (v := .bool _) rfl rfl) ?_
          refine Wo rfl (opv_assign (v := u4) rfl) ?_; refine Wo rfl (opv_assign (v := .bool _) rfl) ?_; refine Wo_nil ?_; refine W_seq ?_; refine W_seq ?_; refine W_draw mixed (by kernel_rfl) rfl ?_
          refine Wq_o rfl (fun _ _ => opv_move (v := .bool _) rfl) ?_; refine Wq_o rfl (fun _ _ => opv_not rfl) ?_; refine Wq_split rfl (fun _ _ => opv_move (v := .bool _) rfl) (fun h6 => ?_) (fun h6 => ?_); refine Wq_skip rfl ?_
          refine Wq_skip rfl ?_; refine Wq_skip rfl ?_; refine Wq_skip rfl ?_; refine Wq_skip rfl ?_; refine Wq_skip rfl ?_; refine Wq_skip rfl ?_; refine Wq_skip rfl ?_; refine Wq_skip rfl ?_; refine Wq_skip rfl ?_; refine Wq_skip rfl ?_
          refine Wq_skip rfl ?_; refine Wq_skip rfl ?_; refine Wq_skip rfl ?_; refine Wq_o rfl (fun _ _ => opv_pick_t (v := .bool _) rfl rfl) ?_; refine Wq_nil (fun w9 E14 => ?_); have hs8 := E14.size; refine W_cond_true rfl ?_
          refine W_seq ?_; refine W_region rfl ?_; refine Wo (v := .agg _) rfl (opv_load2 Tryz.isAgg28 Tryz.sizeOf28 rfl (hB4.ext (E13.trans E14))) ?_
          refine Wo_st2 rfl Tryz.sizeOf28 rfl rfl (by first | rfl | assumption) (by first | rfl | assumption) (hB3.ext (E13.trans E14)) (by omega) ((E7.trans E13).trans E14) ?_; rintro w10 E15 hB3 K2 hz2
          have E16 := ((E8.trans E13).trans E14).wroteAt ((E7.trans E13).trans E14) E15 K2 hz2 (by omega); have szE16 := E16.size; have E17 := ((E9.trans E13).trans E14).wroteAt ((E7.trans E13).trans E14) E15 K2 hz2 (by omega)
          have szE17 := E17.size; have hB4 := (hB4.ext (E13.trans E14)).of_heap (K2 _ (by omega)); have hB1 := (hB1.ext (E13.trans E14)).of_heap (K2 _ (by omega)); have hB2 := (hB2.ext (E13.trans E14)).of_heap (K2 _ (by omega))
          have hO1 := (hO1.ext (E13.trans E14)).wrote K2 (by omega); have hQ1 := (hQ1.ext (E13.trans E14)).wrote K2 (by omega); have hO2 := (hO2.toB.ext E14).wrote K2 (by omega); refine Wo rfl (opv_assign (v := .bool _) rfl) ?_
          refine Wo_nil ?_; refine W_ret ?_; rotate_left; contradiction; contradiction
        exact ⟨b3, u3, q1, rfl, hB3, u3, q1, rfl, by exact E15, hO1.above.mono (by omega), hQ1.above.mono (by omega), icu3, icq1, by omega, fun h => by cases h⟩
      · cases hmv : madeV p ⟨k, t, n⟩ with
        | none =>
          have hnx : nextV p ⟨k, t, n⟩ = none := by unfold nextV; rw [hmv]
          rw [hmv, show og none = [] from rfl, show (none : Option (List (List Int))).isSome = false from rfl] at k2
          rw [hnx]
          simp only
          focus
            refine W_seq ?_; refine W_region rfl ?_; refine Wo_box rfl rfl rfl ?_; rintro b1 w1 hb3 E1 hB1; have hlb1 := hB1.lt; have hs1 := E1.size; refine Wo_box rfl rfl rfl ?_; rintro b2 w2 hb4 E2 hB2; have hlb2 := hB2.lt
            have hs2 := E2.size; refine Wo_alloc2 rfl flat28 ?_; rintro b3 w3 hb5 E3 hB3; have hlb3 := hB3.lt; have hs3 := E3.size; refine Wo rfl (opv_assign (v := .bool _) rfl) ?_; refine Wo_nil ?_; refine W_seq ?_; refine W_seq ?_
            refine W_region rfl ?_; refine Wo (v := .agg _) rfl (opv_load2 Tryz.isAgg28 Tryz.sizeOf28 rfl (hB1.ext (E2.trans E3))) ?_
            refine Wo_call rfl (opc1 (a := .agg _) Tryz.call7 rfl) (k0 _ ((Mono.mono ((E1.trans E2).trans E3) h1)) ((Mono.mono ((E1.trans E2).trans E3) h2))) ?_; rintro _ w4 ⟨rfl, E4⟩; have hs4 := E4.size; refine Wo rfl (opv_not rfl) ?_
            refine Wo_nil ?_; refine W_cond rfl (fun h3 => ?_) (fun h3 => ?_); contradiction; refine W_skip ?_; refine W_seq ?_; refine W_region rfl ?_
            refine Wo (v := .agg _) rfl (opv_load2 Tryz.isAgg28 Tryz.sizeOf28 rfl (hB1.ext ((E2.trans E3).trans E4))) ?_
            refine Wo_call rfl (opc1 (a := .agg _) Tryz.call82 rfl) (k1 _ ((Mono.mono (((E1.trans E2).trans E3).trans E4) h1)) ((Mono.mono (((E1.trans E2).trans E3).trans E4) h2))) ?_; rintro _ w5 ⟨u3, q1, m1, rfl, E5, hO1, hQ1, hm1, hn1⟩
            have icu3 := OwnedB.isC hO1; have cpu3 := OwnedB.capOk hO1; have icq1 := OwnedB.isC (Owned.toB hQ1); have cpq1 := OwnedB.capOk (Owned.toB hQ1); have hs5 := E5.size; refine Wo_alloc2 rfl flat28 ?_; rintro b4 w6 hb6 E6 hB4
            have hlb4 := hB4.lt; have hs6 := E6.size; refine Wo_st2 rfl Tryz.sizeOf28 rfl rfl (by first | rfl | assumption) (by first | rfl | assumption) hB4 (by omega) (((((E1.trans E2).trans E3).trans E4).trans E5).trans E6) ?_
            rintro w7 E7 hB4 K1 hz1; have E8 := ((((E2.trans E3).trans E4).trans E5).trans E6).wroteAt (((((E1.trans E2).trans E3).trans E4).trans E5).trans E6) E7 K1 hz1 (by omega); have szE8 := E8.size
            have E9 := (((E3.trans E4).trans E5).trans E6).wroteAt (((((E1.trans E2).trans E3).trans E4).trans E5).trans E6) E7 K1 hz1 (by omega); have szE9 := E9.size
            have E10 := ((E4.trans E5).trans E6).wroteAt (((((E1.trans E2).trans E3).trans E4).trans E5).trans E6) E7 K1 hz1 (by omega); have szE10 := E10.size
            have E11 := (E5.trans E6).wroteAt (((((E1.trans E2).trans E3).trans E4).trans E5).trans E6) E7 K1 hz1 (by omega); have szE11 := E11.size
            have E12 := E6.wroteAt (((((E1.trans E2).trans E3).trans E4).trans E5).trans E6) E7 K1 hz1 (by omega); have szE12 := E12.size; have hB1 := (hB1.ext ((((E2.trans E3).trans E4).trans E5).trans E6)).of_heap (K1 _ (by omega))
            have hB2 := (hB2.ext (((E3.trans E4).trans E5).trans E6)).of_heap (K1 _ (by omega)); have hB3 := (hB3.ext ((E4.trans E5).trans E6)).of_heap (K1 _ (by omega)); have hO1 := (hO1.ext E6).wrote K1 (by omega)
            have hQ1 := (hQ1.toB.ext E6).wrote K1 (by omega); refine Wo_nil ?_; refine W_seq ?_; refine W_seq ?_; refine W_region rfl ?_; refine Wo (v := .agg _) rfl (opv_load3 Tryz.isAgg75 Tryz.sizeOf75 rfl hB2) ?_
            refine Wo rfl (opv_build (ps := [(0, .int _ _)]) (cs := [_, _, _]) flat75 rfl rfl) ?_; refine Wo rfl (opv_eqD rfl rfl) ?_; refine Wo_split_dec rfl (opv_move (v := .bool _) rfl) (fun h4 => ?_) (fun h4 => ?_); contradiction
            refine Wo_skip rfl ?_; refine Wo_skip rfl ?_; refine Wo_skip rfl ?_; refine Wo_skip rfl ?_; refine Wo rfl (opv_pick_f (v := .bool _) rfl rfl) ?_; refine Wo_nil ?_; refine W_cond_false rfl ?_; refine W_skip ?_; refine W_seq ?_
            refine W_region rfl ?_; refine Wo rfl (opv_fieldAddr Tryz.underlying28 rfl rfl Tryz.sizeOf22 rfl) ?_; refine Wo (v := u1) rfl (opv_load Tryz.isAgg22 rfl (hB1.cell rfl)) ?_
            refine Wo (v := .agg _) rfl (opv_load3 Tryz.isAgg75 Tryz.sizeOf75 rfl hB2) ?_; refine Wo_call rfl (opc2 (a := u1) (b := .agg _) Tryz.call83 rfl rfl) (k2 _ ((Mono.mono E7 h1))) ?_; rintro _ w8 ⟨u4, rfl, E13, hO2⟩
            have ichO2 := OwnedB.isC (Owned.toB hO2); have hs7 := E13.size; refine Wo rfl (opv_move (v := .tuple _) rfl) ?_; refine Wo rfl (opv_extract (v := u4) rfl rfl) ?_; refine Wo rfl (opv_extract (v := .bool _) rfl rfl) ?_
            refine Wo rfl (opv_assign (v := u4) rfl) ?_; refine Wo rfl (opv_assign (v := .bool _) rfl) ?_; refine Wo_nil ?_; refine W_seq ?_; refine W_seq ?_; refine W_draw mixed (by kernel_rfl) rfl ?_
            refine Wq_o rfl (fun _ _ => opv_move (v := .bool _) rfl) ?_; refine Wq_o rfl (fun _ _ => opv_not rfl) ?_; refine Wq_split rfl (fun _ _ => opv_move (v := .bool _) rfl) (fun h5 => ?_) (fun h5 => ?_); refine Wq_skip rfl ?_
            refine Wq_skip rfl ?_; refine Wq_skip rfl ?_; refine Wq_skip rfl ?_; refine Wq_skip rfl ?_; refine Wq_skip rfl ?_; refine Wq_skip rfl ?_; refine Wq_skip rfl ?_; refine Wq_skip rfl ?_; refine Wq_skip rfl ?_; refine Wq_skip rfl ?_
            refine Wq_skip rfl ?_; refine Wq_skip rfl ?_; refine Wq_skip rfl ?_; refine Wq_o rfl (fun _ _ => opv_pick_t (v := .bool _) rfl rfl) ?_; refine Wq_nil (fun w9 E14 => ?_); have hs8 := E14.size; refine W_cond_true rfl ?_
            refine W_seq ?_; refine W_region rfl ?_; refine Wo (v := .agg _) rfl (opv_load2 Tryz.isAgg28 Tryz.sizeOf28 rfl (hB4.ext (E13.trans E14))) ?_
            refine Wo_st2 rfl Tryz.sizeOf28 rfl rfl (by first | rfl | assumption) (by first | rfl | assumption) (hB3.ext (E13.trans E14)) (by omega) ((E7.trans E13).trans E14) ?_; rintro w10 E15 hB3 K2 hz2
            have E16 := ((E8.trans E13).trans E14).wroteAt ((E7.trans E13).trans E14) E15 K2 hz2 (by omega); have szE16 := E16.size; have E17 := ((E9.trans E13).trans E14).wroteAt ((E7.trans E13).trans E14) E15 K2 hz2 (by omega)
            have szE17 := E17.size; have hB4 := (hB4.ext (E13.trans E14)).of_heap (K2 _ (by omega)); have hB1 := (hB1.ext (E13.trans E14)).of_heap (K2 _ (by omega)); have hB2 := (hB2.ext (E13.trans E14)).of_heap (K2 _ (by omega))
            have hO1 := (hO1.ext (E13.trans E14)).wrote K2 (by omega); have hQ1 := (hQ1.ext (E13.trans E14)).wrote K2 (by omega); have hO2 := (hO2.toB.ext E14).wrote K2 (by omega); refine Wo rfl (opv_assign (v := .bool _) rfl) ?_
            refine Wo_nil ?_; refine W_ret ?_; rotate_left; contradiction
          exact ⟨b3, u3, q1, rfl, hB3, u3, q1, rfl, by exact E15, hO1.above.mono (by omega), hQ1.above.mono (by omega), icu3, icq1, by omega, fun h => by cases h⟩
        | some c =>
          rw [hmv, show og (some c) = c from rfl, show (some c).isSome = true from rfl] at k2
          have hc : LeastP c := madeV_least hpp hmv
          have hcp := hc.1
          have k3 : ∀ (w : World) (v : Value), ESl Ints w v c → Does Tryz.prog 38 [v] w (Ret w (str (txt c))) := fun w v h => by
            have := PictureText_ok w v _ h
            rwa [if_pos hcp] at this
          by_cases hcq : c = p
          · subst hcq
            have hnx : nextV c ⟨k, t, n⟩ = none := by unfold nextV; rw [hmv]; simp
            rw [hnx]
            simp only
            focus
              refine W_seq ?_; refine W_region rfl ?_; refine Wo_box rfl rfl rfl ?_; rintro b1 w1 hb3 E1 hB1; have hlb1 := hB1.lt; have hs1 := E1.size; refine Wo_box rfl rfl rfl ?_; rintro b2 w2 hb4 E2 hB2; have hlb2 := hB2.lt
              have hs2 := E2.size; refine Wo_alloc2 rfl flat28 ?_; rintro b3 w3 hb5 E3 hB3; have hlb3 := hB3.lt; have hs3 := E3.size; refine Wo rfl (opv_assign (v := .bool _) rfl) ?_; refine Wo_nil ?_; refine W_seq ?_; refine W_seq ?_
              refine W_region rfl ?_; refine Wo (v := .agg _) rfl (opv_load2 Tryz.isAgg28 Tryz.sizeOf28 rfl (hB1.ext (E2.trans E3))) ?_
              refine Wo_call rfl (opc1 (a := .agg _) Tryz.call7 rfl) (k0 _ ((Mono.mono ((E1.trans E2).trans E3) h1)) ((Mono.mono ((E1.trans E2).trans E3) h2))) ?_; rintro _ w4 ⟨rfl, E4⟩; have hs4 := E4.size; refine Wo rfl (opv_not rfl) ?_
              refine Wo_nil ?_; refine W_cond rfl (fun h3 => ?_) (fun h3 => ?_); contradiction; refine W_skip ?_; refine W_seq ?_; refine W_region rfl ?_
              refine Wo (v := .agg _) rfl (opv_load2 Tryz.isAgg28 Tryz.sizeOf28 rfl (hB1.ext ((E2.trans E3).trans E4))) ?_
              refine Wo_call rfl (opc1 (a := .agg _) Tryz.call82 rfl) (k1 _ ((Mono.mono (((E1.trans E2).trans E3).trans E4) h1)) ((Mono.mono (((E1.trans E2).trans E3).trans E4) h2))) ?_; rintro _ w5 ⟨u3, q1, m1, rfl, E5, hO1, hQ1, hm1, hn1⟩
              have icu3 := OwnedB.isC hO1; have cpu3 := OwnedB.capOk hO1; have icq1 := OwnedB.isC (Owned.toB hQ1); have cpq1 := OwnedB.capOk (Owned.toB hQ1); have hs5 := E5.size; refine Wo_alloc2 rfl flat28 ?_; rintro b4 w6 hb6 E6 hB4
              have hlb4 := hB4.lt; have hs6 := E6.size; refine Wo_st2 rfl Tryz.sizeOf28 rfl rfl (by first | rfl | assumption) (by first | rfl | assumption) hB4 (by omega) (((((E1.trans E2).trans E3).trans E4).trans E5).trans E6) ?_
              rintro w7 E7 hB4 K1 hz1; have E8 := ((((E2.trans E3).trans E4).trans E5).trans E6).wroteAt (((((E1.trans E2).trans E3).trans E4).trans E5).trans E6) E7 K1 hz1 (by omega); have szE8 := E8.size
              have E9 := (((E3.trans E4).trans E5).trans E6).wroteAt (((((E1.trans E2).trans E3).trans E4).trans E5).trans E6) E7 K1 hz1 (by omega); have szE9 := E9.size
              have E10 := ((E4.trans E5).trans E6).wroteAt (((((E1.trans E2).trans E3).trans E4).trans E5).trans E6) E7 K1 hz1 (by omega); have szE10 := E10.size
              have E11 := (E5.trans E6).wroteAt (((((E1.trans E2).trans E3).trans E4).trans E5).trans E6) E7 K1 hz1 (by omega); have szE11 := E11.size
              have E12 := E6.wroteAt (((((E1.trans E2).trans E3).trans E4).trans E5).trans E6) E7 K1 hz1 (by omega); have szE12 := E12.size; have hB1 := (hB1.ext ((((E2.trans E3).trans E4).trans E5).trans E6)).of_heap (K1 _ (by omega))
              have hB2 := (hB2.ext (((E3.trans E4).trans E5).trans E6)).of_heap (K1 _ (by omega)); have hB3 := (hB3.ext ((E4.trans E5).trans E6)).of_heap (K1 _ (by omega)); have hO1 := (hO1.ext E6).wrote K1 (by omega)
              have hQ1 := (hQ1.toB.ext E6).wrote K1 (by omega); refine Wo_nil ?_; refine W_seq ?_; refine W_seq ?_; refine W_region rfl ?_; refine Wo (v := .agg _) rfl (opv_load3 Tryz.isAgg75 Tryz.sizeOf75 rfl hB2) ?_
              refine Wo rfl (opv_build (ps := [(0, .int _ _)]) (cs := [_, _, _]) flat75 rfl rfl) ?_; refine Wo rfl (opv_eqD rfl rfl) ?_; refine Wo_split_dec rfl (opv_move (v := .bool _) rfl) (fun h4 => ?_) (fun h4 => ?_); contradiction
              refine Wo_skip rfl ?_; refine Wo_skip rfl ?_; refine Wo_skip rfl ?_; refine Wo_skip rfl ?_; refine Wo rfl (opv_pick_f (v := .bool _) rfl rfl) ?_; refine Wo_nil ?_; refine W_cond_false rfl ?_; refine W_skip ?_; refine W_seq ?_
              refine W_region rfl ?_; refine Wo rfl (opv_fieldAddr Tryz.underlying28 rfl rfl Tryz.sizeOf22 rfl) ?_; refine Wo (v := u1) rfl (opv_load Tryz.isAgg22 rfl (hB1.cell rfl)) ?_
              refine Wo (v := .agg _) rfl (opv_load3 Tryz.isAgg75 Tryz.sizeOf75 rfl hB2) ?_; refine Wo_call rfl (opc2 (a := u1) (b := .agg _) Tryz.call83 rfl rfl) (k2 _ ((Mono.mono E7 h1))) ?_; rintro _ w8 ⟨u4, rfl, E13, hO2⟩
              have ichO2 := OwnedB.isC (Owned.toB hO2); have hs7 := E13.size; refine Wo rfl (opv_move (v := .tuple _) rfl) ?_; refine Wo rfl (opv_extract (v := u4) rfl rfl) ?_; refine Wo rfl (opv_extract (v := .bool _) rfl rfl) ?_
              refine Wo rfl (opv_assign (v := u4) rfl) ?_; refine Wo rfl (opv_assign (v := .bool _) rfl) ?_; refine Wo_nil ?_; refine W_seq ?_; refine W_seq ?_; refine W_draw mixed (by kernel_rfl) rfl ?_
              refine Wq_o rfl (fun _ _ => opv_move (v := .bool _) rfl) ?_; refine Wq_o rfl (fun _ _ => opv_not rfl) ?_; refine Wq_split rfl (fun _ _ => opv_move (v := .bool _) rfl) (fun h5 => ?_) (fun h5 => ?_); contradiction
              refine Wq_o rfl (fun _ _ => opv_move (v := u4) rfl) ?_; refine Wq_o rfl (fun _ _ => opv_len Tryz.underlying22 rfl (Owned.read hO2)) ?_; refine Wq_o rfl (fun _ _ => opv_fieldAddr Tryz.underlying28 rfl rfl Tryz.sizeOf22 rfl) ?_
              refine Wq_o (v := u1) rfl (fun w' hw' => opv_load Tryz.isAgg22 rfl (((hB1.ext E13).ext hw').cell rfl)) ?_; refine Wq_o rfl (fun _ _ => opv_len Tryz.underlying22 rfl h1) ?_; refine Wq_o rfl (fun _ _ => opv_eql rfl rfl) ?_
              refine Wq_split_dec rfl (fun _ _ => opv_move (v := .bool _) rfl) (fun h6 => ?_) (fun h6 => ?_); refine Wq_o rfl (fun _ _ => opv_move (v := u4) rfl) ?_
              refine Wq_call rfl (fun _ _ => opc1 (a := u4) Tryz.call38 rfl) (fun w' hw' => (k3 _ _ ((Mono.mono hw' (Owned.read hO2))))) ?_; refine Wq_o rfl (fun _ _ => opv_fieldAddr Tryz.underlying28 rfl rfl Tryz.sizeOf22 rfl) ?_
              refine Wq_o (v := u1) rfl (fun w' hw' => opv_load Tryz.isAgg22 rfl (((hB1.ext E13).ext hw').cell rfl)) ?_
              refine Wq_call rfl (fun _ _ => opc1 (a := u1) Tryz.call38 rfl) (fun w' hw' => (k3 _ _ ((Mono.mono ((E7.trans E13).trans hw') h1)))) ?_; refine Wq_o rfl (fun _ _ => opv_eql_str rfl rfl) ?_
              refine Wq_o rfl (fun _ _ => opv_pick_t (v := .bool _) rfl rfl) ?_; refine Wq_o rfl (fun _ _ => opv_pick_f (v := .bool _) rfl rfl) ?_; refine Wq_nil (fun w9 E14 => ?_); have hs8 := E14.size
              refine W_cond_dec rfl (fun h7 => ?_) (fun h7 => ?_); refine W_seq ?_; refine W_region rfl ?_; refine Wo (v := .agg _) rfl (opv_load2 Tryz.isAgg28 Tryz.sizeOf28 rfl (hB4.ext (E13.trans E14))) ?_
              refine Wo_st2 rfl Tryz.sizeOf28 rfl rfl (by first | rfl | assumption) (by first | rfl | assumption) (hB3.ext (E13.trans E14)) (by omega) ((E7.trans E13).trans E14) ?_; rintro w10 E15 hB3 K2 hz2
              have E16 := ((E8.trans E13).trans E14).wroteAt ((E7.trans E13).trans E14) E15 K2 hz2 (by omega); have szE16 := E16.size; have E17 := ((E9.trans E13).trans E14).wroteAt ((E7.trans E13).trans E14) E15 K2 hz2 (by omega)
              have szE17 := E17.size; have hB4 := (hB4.ext (E13.trans E14)).of_heap (K2 _ (by omega)); have hB1 := (hB1.ext (E13.trans E14)).of_heap (K2 _ (by omega)); have hB2 := (hB2.ext (E13.trans E14)).of_heap (K2 _ (by omega))
              have hO1 := (hO1.ext (E13.trans E14)).wrote K2 (by omega); have hQ1 := (hQ1.ext (E13.trans E14)).wrote K2 (by omega); have hO2 := (hO2.toB.ext E14).wrote K2 (by omega); refine Wo rfl (opv_assign (v := .bool _) rfl) ?_
              refine Wo_nil ?_; refine W_ret ?_; rotate_left; contradiction; contradiction
            exact ⟨b3, u3, q1, rfl, hB3, u3, q1, rfl, by exact E15, hO1.above.mono (by omega), hQ1.above.mono (by omega), icu3, icq1, by omega, fun h => by cases h⟩
          · have hnx : nextV p ⟨k, t, n⟩ = some c := by unfold nextV; rw [hmv]; simp [hcq]
            rw [hnx]
            simp only
            have k4 : ∀ (w : World) (v : Value), ESl Ints w v p → Does Tryz.prog 38 [v] w (Ret w (str (txt p))) := fun w v h => by
              have := PictureText_ok w v _ h
              rwa [if_pos hpp] at this
            have htx : txt c ≠ txt p := fun e => hcq (txt_inj hcp.gr hpp.gr e)
            have stop12 : True := trivial
            focus
              refine W_seq ?_; refine W_region rfl ?_; refine Wo_box rfl rfl rfl ?_; rintro b1 w1 hb3 E1 hB1; have hlb1 := hB1.lt; have hs1 := E1.size; refine Wo_box rfl rfl rfl ?_; rintro b2 w2 hb4 E2 hB2; have hlb2 := hB2.lt
              have hs2 := E2.size; refine Wo_alloc2 rfl flat28 ?_; rintro b3 w3 hb5 E3 hB3; have hlb3 := hB3.lt; have hs3 := E3.size; refine Wo rfl (opv_assign (v := .bool _) rfl) ?_; refine Wo_nil ?_; refine W_seq ?_; refine W_seq ?_
              refine W_region rfl ?_; refine Wo (v := .agg _) rfl (opv_load2 Tryz.isAgg28 Tryz.sizeOf28 rfl (hB1.ext (E2.trans E3))) ?_
              refine Wo_call rfl (opc1 (a := .agg _) Tryz.call7 rfl) (k0 _ ((Mono.mono ((E1.trans E2).trans E3) h1)) ((Mono.mono ((E1.trans E2).trans E3) h2))) ?_; rintro _ w4 ⟨rfl, E4⟩; have hs4 := E4.size; refine Wo rfl (opv_not rfl) ?_
              refine Wo_nil ?_; refine W_cond rfl (fun h3 => ?_) (fun h3 => ?_); contradiction; refine W_skip ?_; refine W_seq ?_; refine W_region rfl ?_
              refine Wo (v := .agg _) rfl (opv_load2 Tryz.isAgg28 Tryz.sizeOf28 rfl (hB1.ext ((E2.trans E3).trans E4))) ?_
              refine Wo_call rfl (opc1 (a := .agg _) Tryz.call82 rfl) (k1 _ ((Mono.mono (((E1.trans E2).trans E3).trans E4) h1)) ((Mono.mono (((E1.trans E2).trans E3).trans E4) h2))) ?_; rintro _ w5 ⟨u3, q1, m1, rfl, E5, hO1, hQ1, hm1, hn1⟩
              have icu3 := OwnedB.isC hO1; have cpu3 := OwnedB.capOk hO1; have icq1 := OwnedB.isC (Owned.toB hQ1); have cpq1 := OwnedB.capOk (Owned.toB hQ1); have hs5 := E5.size; refine Wo_alloc2 rfl flat28 ?_; rintro b4 w6 hb6 E6 hB4
              have hlb4 := hB4.lt; have hs6 := E6.size; refine Wo_st2 rfl Tryz.sizeOf28 rfl rfl (by first | rfl | assumption) (by first | rfl | assumption) hB4 (by omega) (((((E1.trans E2).trans E3).trans E4).trans E5).trans E6) ?_
              rintro w7 E7 hB4 K1 hz1; have E8 := ((((E2.trans E3).trans E4).trans E5).trans E6).wroteAt (((((E1.trans E2).trans E3).trans E4).trans E5).trans E6) E7 K1 hz1 (by omega); have szE8 := E8.size
              have E9 := (((E3.trans E4).trans E5).trans E6).wroteAt (((((E1.trans E2).trans E3).trans E4).trans E5).trans E6) E7 K1 hz1 (by omega); have szE9 := E9.size
              have E10 := ((E4.trans E5).trans E6).wroteAt (((((E1.trans E2).trans E3).trans E4).trans E5).trans E6) E7 K1 hz1 (by omega); have szE10 := E10.size
              have E11 := (E5.trans E6).wroteAt (((((E1.trans E2).trans E3).trans E4).trans E5).trans E6) E7 K1 hz1 (by omega); have szE11 := E11.size
              have E12 := E6.wroteAt (((((E1.trans E2).trans E3).trans E4).trans E5).trans E6) E7 K1 hz1 (by omega); have szE12 := E12.size; have hB1 := (hB1.ext ((((E2.trans E3).trans E4).trans E5).trans E6)).of_heap (K1 _ (by omega))
              have hB2 := (hB2.ext (((E3.trans E4).trans E5).trans E6)).of_heap (K1 _ (by omega)); have hB3 := (hB3.ext ((E4.trans E5).trans E6)).of_heap (K1 _ (by omega)); have hO1 := (hO1.ext E6).wrote K1 (by omega)
              have hQ1 := (hQ1.toB.ext E6).wrote K1 (by omega); refine Wo_nil ?_; refine W_seq ?_; refine W_seq ?_; refine W_region rfl ?_; refine Wo (v := .agg _) rfl (opv_load3 Tryz.isAgg75 Tryz.sizeOf75 rfl hB2) ?_
              refine Wo rfl (opv_build (ps := [(0, .int _ _)]) (cs := [_, _, _]) flat75 rfl rfl) ?_; refine Wo rfl (opv_eqD rfl rfl) ?_; refine Wo_split_dec rfl (opv_move (v := .bool _) rfl) (fun h4 => ?_) (fun h4 => ?_); contradiction
              refine Wo_skip rfl ?_; refine Wo_skip rfl ?_; refine Wo_skip rfl ?_; refine Wo_skip rfl ?_; refine Wo rfl (opv_pick_f (v := .bool _) rfl rfl) ?_; refine Wo_nil ?_; refine W_cond_false rfl ?_; refine W_skip ?_; refine W_seq ?_
              refine W_region rfl ?_; refine Wo rfl (opv_fieldAddr Tryz.underlying28 rfl rfl Tryz.sizeOf22 rfl) ?_; refine Wo (v := u1) rfl (opv_load Tryz.isAgg22 rfl (hB1.cell rfl)) ?_
              refine Wo (v := .agg _) rfl (opv_load3 Tryz.isAgg75 Tryz.sizeOf75 rfl hB2) ?_; refine Wo_call rfl (opc2 (a := u1) (b := .agg _) Tryz.call83 rfl rfl) (k2 _ ((Mono.mono E7 h1))) ?_; rintro _ w8 ⟨u4, rfl, E13, hO2⟩
              have ichO2 := OwnedB.isC (Owned.toB hO2); have hs7 := E13.size; refine Wo rfl (opv_move (v := .tuple _) rfl) ?_; refine Wo rfl (opv_extract (v := u4) rfl rfl) ?_; refine Wo rfl (opv_extract (v := .bool _) rfl rfl) ?_
              refine Wo rfl (opv_assign (v := u4) rfl) ?_; refine Wo rfl (opv_assign (v := .bool _) rfl) ?_; refine Wo_nil ?_; refine W_seq ?_; refine W_seq ?_; refine W_draw mixed (by kernel_rfl) rfl ?_
              refine Wq_o rfl (fun _ _ => opv_move (v := .bool _) rfl) ?_; refine Wq_o rfl (fun _ _ => opv_not rfl) ?_; refine Wq_split rfl (fun _ _ => opv_move (v := .bool _) rfl) (fun h5 => ?_) (fun h5 => ?_); contradiction
              refine Wq_o rfl (fun _ _ => opv_move (v := u4) rfl) ?_; refine Wq_o rfl (fun _ _ => opv_len Tryz.underlying22 rfl (Owned.read hO2)) ?_; refine Wq_o rfl (fun _ _ => opv_fieldAddr Tryz.underlying28 rfl rfl Tryz.sizeOf22 rfl) ?_
              refine Wq_o (v := u1) rfl (fun w' hw' => opv_load Tryz.isAgg22 rfl (((hB1.ext E13).ext hw').cell rfl)) ?_; refine Wq_o rfl (fun _ _ => opv_len Tryz.underlying22 rfl h1) ?_; refine Wq_o rfl (fun _ _ => opv_eql rfl rfl) ?_
              refine Wq_split_dec rfl (fun _ _ => opv_move (v := .bool _) rfl) (fun h6 => ?_) (fun h6 => ?_); refine Wq_o rfl (fun _ _ => opv_move (v := u4) rfl) ?_
              refine Wq_call rfl (fun _ _ => opc1 (a := u4) Tryz.call38 rfl) (fun w' hw' => (k3 _ _ ((Mono.mono hw' (Owned.read hO2))))) ?_; refine Wq_o rfl (fun _ _ => opv_fieldAddr Tryz.underlying28 rfl rfl Tryz.sizeOf22 rfl) ?_
              refine Wq_o (v := u1) rfl (fun w' hw' => opv_load Tryz.isAgg22 rfl (((hB1.ext E13).ext hw').cell rfl)) ?_
              refine Wq_call rfl (fun _ _ => opc1 (a := u1) Tryz.call38 rfl) (fun w' hw' => (k4 _ _ ((Mono.mono ((E7.trans E13).trans hw') h1)))) ?_; refine Wq_o rfl (fun _ _ => opv_eql_str rfl rfl) ?_
              refine Wq_o rfl (fun _ _ => opv_pick_t (v := .bool _) rfl rfl) ?_; refine Wq_o rfl (fun _ _ => opv_pick_f (v := .bool _) rfl rfl) ?_; refine Wq_nil (fun w9 E14 => ?_); have hs8 := E14.size
              refine W_cond_dec rfl (fun h7 => ?_) (fun h7 => ?_); contradiction; refine W_skip ?_; refine W_seq ?_; rotate_left; refine Wq_skip rfl ?_; refine Wq_skip rfl ?_; refine Wq_skip rfl ?_; refine Wq_skip rfl ?_; refine Wq_skip rfl ?_
              refine Wq_skip rfl ?_; refine Wq_o rfl (fun _ _ => opv_pick_f (v := .bool _) rfl rfl) ?_; refine Wq_o rfl (fun _ _ => opv_pick_f (v := .bool _) rfl rfl) ?_; refine Wq_nil (fun w9 E14 => ?_); have hs8 := E14.size
              refine W_cond_false rfl ?_; refine W_skip ?_; refine W_seq ?_; rotate_left
            · clear stop12
              have stop13 : True := trivial
              have hQ0 := hQ1
              focus
                have szE14 := E14.size; have szE13 := E13.size; have szE12 := E12.size; have szE11 := E11.size; have szE10 := E10.size; have szE9 := E9.size; have szE8 := E8.size; have szE7 := E7.size; have szE6 := E6.size; have szE5 := E5.size
                have szE4 := E4.size; have szE3 := E3.size; have szE2 := E2.size; have szE1 := E1.size; refine W_region rfl ?_; refine Wo rfl (opv_fieldAddr Tryz.underlying28 rfl rfl Tryz.sizeOf23 rfl) ?_
                refine Wo (v := q1) rfl (opv_load Tryz.isAgg23 rfl ((hB4.ext (E13.trans E14)).cell rfl)) ?_; refine Wo rfl (opv_fieldAddr Tryz.underlying28 rfl rfl Tryz.sizeOf22 rfl) ?_
                refine Wo (v := u3) rfl (opv_load Tryz.isAgg22 rfl ((hB4.ext (E13.trans E14)).cell rfl)) ?_; refine Wo_buildSlice1 rfl Tryz.underlying23 Tryz.sizeOf22 Tryz.zeroValue22 rfl (OwnedB.isC (hO1.ext (E13.trans E14))) rfl ?_
                rintro b5 w10 hb7 E15 hB5 hHb5; have hlb5 := hB5.lt; have hs9 := E15.size
                refine Wo_app1r rfl el23 rfl rfl hB5 (hQ0.ext ((E13.trans E14).trans E15)) (hO1.ext ((E13.trans E14).trans E15)) (by first | omega | (simp <;> omega)) (by omega) (by omega) (((E7.trans E13).trans E14).trans E15) (by omega) ?_
                have hT1 := (hQ0.ext ((E13.trans E14).trans E15)); rintro v1 w11 hQ0 E16 M1; have E17 := M1.ext hT1 (((E8.trans E13).trans E14).trans E15) (by omega); have szE17 := E17.size
                have E18 := M1.ext hT1 (((E9.trans E13).trans E14).trans E15) (by omega); have szE18 := E18.size; have E19 := M1.ext hT1 (((E10.trans E13).trans E14).trans E15) (by omega); have szE19 := E19.size
                have E20 := M1.ext hT1 (((E11.trans E13).trans E14).trans E15) (by omega); have szE20 := E20.size; have hB4 := (hB4.ext ((E13.trans E14).trans E15)).moves M1 hT1 (by omega)
                have hB1 := (hB1.ext ((E13.trans E14).trans E15)).moves M1 hT1 (by omega); have hB2 := (hB2.ext ((E13.trans E14).trans E15)).moves M1 hT1 (by omega); have hB3 := (hB3.ext ((E13.trans E14).trans E15)).moves M1 hT1 (by omega)
                have hO1 := (hO1.ext ((E13.trans E14).trans E15)).moves M1 hT1 (by omega); have hO2 := (hO2.toB.ext (E14.trans E15)).moves M1 hT1 (by omega); have hB5 := hB5.moves M1 hT1 (by omega); have hs10 := E16.size; have szM1 := M1.1.size
                have icv1 := OwnedB.isC (Owned.toB hQ0); refine Wo rfl (opv_fieldAddr Tryz.underlying28 rfl rfl Tryz.sizeOf23 rfl) ?_; refine Wo_st (v := v1) rfl Tryz.sizeOf23 rfl rfl (OwnedB.isC hQ0.toB) hB4 (by simp) (by omega) E16 ?_
                rintro w12 E21 hB4 K2 hz2; have E22 := E17.wroteAt E16 E21 K2 hz2 (by omega); have szE22 := E22.size; have E23 := E18.wroteAt E16 E21 K2 hz2 (by omega); have szE23 := E23.size; have E24 := E19.wroteAt E16 E21 K2 hz2 (by omega)
                have szE24 := E24.size; have E25 := E20.wroteAt E16 E21 K2 hz2 (by omega); have szE25 := E25.size; simp only [List.set] at hB4; have hB1 := hB1.of_heap (K2 _ (by omega)); have hB2 := hB2.of_heap (K2 _ (by omega))
                have hB3 := hB3.of_heap (K2 _ (by omega)); have hO1 := hO1.wrote K2 (by omega); have hO2 := hO2.wrote K2 (by omega); have hB5 := hB5.of_heap (K2 _ (by omega)); refine Wo_nil ?_; refine W_seq ?_; refine W_seq ?_
              clear stop13
              have hM : Moves w10 q1 w11 v1 := M1
              have hne := hM.ne hQ1 (b := b4) (by omega) (by omega)
              have hown : ∀ k, v1.ownBlock = some k → k < w7.heap.size ∨ w8.heap.size ≤ k := fun k hk => by
                rcases hM.2 with e | ⟨g, e, hg⟩
                · rw [e] at hk; have := hQ1.lt_own hk; omega
                · rw [e] at hk; cases hk; omega
              clear hQ1
              obtain ⟨nb, nc, rfl, hnc⟩ := hQ0.lit (by simp)
              have hnl : (pp ++ [p]).length = pp.length + 1 := by simp
              rw [hnl] at hB4 hQ0 hne hnc hown
              focus
                have szE25 := E25.size; have szE24 := E24.size; have szE23 := E23.size; have szE22 := E22.size; have szE21 := E21.size; have szE20 := E20.size; have szE19 := E19.size; have szE18 := E18.size; have szE17 := E17.size
                have szE16 := E16.size; have szE15 := E15.size; have szE14 := E14.size; have szE13 := E13.size; have szE12 := E12.size; have szE11 := E11.size; have szE10 := E10.size; have szE9 := E9.size; have szE8 := E8.size; have szE7 := E7.size
                have szE6 := E6.size; have szE5 := E5.size; have szE4 := E4.size; have szE3 := E3.size; have szE2 := E2.size; have szE1 := E1.size; refine W_region rfl ?_; refine Wo rfl (opv_fieldAddr Tryz.underlying28 rfl rfl Tryz.sizeOf23 rfl) ?_
                refine Wo (v := .slice _ _ _) rfl (opv_load Tryz.isAgg23 rfl (hB4.cell rfl)) ?_; refine Wo rfl (opv_len Tryz.underlying23 rfl (Owned.read hQ0)) ?_; refine Wo rfl (opv_gtr rfl rfl) ?_; refine Wo_nil ?_
                refine W_cond_dec rfl (fun h8 => ?_) (fun h8 => ?_); refine W_region rfl ?_; refine Wo rfl (opv_fieldAddr Tryz.underlying28 rfl rfl Tryz.sizeOf23 rfl) ?_
                refine Wo (v := .slice _ _ _) rfl (opv_load Tryz.isAgg23 rfl (hB4.cell rfl)) ?_; refine Wo rfl (opv_slice_sl_lo Tryz.underlying23 Tryz.sizeOf22 rfl rfl (by omega)) ?_
                refine Wo rfl (opv_fieldAddr Tryz.underlying28 rfl rfl Tryz.sizeOf23 rfl) ?_; refine Wo_st (v := .slice _ _ _) rfl Tryz.sizeOf23 rfl rfl rfl hB4 (by simp) (by omega) E21 ?_; rintro w13 E26 hB4 K3 hz3
                have E27 := E22.wroteAt E21 E26 K3 hz3 (by omega); have szE27 := E27.size; have E28 := E23.wroteAt E21 E26 K3 hz3 (by omega); have szE28 := E28.size; have E29 := E24.wroteAt E21 E26 K3 hz3 (by omega); have szE29 := E29.size
                have E30 := E25.wroteAt E21 E26 K3 hz3 (by omega); have szE30 := E30.size; simp only [List.set] at hB4; have hB1 := hB1.of_heap (K3 _ (by omega)); have hB2 := hB2.of_heap (K3 _ (by omega)); have hB3 := hB3.of_heap (K3 _ (by omega))
                have hO1 := hO1.wrote K3 (by omega); have hO2 := hO2.wrote K3 (by omega); have hB5 := hB5.of_heap (K3 _ (by omega)); refine Wo_nil ?_; refine W_seq ?_; refine W_region rfl ?_; refine Wo rfl (opv_move (v := u4) rfl) ?_
                refine Wo rfl (opv_fieldAddr Tryz.underlying28 rfl rfl Tryz.sizeOf22 rfl) ?_; refine Wo_st (v := u4) rfl Tryz.sizeOf22 rfl rfl (OwnedB.isC hO2) hB4 (by simp) (by omega) E26 ?_; rintro w14 E31 hB4 K4 hz4
                have E32 := E27.wroteAt E26 E31 K4 hz4 (by omega); have szE32 := E32.size; have E33 := E28.wroteAt E26 E31 K4 hz4 (by omega); have szE33 := E33.size; have E34 := E29.wroteAt E26 E31 K4 hz4 (by omega); have szE34 := E34.size
                have E35 := E30.wroteAt E26 E31 K4 hz4 (by omega); have szE35 := E35.size; simp only [List.set] at hB4; have hB1 := hB1.of_heap (K4 _ (by omega)); have hB2 := hB2.of_heap (K4 _ (by omega)); have hB3 := hB3.of_heap (K4 _ (by omega))
                have hO1 := hO1.wrote K4 (by omega); have hO2 := hO2.wrote K4 (by omega); have hB5 := hB5.of_heap (K4 _ (by omega)); refine Wo_nil ?_; refine W_seq ?_; refine W_region rfl ?_
                refine Wo (v := .agg _) rfl (opv_load2 Tryz.isAgg28 Tryz.sizeOf28 rfl hB4) ?_; refine Wo_st2 rfl Tryz.sizeOf28 rfl rfl (by first | rfl | assumption) (by first | rfl | assumption) hB3 (by omega) E31 ?_; rintro w15 E36 hB3 K5 hz5
                have E37 := E32.wroteAt E31 E36 K5 hz5 (by omega); have szE37 := E37.size; have E38 := E33.wroteAt E31 E36 K5 hz5 (by omega); have szE38 := E38.size; have hB4 := hB4.of_heap (K5 _ (by omega))
                have hB1 := hB1.of_heap (K5 _ (by omega)); have hB2 := hB2.of_heap (K5 _ (by omega)); have hO1 := hO1.wrote K5 (by omega); have hO2 := hO2.wrote K5 (by omega); have hB5 := hB5.of_heap (K5 _ (by omega))
                refine Wo rfl (opv_assign (v := .bool _) rfl) ?_; refine Wo_nil ?_; refine W_ret ?_; rotate_left; refine W_skip ?_; refine W_seq ?_; refine W_region rfl ?_; refine Wo rfl (opv_move (v := u4) rfl) ?_
                refine Wo rfl (opv_fieldAddr Tryz.underlying28 rfl rfl Tryz.sizeOf22 rfl) ?_; refine Wo_st (v := u4) rfl Tryz.sizeOf22 rfl rfl (OwnedB.isC hO2) hB4 (by simp) (by omega) E21 ?_; rintro w13 E26 hB4 K3 hz3
                have E27 := E22.wroteAt E21 E26 K3 hz3 (by omega); have szE27 := E27.size; have E28 := E23.wroteAt E21 E26 K3 hz3 (by omega); have szE28 := E28.size; have E29 := E24.wroteAt E21 E26 K3 hz3 (by omega); have szE29 := E29.size
                have E30 := E25.wroteAt E21 E26 K3 hz3 (by omega); have szE30 := E30.size; simp only [List.set] at hB4; have hB1 := hB1.of_heap (K3 _ (by omega)); have hB2 := hB2.of_heap (K3 _ (by omega)); have hB3 := hB3.of_heap (K3 _ (by omega))
                have hO1 := hO1.wrote K3 (by omega); have hO2 := hO2.wrote K3 (by omega); have hB5 := hB5.of_heap (K3 _ (by omega)); refine Wo_nil ?_; refine W_seq ?_; refine W_region rfl ?_
                refine Wo (v := .agg _) rfl (opv_load2 Tryz.isAgg28 Tryz.sizeOf28 rfl hB4) ?_; refine Wo_st2 rfl Tryz.sizeOf28 rfl rfl (by first | rfl | assumption) (by first | rfl | assumption) hB3 (by omega) E26 ?_; rintro w14 E31 hB3 K4 hz4
                have E32 := E27.wroteAt E26 E31 K4 hz4 (by omega); have szE32 := E32.size; have E33 := E28.wroteAt E26 E31 K4 hz4 (by omega); have szE33 := E33.size; have hB4 := hB4.of_heap (K4 _ (by omega))
                have hB1 := hB1.of_heap (K4 _ (by omega)); have hB2 := hB2.of_heap (K4 _ (by omega)); have hO1 := hO1.wrote K4 (by omega); have hO2 := hO2.wrote K4 (by omega); have hB5 := hB5.of_heap (K4 _ (by omega))
                refine Wo rfl (opv_assign (v := .bool _) rfl) ?_; refine Wo_nil ?_; refine W_ret ?_; rotate_left
              · have hQ3 := (hQ0.wroteLt (w' := w15) (fun k h1 h2 => (K5 k (by omega)).trans ((K4 k h2).trans ((K3 k h2).trans (K2 k h2)))) (by omega) hne).above.mono (show w.heap.size ≤ w4.heap.size by omega)
                refine ⟨b3, u4, _, rfl, hB3, u4, _, rfl, by exact E36, hO2.above.mono (by omega), ?_, by assumption, rfl, by omega, fun _ h => absurd h (show ¬ pp.length < 8 by omega)⟩
                rw [show last8 (pp ++ [p]) = (pp ++ [p]).drop 1 from if_pos (by omega)]
                exact hQ3.dropS (by omega)
              · have hQ3 := (hQ0.wroteLt (w' := w14) (fun k h1 h2 => (K4 k (by omega)).trans ((K3 k h2).trans (K2 k h2))) (by omega) hne).above.mono (show w.heap.size ≤ w4.heap.size by omega)
                have hQ4 := hQ0.wroteLt (w' := w14) (fun k h1 h2 => (K4 k (by omega)).trans ((K3 k h2).trans (K2 k h2))) (by omega) hne
                rw [show last8 (pp ++ [p]) = pp ++ [p] from if_neg (by omega)]
                refine ⟨b3, u4, _, rfl, hB3, u4, _, rfl, by exact E31, hO2.above.mono (by omega), hQ3, by assumption, rfl, by omega, fun _ _ => ?_⟩
                exact (hQ4.dk hO2 (by omega) hown).wide (by omega) (Nat.le_refl _)
            · clear stop12
              have stop13 : True := trivial
              have hQ0 := hQ1
              focus
                have szE14 := E14.size; have szE13 := E13.size; have szE12 := E12.size; have szE11 := E11.size; have szE10 := E10.size; have szE9 := E9.size; have szE8 := E8.size; have szE7 := E7.size; have szE6 := E6.size; have szE5 := E5.size
                have szE4 := E4.size; have szE3 := E3.size; have szE2 := E2.size; have szE1 := E1.size; refine W_region rfl ?_; refine Wo rfl (opv_fieldAddr Tryz.underlying28 rfl rfl Tryz.sizeOf23 rfl) ?_
                refine Wo (v := q1) rfl (opv_load Tryz.isAgg23 rfl ((hB4.ext (E13.trans E14)).cell rfl)) ?_; refine Wo rfl (opv_fieldAddr Tryz.underlying28 rfl rfl Tryz.sizeOf22 rfl) ?_
                refine Wo (v := u3) rfl (opv_load Tryz.isAgg22 rfl ((hB4.ext (E13.trans E14)).cell rfl)) ?_; refine Wo_buildSlice1 rfl Tryz.underlying23 Tryz.sizeOf22 Tryz.zeroValue22 rfl (OwnedB.isC (hO1.ext (E13.trans E14))) rfl ?_
                rintro b5 w10 hb7 E15 hB5 hHb5; have hlb5 := hB5.lt; have hs9 := E15.size
                refine Wo_app1r rfl el23 rfl rfl hB5 (hQ0.ext ((E13.trans E14).trans E15)) (hO1.ext ((E13.trans E14).trans E15)) (by first | omega | (simp <;> omega)) (by omega) (by omega) (((E7.trans E13).trans E14).trans E15) (by omega) ?_
                have hT1 := (hQ0.ext ((E13.trans E14).trans E15)); rintro v1 w11 hQ0 E16 M1; have E17 := M1.ext hT1 (((E8.trans E13).trans E14).trans E15) (by omega); have szE17 := E17.size
                have E18 := M1.ext hT1 (((E9.trans E13).trans E14).trans E15) (by omega); have szE18 := E18.size; have E19 := M1.ext hT1 (((E10.trans E13).trans E14).trans E15) (by omega); have szE19 := E19.size
                have E20 := M1.ext hT1 (((E11.trans E13).trans E14).trans E15) (by omega); have szE20 := E20.size; have hB4 := (hB4.ext ((E13.trans E14).trans E15)).moves M1 hT1 (by omega)
                have hB1 := (hB1.ext ((E13.trans E14).trans E15)).moves M1 hT1 (by omega); have hB2 := (hB2.ext ((E13.trans E14).trans E15)).moves M1 hT1 (by omega); have hB3 := (hB3.ext ((E13.trans E14).trans E15)).moves M1 hT1 (by omega)
                have hO1 := (hO1.ext ((E13.trans E14).trans E15)).moves M1 hT1 (by omega); have hO2 := (hO2.toB.ext (E14.trans E15)).moves M1 hT1 (by omega); have hB5 := hB5.moves M1 hT1 (by omega); have hs10 := E16.size; have szM1 := M1.1.size
                have icv1 := OwnedB.isC (Owned.toB hQ0); refine Wo rfl (opv_fieldAddr Tryz.underlying28 rfl rfl Tryz.sizeOf23 rfl) ?_; refine Wo_st (v := v1) rfl Tryz.sizeOf23 rfl rfl (OwnedB.isC hQ0.toB) hB4 (by simp) (by omega) E16 ?_
                rintro w12 E21 hB4 K2 hz2; have E22 := E17.wroteAt E16 E21 K2 hz2 (by omega); have szE22 := E22.size; have E23 := E18.wroteAt E16 E21 K2 hz2 (by omega); have szE23 := E23.size; have E24 := E19.wroteAt E16 E21 K2 hz2 (by omega)
                have szE24 := E24.size; have E25 := E20.wroteAt E16 E21 K2 hz2 (by omega); have szE25 := E25.size; simp only [List.set] at hB4; have hB1 := hB1.of_heap (K2 _ (by omega)); have hB2 := hB2.of_heap (K2 _ (by omega))
                have hB3 := hB3.of_heap (K2 _ (by omega)); have hO1 := hO1.wrote K2 (by omega); have hO2 := hO2.wrote K2 (by omega); have hB5 := hB5.of_heap (K2 _ (by omega)); refine Wo_nil ?_; refine W_seq ?_; refine W_seq ?_
              clear stop13
              have hM : Moves w10 q1 w11 v1 := M1
              have hne := hM.ne hQ1 (b := b4) (by omega) (by omega)
              have hown : ∀ k, v1.ownBlock = some k → k < w7.heap.size ∨ w8.heap.size ≤ k := fun k hk => by
                rcases hM.2 with e | ⟨g, e, hg⟩
                · rw [e] at hk; have := hQ1.lt_own hk; omega
                · rw [e] at hk; cases hk; omega
              clear hQ1
              obtain ⟨nb, nc, rfl, hnc⟩ := hQ0.lit (by simp)
              have hnl : (pp ++ [p]).length = pp.length + 1 := by simp
              rw [hnl] at hB4 hQ0 hne hnc hown
              focus
                have szE25 := E25.size; have szE24 := E24.size; have szE23 := E23.size; have szE22 := E22.size; have szE21 := E21.size; have szE20 := E20.size; have szE19 := E19.size; have szE18 := E18.size; have szE17 := E17.size
                have szE16 := E16.size; have szE15 := E15.size; have szE14 := E14.size; have szE13 := E13.size; have szE12 := E12.size; have szE11 := E11.size; have szE10 := E10.size; have szE9 := E9.size; have szE8 := E8.size; have szE7 := E7.size
                have szE6 := E6.size; have szE5 := E5.size; have szE4 := E4.size; have szE3 := E3.size; have szE2 := E2.size; have szE1 := E1.size; refine W_region rfl ?_; refine Wo rfl (opv_fieldAddr Tryz.underlying28 rfl rfl Tryz.sizeOf23 rfl) ?_
                refine Wo (v := .slice _ _ _) rfl (opv_load Tryz.isAgg23 rfl (hB4.cell rfl)) ?_; refine Wo rfl (opv_len Tryz.underlying23 rfl (Owned.read hQ0)) ?_; refine Wo rfl (opv_gtr rfl rfl) ?_; refine Wo_nil ?_
                refine W_cond_dec rfl (fun h7 => ?_) (fun h7 => ?_); refine W_region rfl ?_; refine Wo rfl (opv_fieldAddr Tryz.underlying28 rfl rfl Tryz.sizeOf23 rfl) ?_
                refine Wo (v := .slice _ _ _) rfl (opv_load Tryz.isAgg23 rfl (hB4.cell rfl)) ?_; refine Wo rfl (opv_slice_sl_lo Tryz.underlying23 Tryz.sizeOf22 rfl rfl (by omega)) ?_
                refine Wo rfl (opv_fieldAddr Tryz.underlying28 rfl rfl Tryz.sizeOf23 rfl) ?_; refine Wo_st (v := .slice _ _ _) rfl Tryz.sizeOf23 rfl rfl rfl hB4 (by simp) (by omega) E21 ?_; rintro w13 E26 hB4 K3 hz3
                have E27 := E22.wroteAt E21 E26 K3 hz3 (by omega); have szE27 := E27.size; have E28 := E23.wroteAt E21 E26 K3 hz3 (by omega); have szE28 := E28.size; have E29 := E24.wroteAt E21 E26 K3 hz3 (by omega); have szE29 := E29.size
                have E30 := E25.wroteAt E21 E26 K3 hz3 (by omega); have szE30 := E30.size; simp only [List.set] at hB4; have hB1 := hB1.of_heap (K3 _ (by omega)); have hB2 := hB2.of_heap (K3 _ (by omega)); have hB3 := hB3.of_heap (K3 _ (by omega))
                have hO1 := hO1.wrote K3 (by omega); have hO2 := hO2.wrote K3 (by omega); have hB5 := hB5.of_heap (K3 _ (by omega)); refine Wo_nil ?_; refine W_seq ?_; refine W_region rfl ?_; refine Wo rfl (opv_move (v := u4) rfl) ?_
                refine Wo rfl (opv_fieldAddr Tryz.underlying28 rfl rfl Tryz.sizeOf22 rfl) ?_; refine Wo_st (v := u4) rfl Tryz.sizeOf22 rfl rfl (OwnedB.isC hO2) hB4 (by simp) (by omega) E26 ?_; rintro w14 E31 hB4 K4 hz4
                have E32 := E27.wroteAt E26 E31 K4 hz4 (by omega); have szE32 := E32.size; have E33 := E28.wroteAt E26 E31 K4 hz4 (by omega); have szE33 := E33.size; have E34 := E29.wroteAt E26 E31 K4 hz4 (by omega); have szE34 := E34.size
                have E35 := E30.wroteAt E26 E31 K4 hz4 (by omega); have szE35 := E35.size; simp only [List.set] at hB4; have hB1 := hB1.of_heap (K4 _ (by omega)); have hB2 := hB2.of_heap (K4 _ (by omega)); have hB3 := hB3.of_heap (K4 _ (by omega))
                have hO1 := hO1.wrote K4 (by omega); have hO2 := hO2.wrote K4 (by omega); have hB5 := hB5.of_heap (K4 _ (by omega)); refine Wo_nil ?_; refine W_seq ?_; refine W_region rfl ?_
                refine Wo (v := .agg _) rfl (opv_load2 Tryz.isAgg28 Tryz.sizeOf28 rfl hB4) ?_; refine Wo_st2 rfl Tryz.sizeOf28 rfl rfl (by first | rfl | assumption) (by first | rfl | assumption) hB3 (by omega) E31 ?_; rintro w15 E36 hB3 K5 hz5
                have E37 := E32.wroteAt E31 E36 K5 hz5 (by omega); have szE37 := E37.size; have E38 := E33.wroteAt E31 E36 K5 hz5 (by omega); have szE38 := E38.size; have hB4 := hB4.of_heap (K5 _ (by omega))
                have hB1 := hB1.of_heap (K5 _ (by omega)); have hB2 := hB2.of_heap (K5 _ (by omega)); have hO1 := hO1.wrote K5 (by omega); have hO2 := hO2.wrote K5 (by omega); have hB5 := hB5.of_heap (K5 _ (by omega))
                refine Wo rfl (opv_assign (v := .bool _) rfl) ?_; refine Wo_nil ?_; refine W_ret ?_; rotate_left; refine W_skip ?_; refine W_seq ?_; refine W_region rfl ?_; refine Wo rfl (opv_move (v := u4) rfl) ?_
                refine Wo rfl (opv_fieldAddr Tryz.underlying28 rfl rfl Tryz.sizeOf22 rfl) ?_; refine Wo_st (v := u4) rfl Tryz.sizeOf22 rfl rfl (OwnedB.isC hO2) hB4 (by simp) (by omega) E21 ?_; rintro w13 E26 hB4 K3 hz3
                have E27 := E22.wroteAt E21 E26 K3 hz3 (by omega); have szE27 := E27.size; have E28 := E23.wroteAt E21 E26 K3 hz3 (by omega); have szE28 := E28.size; have E29 := E24.wroteAt E21 E26 K3 hz3 (by omega); have szE29 := E29.size
                have E30 := E25.wroteAt E21 E26 K3 hz3 (by omega); have szE30 := E30.size; simp only [List.set] at hB4; have hB1 := hB1.of_heap (K3 _ (by omega)); have hB2 := hB2.of_heap (K3 _ (by omega)); have hB3 := hB3.of_heap (K3 _ (by omega))
                have hO1 := hO1.wrote K3 (by omega); have hO2 := hO2.wrote K3 (by omega); have hB5 := hB5.of_heap (K3 _ (by omega)); refine Wo_nil ?_; refine W_seq ?_; refine W_region rfl ?_
                refine Wo (v := .agg _) rfl (opv_load2 Tryz.isAgg28 Tryz.sizeOf28 rfl hB4) ?_; refine Wo_st2 rfl Tryz.sizeOf28 rfl rfl (by first | rfl | assumption) (by first | rfl | assumption) hB3 (by omega) E26 ?_; rintro w14 E31 hB3 K4 hz4
                have E32 := E27.wroteAt E26 E31 K4 hz4 (by omega); have szE32 := E32.size; have E33 := E28.wroteAt E26 E31 K4 hz4 (by omega); have szE33 := E33.size; have hB4 := hB4.of_heap (K4 _ (by omega))
                have hB1 := hB1.of_heap (K4 _ (by omega)); have hB2 := hB2.of_heap (K4 _ (by omega)); have hO1 := hO1.wrote K4 (by omega); have hO2 := hO2.wrote K4 (by omega); have hB5 := hB5.of_heap (K4 _ (by omega))
                refine Wo rfl (opv_assign (v := .bool _) rfl) ?_; refine Wo_nil ?_; refine W_ret ?_; rotate_left
              · have hQ3 := (hQ0.wroteLt (w' := w15) (fun k h1 h2 => (K5 k (by omega)).trans ((K4 k h2).trans ((K3 k h2).trans (K2 k h2)))) (by omega) hne).above.mono (show w.heap.size ≤ w4.heap.size by omega)
                refine ⟨b3, u4, _, rfl, hB3, u4, _, rfl, by exact E36, hO2.above.mono (by omega), ?_, by assumption, rfl, by omega, fun _ h => absurd h (show ¬ pp.length < 8 by omega)⟩
                rw [show last8 (pp ++ [p]) = (pp ++ [p]).drop 1 from if_pos (by omega)]
                exact hQ3.dropS (by omega)
              · have hQ3 := (hQ0.wroteLt (w' := w14) (fun k h1 h2 => (K4 k (by omega)).trans ((K3 k h2).trans (K2 k h2))) (by omega) hne).above.mono (show w.heap.size ≤ w4.heap.size by omega)
                have hQ4 := hQ0.wroteLt (w' := w14) (fun k h1 h2 => (K4 k (by omega)).trans ((K3 k h2).trans (K2 k h2))) (by omega) hne
                rw [show last8 (pp ++ [p]) = pp ++ [p] from if_neg (by omega)]
                refine ⟨b3, u4, _, rfl, hB3, u4, _, rfl, by exact E31, hO2.above.mono (by omega), hQ3, by assumption, rfl, by omega, fun _ _ => ?_⟩
                exact (hQ4.dk hO2 (by omega) hown).wide (by omega) (Nat.le_refl _)
  · have k0 : ∀ w, ESl Ints w u1 p → ESl (ESl Ints) w u2 pp → Does Tryz.prog 7 [.agg #[u1, u2]] w (Ret w (.bool false)) := fun w h1 h2 => by
      have := spec_DeskOk_ok w u1 u2 ⟨p, pp⟩ h1 h2; rwa [decide_eq_false hd] at this
    rw [if_neg hd, if_neg hd, decide_eq_false hd, Bool.false_and]
    focus
      refine W_seq ?_; refine W_region rfl ?_; refine Wo_box rfl rfl rfl ?_; rintro b1 w1 hb1 E1 hB1; have hlb1 := hB1.lt; have hs1 := E1.size; refine Wo_box rfl rfl rfl ?_; rintro b2 w2 hb2 E2 hB2; have hlb2 := hB2.lt
      have hs2 := E2.size; refine Wo_alloc2 rfl flat28 ?_; rintro b3 w3 hb3 E3 hB3; have hlb3 := hB3.lt; have hs3 := E3.size; refine Wo rfl (opv_assign (v := .bool _) rfl) ?_; refine Wo_nil ?_; refine W_seq ?_; refine W_seq ?_
      refine W_region rfl ?_; refine Wo (v := .agg _) rfl (opv_load2 Tryz.isAgg28 Tryz.sizeOf28 rfl (hB1.ext (E2.trans E3))) ?_
      refine Wo_call rfl (opc1 (a := .agg _) Tryz.call7 rfl) (k0 _ ((Mono.mono ((E1.trans E2).trans E3) h1)) ((Mono.mono ((E1.trans E2).trans E3) h2))) ?_; rintro _ w4 ⟨rfl, E4⟩; have hs4 := E4.size; refine Wo rfl (opv_not rfl) ?_
      refine Wo_nil ?_; refine W_cond rfl (fun h3 => ?_) (fun h3 => ?_); refine W_seq ?_; refine W_region rfl ?_; refine Wo rfl (opv_build (ps := []) (cs := [_, _]) flat28 rfl rfl) ?_
      refine Wo_st2 rfl Tryz.sizeOf28 rfl rfl (by first | rfl | assumption) (by first | rfl | assumption) (hB3.ext E4) (by omega) (((E1.trans E2).trans E3).trans E4) ?_; rintro w5 E5 hB3 K1 hz1
      have E6 := ((E2.trans E3).trans E4).wroteAt (((E1.trans E2).trans E3).trans E4) E5 K1 hz1 (by omega); have szE6 := E6.size; have E7 := (E3.trans E4).wroteAt (((E1.trans E2).trans E3).trans E4) E5 K1 hz1 (by omega)
      have szE7 := E7.size; have hB1 := (hB1.ext ((E2.trans E3).trans E4)).of_heap (K1 _ (by omega)); have hB2 := (hB2.ext (E3.trans E4)).of_heap (K1 _ (by omega)); refine Wo rfl (opv_assign (v := .bool _) rfl) ?_; refine Wo_nil ?_
      refine W_ret ?_; rotate_left; contradiction
    exact ⟨b3, _, _, rfl, hB3, _, _, rfl, by exact E5, (Owned.nil (e := 0) (X := XSl 0 XInt)).above, (Owned.nil (e := 0) (X := XSl 0 (XSl 0 XInt))).above, rfl, rfl, by omega, fun h => by cases h⟩

end Go.Proofs.YtgphoihilheoeaaGreatDoor
set_option linter.unusedVariables false
set_option linter.unusedSimpArgs false
namespace Go.Hs
open Go.RowKit (Below)
/-- the cells of deeds -/
def dcs (l : List Deed) : List Value := l.flatMap fun a => [.int .i64 a.kind, str a.text, .int .i64 a.node]
theorem dcs_at : ∀ (l : List Deed) (i : Nat) (h : i < l.length), (dcs l)[i * 3]? = some (.int .i64 l[i].kind) ∧ (dcs l)[i * 3 + 1]? = some (str l[i].text) ∧ (dcs l)[i * 3 + 2]? = some (.int .i64 l[i].node)
  | a :: l, 0, _ => ⟨rfl, rfl, rfl⟩
  | a :: l, i + 1, h => by
    have := dcs_at l i (by simpa using h)
    simp only [List.getElem_cons_succ]
    have e : dcs (a :: l) = [.int .i64 a.kind, str a.text, .int .i64 a.node] ++ dcs l := rfl
    have e1 : (i + 1) * 3 = i * 3 + 3 := by omega
    rw [e, e1]
    refine ⟨?_, ?_, ?_⟩
    · rw [List.getElem?_append_right (by simp)]; simpa using this.1
    · rw [List.getElem?_append_right (by simp)]; simpa using this.2.1
    · rw [List.getElem?_append_right (by simp)]; simpa using this.2.2
/-- a slice of deeds of the call's own, its block from lo on -/
def OD (e : TypeId) (lo : Nat) (w : World) (v : Value) (l : List Deed) : Prop := w.ownsRow lo e 3 v l.length (dcs l) ∧ ∀ a ∈ l, a.text.length ≤ 9223372036854775807
section
variable {e : TypeId} {lo : Nat} {w w' w0 : World} {v : Value} {l m : List Deed}
theorem OD.ext (h : OD e lo w v l) (k : Ext w w') : OD e lo w' v l :=
  ⟨h.1.kept (row := none) ⟨k.os, k.tape, k.output, k.size, fun i hi _ => k.block i hi⟩ (by cases hv : v.ownBlock <;> simp), h.2⟩
instance : Mono (OD e lo) := ⟨fun k h => h.ext k⟩
theorem OD.nil : OD e lo w (.slice none 0 0) [] := ⟨World.ownsRow_nil w lo e 3, fun a h => by cases h⟩
theorem OD.lt (h : OD e lo w v l) {k : Nat} (hk : v.ownBlock = some k) : lo ≤ k ∧ k < w.heap.size := h.1.lt k hk
theorem OD.read (h : OD e lo w v l) : ESD w v l := by
  have hA := h.1.2
  rcases hA with ⟨rfl, h0⟩ | ⟨g, cap, cur, rfl, hb, hg, hnc, hcm, hcs, ht⟩
  · have : l = [] := List.eq_nil_of_length_eq_zero h0
    subst this
    exact ⟨none, 0, rfl, by simp, .inl rfl⟩
  · refine ⟨_, _, rfl, by unfold maxLen at hcm; omega, .inr ⟨g, 0, rfl, fun i hi => ?_⟩⟩
    obtain ⟨h1, h2, h3⟩ := dcs_at l i hi
    have c0 := h.1.cellAt (i * 3) (by omega)
    have c1 := h.1.cellAt (i * 3 + 1) (by omega)
    have c2 := h.1.cellAt (i * 3 + 2) (by omega)
    rw [Nat.zero_add]
    exact ⟨c0.trans h1, c1.trans h2, c2.trans h3, h.2 _ (List.getElem_mem hi)⟩
end
/-- a slice of deeds: what the program tells of its types -/
structure ElD (P : Program) (t e : TypeId) : Prop where
  und : P.underlying t = some (.slice e)
  info : ∃ i, P.info? e = some i ∧ i.zero = some (.agg #[.int .i64 0, str [], .int .i64 0]) ∧ i.size = 3 ∧ i.bytes ≤ 64
  size : ∀ w, (sizeOf e).run P w = .ok 3 w
  zero : ∀ w, (zeroValue e).run P w = .ok (.agg #[.int .i64 0, str [], .int .i64 0]) w
theorem ElD.of {P : Program} {t e : TypeId} (hu : P.underlying t = some (.slice e)) (h : (P.info? e).map (fun i => (i.zero, i.size, Nat.ble i.bytes 64)) = some (some (.agg #[.int .i64 0, str [], .int .i64 0]), 3, true))
    (hs : ∀ w, (sizeOf e).run P w = .ok 3 w) (hz : ∀ w, (zeroValue e).run P w = .ok (.agg #[.int .i64 0, str [], .int .i64 0]) w) : ElD P t e := by
  refine ⟨hu, ?_, hs, hz⟩
  cases hi : P.info? e with
  | none => rw [hi] at h; cases h
  | some i =>
    rw [hi] at h
    simp only [Option.map_some, Option.some.injEq, Prod.mk.injEq] at h
    exact ⟨i, rfl, h.1, h.2.1, by simpa using h.2.2⟩
section
variable {P : Program} {n : Nat} {N : Env → World → Prop} {ρ : Env} {w w0 : World} {all : Array Oper} {rest : List Oper} {d : Nat} {ty t el : TypeId} {pos : String} {after : Array Edge} {g : Option (Nat × Bool)} {x y z s : Operand} {v : Value} {l m : List Deed} {lo : Nat} {a1 a2 a3 : Deed}
end
end Go.Hs
set_option linter.unusedVariables false
set_option linter.unusedSimpArgs false
namespace Go.Hs
/-- an own slice of deeds, its blocks told -/
def XD (e : TypeId) : World → List Nat → Value → List Deed → Prop := fun w fp v l => w.ownsRow 0 e 3 v l.length (dcs l) ∧ fp = v.ownBlock.toList ∧ ∀ a ∈ l, a.text.length ≤ 9223372036854775807
section
variable {e : TypeId} {lo hi : Nat} {w w' w0 w1 : World} {v : Value} {l m : List Deed} {br gb k : Nat}
instance loc_XD : Loc (XD e) := ⟨by
    rintro w w' fp v l hk ⟨h1, rfl, h3⟩
    refine ⟨⟨h1.1, ?_⟩, rfl, h3⟩
    rcases h1.2 with hn | ⟨g, cap, cur, rfl, hb, hg, rest⟩
    · exact .inl hn
    · exact .inr ⟨g, cap, cur, rfl, hb, by rw [hk g (by simp [Value.ownBlock])]; exact hg, rest⟩, by
    rintro w fp v l ⟨h1, rfl, h3⟩ k hk
    exact (h1.lt k (by simpa using hk)).2, by
    rintro w fp v l ⟨h1, rfl, h3⟩
    rcases h1.2 with ⟨rfl, _⟩ | ⟨g, cap, cur, rfl, _⟩ <;> rfl⟩
instance shows_XD : Shows (XD e) ESD := ⟨fun {w fp v l} h => by
  obtain ⟨h3, rfl, h5⟩ := h
  exact OD.read (e := e) (lo := 0) ⟨h3, h5⟩⟩
theorem Rdr.beside {m : Nat} (h : Rdr w0 w br m) (g : w.grownBy w' (some gb)) (hne : gb ≠ br) (hg : w0.heap.size ≤ gb) : Rdr w0 w' br m := by
  obtain ⟨h1, h2, h3, vb, bs, p, h4, h5, h6, h7⟩ := h
  exact ⟨(Only.grownBy (fp := [gb]) g (fun k hk => by simp at hk; simp [hk])).ext h1 (fun k hk => by simp at hk; omega), h2, Nat.lt_of_lt_of_le h3 g.size, vb, bs, p, h4, h5, h6.of_heap (g.block br h3 (by simp; omega)), h7⟩
theorem grownBy_beside (h : w1.grownBy w (some br)) (g : w.grownBy w' (some gb)) (hb : w1.heap.size ≤ gb) : w1.grownBy w' (some br) :=
  ⟨g.os.trans h.os, g.tape.trans h.tape, g.output.trans h.output, Nat.le_trans h.size g.size, fun j hj hr => (g.block j (Nat.lt_of_lt_of_le hj h.size) (by simp; omega)).trans (h.block j hj hr)⟩
theorem Ext.beside (h : Ext w0 w) (g : w.grownBy w' (some gb)) (hg : w0.heap.size ≤ gb) : Ext w0 w' := (Only.grownBy (fp := [gb]) g (fun k hk => by simp at hk; simp [hk])).ext h (fun k hk => by simp at hk; omega)
end
section
variable {P : Program} {n : Nat} {N : Env → World → Prop} {ρ : Env} {w w0 : World} {all : Array Oper} {rest : List Oper} {d : Nat} {ty t el : TypeId} {pos : String} {after : Array Edge} {g : Option (Nat × Bool)} {x y z s : Operand} {v : Value} {l m : List Deed} {lo hi : Nat}
end
end Go.Hs
namespace Go.Proofs.YtgphoihilheoeaaGreatDoor
open Go.Hs
set_option maxRecDepth 10000
set_option maxHeartbeats 4000000
set_option linter.unusedVariables false
set_option linter.unusedSimpArgs false

/-- a desk under the draws' hand -/
def DIn (d : Dsk) : Prop := d = ⟨[], []⟩ ∨ DkOk d
theorem DIn.now {d : Dsk} (h : DIn d) : NowP d.now := by
  rcases h with rfl | h
  · exact .inl rfl
  · exact .inr h.1.1.gr
open Classical in
theorem DIn.do {d : Dsk} (h : DIn d) (a : Deed) : DIn ⟨if DkOk d then (doV d a).1.now else [], if DkOk d then (doV d a).1.past else []⟩ := by
  by_cases hd : DkOk d
  · rw [if_pos hd, if_pos hd]; exact .inr (doV_ok hd)
  · rw [if_neg hd, if_neg hd]; exact .inl rfl
open Classical in
theorem DIn.len {d : Dsk} (a : Deed) : (if DkOk d then (doV d a).1.past else []).length ≤ d.past.length + 1 := by
  by_cases hd : DkOk d
  · rw [if_pos hd]
    unfold doV
    split
    · simp; omega
    · split
      · unfold last8; split <;> simp <;> omega
      · simp
  · rw [if_neg hd]; simp
theorem gr00 : Gr [[0, 0], [0, 0]] := ⟨by decide, by decide, fun r hr => by
  have : r = [0, 0] := by simpa using hr
  subst this
  exact ⟨rfl, fun x hx => by left; simpa using hx⟩⟩
open Classical in
theorem DeskN_ok {w0 : World} (w : World) {br m n : Nat} (hr : Rdr w0 w br m) (hm : m ≤ 1000000) (hn : 1 ≤ n ∧ n ≤ 1000) :
    Does Tryz.prog 36 [.pointer (some ⟨br, 0, none⟩), .int .i64 (n : Int)] w (RetDK w0 w br (m + 140) (fun d => NowP d.now)) := by
  refine fn_of_Wc Tryz.func36 rfl Tryz.results36 Tryz.ntmps36 rfl Tryz.isAgg28 Tryz.sizeOf28 ?_
  have hG : w.grownBy w (some br) := grownBy_refl _ _
  have hlr := hr.lt
  have hgr := hr.ge
  have E0 := hr.old
  have k1 := fun (w : World) (v : Value) (p : List (List Int)) (h : ESl Ints w v p) (z : Int) => spec_DeskNew_ok w v p h z
  have litown : True := trivial
  have stop3 : True := trivial
  focus
    have szE0 := E0.size; refine W_seq ?_; refine W_region rfl ?_; refine Wo_alloc2 rfl flat28 ?_; rintro b1 w1 hb1 E1 hB1; have hlb1 := hB1.lt; have hr := hr.ext E1; have hG := grownBy_ext hG E1; have hs1 := E1.size; refine Wo_nil ?_
    refine W_seq ?_; refine W_region rfl ?_; refine Wo rfl (opv_move (v := .pointer _) rfl) ?_; refine Wo_call rfl (opc2 (a := .pointer _) (b := .int _ _) Tryz.call61 rfl rfl) (Twin_ok _ _ (by assumption) (by omega) (by omega)) ?_
    rintro u1 w2 ⟨E2, hr1, x1, hO1, hy1⟩; (try dsimp only at hy1); have hlhr1 := hr1.lt; have Ehr1 := hr1.old; have hB1 := hB1.grown E2 (by simp only [ne_eq, Option.some.injEq]; omega); have hG := grownBy_trans hG E2
    have hs2 := E2.size; refine Wo rfl (opv_assign (v := u1) rfl) ?_; refine Wo_nil ?_; refine W_seq ?_; refine W_region rfl ?_; refine Wo rfl (opv_move (v := u1) rfl) ?_; refine Wo rfl (opv_move (v := .pointer _) rfl) ?_
    refine Wo rfl (opv_move (v := u1) rfl) ?_; refine Wo rfl (opv_len Tryz.underlying22 rfl (Owned.read hO1)) ?_
    refine Wo_call rfl (opc2 (a := .pointer _) (b := .int _ _) Tryz.call46 rfl rfl) (pick_ok _ _ (by assumption) (by omega)) ?_; rintro _ w3 ⟨y1, rfl, E3, hr2, hy2⟩; (try dsimp only at hy2); have hlhr2 := hr2.lt; have Ehr2 := hr2.old
    have hO1 := hO1.toB.grown E3 (by omega); have hB1 := hB1.grown E3 (by simp only [ne_eq, Option.some.injEq]; omega); have hG := grownBy_trans hG E3; have hs3 := E3.size
    refine Wo_call rfl (opc2 (a := u1) (b := .int _ _) Tryz.call13 rfl rfl) (k1 _ _ _ ((OwnedB.read hO1)) _) ?_; rintro _ w4 ⟨u2, q1, m1, rfl, E4, hO2, hQ1, hm1, hn1⟩; have icu2 := OwnedB.isC hO2; have cpu2 := OwnedB.capOk hO2
    have icq1 := OwnedB.isC (Owned.toB hQ1); have cpq1 := OwnedB.capOk (Owned.toB hQ1); have hr2 := hr2.ext E4; have hG := grownBy_ext hG E4; have hs4 := E4.size; refine Wo rfl (opv_move (v := .tuple _) rfl) ?_
    refine Wo rfl (opv_extract (v := .agg _) rfl rfl) ?_; refine Wo rfl (opv_extract (v := .bool _) rfl rfl) ?_; refine Wo_alloc2 rfl flat28 ?_; rintro b2 w5 hb2 E5 hB2; have hlb2 := hB2.lt; have hr2 := hr2.ext E5
    have hG := grownBy_ext hG E5; have hs5 := E5.size; refine Wo_st2 rfl Tryz.sizeOf28 rfl rfl (by first | rfl | assumption) (by first | rfl | assumption) hB2 (by omega) ((Ehr2.trans E4).trans E5) ?_; rintro w6 E6 hB2 K1 hz1
    have E7 := (E4.trans E5).wroteAt ((Ehr2.trans E4).trans E5) E6 K1 hz1 (by omega); have szE7 := E7.size; have E8 := E5.wroteAt ((Ehr2.trans E4).trans E5) E6 K1 hz1 (by omega); have szE8 := E8.size
    have hO1 := (hO1.ext (E4.trans E5)).wrote K1 (by omega); have hB1 := (hB1.ext (E4.trans E5)).of_heap (K1 _ (by omega)); have hO2 := (hO2.ext E5).wrote K1 (by omega); have hQ1 := (hQ1.toB.ext E5).wrote K1 (by omega)
    have hr2 := hr2.wrote E6 (K1 _ (by omega)) hz1; have hG := grownBy_wrote hG ((Ehr2.trans E4).trans E5) E6 K1 hz1 (by first | exact .inr rfl | omega); refine Wo rfl (opv_assign (v := .bool _) rfl) ?_; refine Wo_nil ?_
    refine W_seq ?_; refine W_seq ?_
  clear stop3
  have i1 := icu2
  have i2 := icq1
  have hX := hQ1.dk hO2 (lo' := w3.heap.size) (hi' := w4.heap.size) (by omega) (fun k hk => .inr (hQ1.lt_own hk).1)
  have hd : DIn ⟨if Nod x1 (y1 : Int) then lst x1 (y1 : Int).toNat else [], []⟩ := by
    by_cases hz : Nod x1 (y1 : Int)
    · rw [if_pos hz]
      have hl : (y1 : Int).toNat < x1.length := by have := hz.2; omega
      exact .inr ⟨LeastP.lst hz.1.gr hl (Nat.le_trans (lst_le hz.1.gr hl) hz.1.2.1), by simp, fun p hp => by cases hp⟩
    · rw [if_neg hz]; exact .inl rfl
  generalize (if Nod x1 (y1 : Int) then lst x1 (y1 : Int).toNat else []) = now at *
  generalize hpast : ([] : List (List (List Int))) = past at hX hd
  have hpl : past.length = 0 := by rw [← hpast]; rfl
  clear hO1 hO2 hQ1
  focus
    have szE8 := E8.size; have szE7 := E7.size; have szE6 := E6.size; have szE5 := E5.size; have szE4 := E4.size; have szEhr2 := Ehr2.size; have szEhr1 := Ehr1.size; have szE1 := E1.size; have szE0 := E0.size; refine W_region rfl ?_
    refine Wo rfl (opv_move (v := .pointer _) rfl) ?_; refine Wo_call rfl (opc2 (a := .pointer _) (b := .int _ _) Tryz.call46 rfl rfl) (pick_ok _ _ (by assumption) (by omega)) ?_; rintro _ w7 ⟨y2, rfl, E9, hr3, hy3⟩
    (try dsimp only at hy3); have hlhr3 := hr3.lt; have Ehr3 := hr3.old; have hO1 := (hO1.ext E7).grown E9 (by omega); have hQ1 := (hQ1.toB.ext E8).grown E9 (by omega)
    have hB2 := hB2.grown E9 (by simp only [ne_eq, Option.some.injEq]; omega); have hB1 := hB1.grown E9 (by simp only [ne_eq, Option.some.injEq]; omega); have hG := grownBy_trans hG E9; have hO2 := (hO2.ext E8).grown E9 (by omega)
    have hX := hX.grown E9 (by omega); have hs6 := E9.size; refine Wo rfl (opv_assign (v := .int _ _) rfl) ?_; refine Wo_nil ?_; refine W_block ?_
  have hy2' := hy3 (by omega)
  refine W_loop [8, 9, 10, 24, 25, 26, 27, 28, 29, 30, 31, 32, 33, 34, 35, 36, 37] (fun ((k, v1, v2, d, lo, hi) : Nat × Value × Value × Dsk × Nat × Nat) => [(8, .int .i64 (k : Nat))]) (fun (k, v1, v2, d, lo, hi) w' => w.grownBy w' (some br) ∧ Rdr w0 w' br (m + 65 + 10 * (4 - k)) ∧ k ≤ 4 ∧ w6.heap.size ≤ w'.heap.size ∧ Blk w' b1 [.slice none 0 0, .slice none 0 0] ∧ Blk w' b2 [v1, v2] ∧ b1 < lo ∧ lo < w'.heap.size ∧ hi ≤ w'.heap.size ∧ (hi ≤ b2 ∨ b2 < lo) ∧ OwnedB lo hi (XDk 22) w' v2 (v1, d.now, d.past) ∧ isCell v1 = true ∧ isCell v2 = true ∧ DIn d ∧ d.past.length ≤ 4 - k) (fun x => x.1) (y2, u2, q1, ⟨now, past⟩, w3.heap.size, w4.heap.size) (by repeat (first | exact trivial | refine And.intro rfl ?_)) ?_ ?_
  · exact ⟨hG, by first | exact hr3.le (by omega) | exact hr2.le (by omega) | exact hr1.le (by omega), by omega, by omega, hB1, hB2, by omega, by omega, by omega, by omega, hX, i1, i2, hd, by first | omega | (simp only; omega)⟩
  clear hr1 hG hX hB1 hB2
  rintro ⟨k, v1, v2, d, lo, hi⟩ ρj w7 ⟨hG, hr, hk, hsz, hB1, hB2, hbl, hlw, hhw, hb2, hX, ic1, ic2, hd, hdl⟩
  have E7 := hr.old
  by_cases hk0 : 0 < k
  · have kD : ∀ (w : World) (m' : Nat) (hr : Rdr w0 w br m') (hm : m' ≤ 10000000) (hX : OwnedB lo hi (XDk 22) w v2 (v1, d.now, d.past)), lo < w.heap.size → Does Tryz.prog 63 [.pointer (some ⟨br, 0, none⟩), .agg #[v1, v2]] w (RetDD w0 w br (m' + 10) DrP) := fun w m' hr hm hX hl => Deed_ok w v1 v2 d.now hr hm hX.dkNow.rd_above (by omega) hl ic2 hd.now
    have kS : ∀ (w : World) (k n : Int) (t : List UInt8), DrP ⟨k, t, n⟩ → OwnedB lo hi (XDk 22) w v2 (v1, d.now, d.past) → Does Tryz.prog 62 [.agg #[v1, v2], .agg #[.int .i64 k, str t, .int .i64 n]] w (RetDkI w 22 d.past.length (if DkOk d then (doV d ⟨k, t, n⟩).1.now else []) (if DkOk d then (doV d ⟨k, t, n⟩).1.past else []) (decide (DkOk d) && (doV d ⟨k, t, n⟩).2)) := fun w k n t ht hX => (spec_DeskDo_own w v1 v2 d hX.dkNow.read hX.dkPast.read k n t (by have := ht.2.2.1; simp only at this; omega)).mono fun _ _ h => h.i
    have stop6 : True := trivial
    focus
      have szE7 := E7.size; have szEhr3 := Ehr3.size; have szE8 := E8.size; have szE7 := E7.size; have szE6 := E6.size; have szE5 := E5.size; have szE4 := E4.size; have szEhr2 := Ehr2.size; have szEhr1 := Ehr1.size; have szE1 := E1.size
      have szE0 := E0.size; refine W_seq ?_; refine W_seq ?_; refine W_region rfl ?_; refine Wo rfl (opv_move (v := .int _ _) rfl) ?_; refine Wo rfl (opv_gtr rfl rfl) ?_; refine Wo_nil ?_
      refine W_cond_dec rfl (fun h1 => ?_) (fun h1 => ?_); refine W_skip ?_; refine W_seq ?_; refine W_block ?_; refine W_seq ?_; rotate_left; (exfalso; omega)
    clear stop6
    refine W_mid [28, 29, 30, 31, 32, 33, 34, 35, 9, 10] (fun ((b9, x1, x2, d', lo', hi', ok) : Nat × Value × Value × Dsk × Nat × Nat × Bool) => [(9, .pointer (some ⟨b9, 0, none⟩)), (10, .bool ok)]) (fun (b9, x1, x2, d', lo', hi', ok) w' => w.grownBy w' (some br) ∧ Rdr w0 w' br (m + 65 + 10 * (4 - k) + 10) ∧ w6.heap.size ≤ w'.heap.size ∧ Blk w' b1 [.slice none 0 0, .slice none 0 0] ∧ Blk w' b2 [v1, v2] ∧ Blk w' b9 [x1, x2] ∧ lo < w'.heap.size ∧ hi ≤ w'.heap.size ∧ OwnedB lo hi (XDk 22) w' v2 (v1, d.now, d.past) ∧ b1 < lo' ∧ lo' < w'.heap.size ∧ hi' ≤ w'.heap.size ∧ b2 < lo' ∧ OwnedB lo' hi' (XIf (ok = true) (XDk 22)) w' x2 (x1, d'.now, d'.past) ∧ isCell x1 = true ∧ isCell x2 = true ∧ DIn d' ∧ d'.past.length ≤ 4 - k + 1) ?_ ?_
    · focus
        have szE7 := E7.size; have szEhr3 := Ehr3.size; have szE8 := E8.size; have szE7 := E7.size; have szE6 := E6.size; have szE5 := E5.size; have szE4 := E4.size; have szEhr2 := Ehr2.size; have szEhr1 := Ehr1.size; have szE1 := E1.size
        have szE0 := E0.size; refine W_held (fun _ => True) mixed rfl (by kernel_rfl) ?_; intro w8 E10 K2 hz2; have hG := grownBy_ext hG E10; have hr := hr.ext E10; have hs7 := E10.size
        refine Wh_take 1 rfl (by kernel_rfl) (by kernel_rfl) rfl (fun _ _ => opv_move (v := .pointer _) rfl) trivial ?_; refine Wh_all (rs := [0, 2, 8]) (by kernel_rfl) rfl ?_; refine WhAll_cons rfl ?_ ?_
        refine Wo (v := .agg _) rfl (opv_load2 Tryz.isAgg28 Tryz.sizeOf28 rfl (hB2.ext E10)) ?_; refine Wo_nil ?_; refine ⟨trivial, ?_⟩; refine Wh_all (rs := [2, 8]) (by kernel_rfl) rfl ?_; refine WhAll_cons rfl ?_ ?_
        refine Wo (v := .agg _) rfl (opv_load2 Tryz.isAgg28 Tryz.sizeOf28 rfl (hB2.ext E10)) ?_; refine Wo_nil ?_; refine ⟨trivial, ?_⟩; refine Wh_all (rs := [3, 8]) (by kernel_rfl) rfl ?_; refine WhAll_cons rfl ?_ ?_
        refine Wo_call rfl (opc2 (a := .pointer _) (b := .agg _) Tryz.call63 rfl rfl) (kD _ _ (by assumption) (by omega) ((hX.ext E10)) (by omega)) ?_; rintro _ w9 ⟨k2, t1, n1, rfl, E11, hr1, hy4⟩; (try dsimp only at hy4)
        have hlhr1 := hr1.lt; have Ehr1 := hr1.old; have hB1 := (hB1.ext E10).grown E11 (by simp only [ne_eq, Option.some.injEq]; omega); have hB2 := (hB2.ext E10).grown E11 (by simp only [ne_eq, Option.some.injEq]; omega)
        have hX := (hX.ext E10).grown E11 (by omega); have hG := grownBy_trans hG E11; have hs8 := E11.size; refine Wo_nil ?_; refine ⟨trivial, ?_⟩; refine Wh_all (rs := [4, 8]) (by kernel_rfl) rfl ?_; refine WhAll_cons rfl ?_ ?_
        refine Wo_call rfl (opc2 (a := .agg _) (b := .agg _) Tryz.call62 rfl rfl) (kS _ _ _ _ (by assumption) (hX)) ?_; rintro _ w10 ⟨u3, q2, rfl, E12, hX1, icu3, icq2, gwu3⟩; have hr1 := hr1.ext E12; have hG := grownBy_ext hG E12
        have hs9 := E12.size; refine Wo_nil ?_; refine ⟨trivial, ?_⟩; refine Wh_take 5 rfl (by kernel_rfl) (by kernel_rfl) rfl (fun _ _ => opv_move (v := .tuple _) rfl) trivial ?_
        refine Wh_take 6 rfl (by kernel_rfl) (by kernel_rfl) rfl (fun _ _ => opv_extract (v := .agg _) rfl rfl) trivial ?_; refine Wh_take 7 rfl (by kernel_rfl) (by kernel_rfl) rfl (fun _ _ => opv_extract (v := .bool _) rfl rfl) trivial ?_
        refine Wh_all (rs := [8]) (by kernel_rfl) rfl ?_; refine WhAll_cons rfl ?_ ?_; refine Wo_alloc2 rfl flat28 ?_; rintro b3 w11 hb3 E13 hB3; have hlb3 := hB3.lt; have hr1 := hr1.ext E13; have hG := grownBy_ext hG E13
        have hs10 := E13.size; refine Wo_nil ?_; refine ⟨trivial, ?_⟩; refine Wh_all (rs := [9]) (by kernel_rfl) rfl ?_; refine WhAll_cons rfl ?_ ?_
        refine Wo_st2 rfl Tryz.sizeOf28 rfl rfl (by first | rfl | assumption) (by first | rfl | assumption) hB3 (by omega) ((Ehr1.trans E12).trans E13) ?_; rintro w12 E14 hB3 K3 hz3
        have E15 := (E12.trans E13).wroteAt ((Ehr1.trans E12).trans E13) E14 K3 hz3 (by omega); have szE15 := E15.size; have E16 := E13.wroteAt ((Ehr1.trans E12).trans E13) E14 K3 hz3 (by omega); have szE16 := E16.size
        have hB1 := (hB1.ext (E12.trans E13)).of_heap (K3 _ (by omega)); have hB2 := (hB2.ext (E12.trans E13)).of_heap (K3 _ (by omega)); have hX := (hX.ext (E12.trans E13)).wrote K3 (by omega); have hX1 := (hX1.ext E13).wrote K3 (by omega)
        have hr1 := hr1.wrote E14 (K3 _ (by omega)) hz3; have hG := grownBy_wrote hG ((Ehr1.trans E12).trans E13) E14 K3 hz3 (by first | exact .inr rfl | omega); refine Wo_nil ?_; refine ⟨trivial, ?_⟩
        refine Wh_take 10 rfl (by kernel_rfl) (by kernel_rfl) rfl (fun _ _ => opv_assign (v := .bool _) rfl) trivial ?_; refine Wh_done (by kernel_rfl) ?_; rotate_left; exact WhAll_nil; exact WhAll_nil; refine WhAll_cons rfl ?_ ?_
        refine Wo_alloc2 rfl flat28 ?_; rintro b3 w10 hb3 E12 hB3; have hlb3 := hB3.lt; have hr1 := hr1.ext E12; have hG := grownBy_ext hG E12; have hs9 := E12.size; refine Wo_nil ?_; refine ⟨trivial, ?_⟩
        refine Wh_all (rs := [4]) (by kernel_rfl) rfl ?_; refine WhAll_cons rfl ?_ ?_; refine Wo_call rfl (opc2 (a := .agg _) (b := .agg _) Tryz.call62 rfl rfl) (kS _ _ _ _ (by assumption) ((hX.ext E12))) ?_
        rintro _ w11 ⟨u3, q2, rfl, E13, hX1, icu3, icq2, gwu3⟩; have hr1 := hr1.ext E13; have hG := grownBy_ext hG E13; have hs10 := E13.size; refine Wo_nil ?_; refine ⟨trivial, ?_⟩
        refine Wh_take 5 rfl (by kernel_rfl) (by kernel_rfl) rfl (fun _ _ => opv_move (v := .tuple _) rfl) trivial ?_; refine Wh_take 6 rfl (by kernel_rfl) (by kernel_rfl) rfl (fun _ _ => opv_extract (v := .agg _) rfl rfl) trivial ?_
        refine Wh_take 7 rfl (by kernel_rfl) (by kernel_rfl) rfl (fun _ _ => opv_extract (v := .bool _) rfl rfl) trivial ?_; refine Wh_all (rs := [9]) (by kernel_rfl) rfl ?_; refine WhAll_cons rfl ?_ ?_
        refine Wo_st2 rfl Tryz.sizeOf28 rfl rfl (by first | rfl | assumption) (by first | rfl | assumption) (hB3.ext E13) (by omega) ((Ehr1.trans E12).trans E13) ?_; rintro w12 E14 hB3 K3 hz3
        have E15 := (E12.trans E13).wroteAt ((Ehr1.trans E12).trans E13) E14 K3 hz3 (by omega); have szE15 := E15.size; have hB1 := (hB1.ext (E12.trans E13)).of_heap (K3 _ (by omega))
        have hB2 := (hB2.ext (E12.trans E13)).of_heap (K3 _ (by omega)); have hX := (hX.ext (E12.trans E13)).wrote K3 (by omega); have hX1 := hX1.wrote K3 (by omega); have hr1 := hr1.wrote E14 (K3 _ (by omega)) hz3
        have hG := grownBy_wrote hG ((Ehr1.trans E12).trans E13) E14 K3 hz3 (by first | exact .inr rfl | omega); refine Wo_nil ?_; refine ⟨trivial, ?_⟩
        refine Wh_take 10 rfl (by kernel_rfl) (by kernel_rfl) rfl (fun _ _ => opv_assign (v := .bool _) rfl) trivial ?_; refine Wh_done (by kernel_rfl) ?_; rotate_left; exact WhAll_nil; exact WhAll_nil; exact WhAll_nil
        refine WhAll_cons rfl ?_ ?_; refine Wo_alloc2 rfl flat28 ?_; rintro b3 w9 hb3 E11 hB3; have hlb3 := hB3.lt; have hG := grownBy_ext hG E11; have hr := hr.ext E11; have hs8 := E11.size; refine Wo_nil ?_; refine ⟨trivial, ?_⟩
        refine Wh_all (rs := [3]) (by kernel_rfl) rfl ?_; refine WhAll_cons rfl ?_ ?_
        refine Wo_call rfl (opc2 (a := .pointer _) (b := .agg _) Tryz.call63 rfl rfl) (kD _ _ (by assumption) (by omega) ((hX.ext (E10.trans E11))) (by omega)) ?_; rintro _ w10 ⟨k2, t1, n1, rfl, E12, hr1, hy4⟩; (try dsimp only at hy4)
        have hlhr1 := hr1.lt; have Ehr1 := hr1.old; have hB1 := (hB1.ext (E10.trans E11)).grown E12 (by simp only [ne_eq, Option.some.injEq]; omega)
        have hB2 := (hB2.ext (E10.trans E11)).grown E12 (by simp only [ne_eq, Option.some.injEq]; omega); have hX := (hX.ext (E10.trans E11)).grown E12 (by omega); have hB3 := hB3.grown E12 (by simp only [ne_eq, Option.some.injEq]; omega)
        have hG := grownBy_trans hG E12; have hs9 := E12.size; refine Wo_nil ?_; refine ⟨trivial, ?_⟩; refine Wh_all (rs := [4]) (by kernel_rfl) rfl ?_; refine WhAll_cons rfl ?_ ?_
        refine Wo_call rfl (opc2 (a := .agg _) (b := .agg _) Tryz.call62 rfl rfl) (kS _ _ _ _ (by assumption) (hX)) ?_; rintro _ w11 ⟨u3, q2, rfl, E13, hX1, icu3, icq2, gwu3⟩; have hr1 := hr1.ext E13; have hG := grownBy_ext hG E13
        have hs10 := E13.size; refine Wo_nil ?_; refine ⟨trivial, ?_⟩; refine Wh_take 5 rfl (by kernel_rfl) (by kernel_rfl) rfl (fun _ _ => opv_move (v := .tuple _) rfl) trivial ?_
        refine Wh_take 6 rfl (by kernel_rfl) (by kernel_rfl) rfl (fun _ _ => opv_extract (v := .agg _) rfl rfl) trivial ?_; refine Wh_take 7 rfl (by kernel_rfl) (by kernel_rfl) rfl (fun _ _ => opv_extract (v := .bool _) rfl rfl) trivial ?_
        refine Wh_all (rs := [9]) (by kernel_rfl) rfl ?_; refine WhAll_cons rfl ?_ ?_; refine Wo_st2 rfl Tryz.sizeOf28 rfl rfl (by first | rfl | assumption) (by first | rfl | assumption) (hB3.ext E13) (by omega) (Ehr1.trans E13) ?_
        rintro w12 E14 hB3 K3 hz3; have hB1 := (hB1.ext E13).of_heap (K3 _ (by omega)); have hB2 := (hB2.ext E13).of_heap (K3 _ (by omega)); have hX := (hX.ext E13).wrote K3 (by omega); have hX1 := hX1.wrote K3 (by omega)
        have hr1 := hr1.wrote E14 (K3 _ (by omega)) hz3; have hG := grownBy_wrote hG (Ehr1.trans E13) E14 K3 hz3 (by first | exact .inr rfl | omega); refine Wo_nil ?_; refine ⟨trivial, ?_⟩
        refine Wh_take 10 rfl (by kernel_rfl) (by kernel_rfl) rfl (fun _ _ => opv_assign (v := .bool _) rfl) trivial ?_; refine Wh_done (by kernel_rfl) ?_; rotate_left; exact WhAll_nil; exact WhAll_nil; exact WhAll_nil; exact WhAll_nil
        refine WhAll_cons rfl ?_ ?_; refine Wo_alloc2 rfl flat28 ?_; rintro b3 w9 hb3 E11 hB3; have hlb3 := hB3.lt; have hG := grownBy_ext hG E11; have hr := hr.ext E11; have hs8 := E11.size; refine Wo_nil ?_; refine ⟨trivial, ?_⟩
        refine Wh_all (rs := [2]) (by kernel_rfl) rfl ?_; refine WhAll_cons rfl ?_ ?_; refine Wo (v := .agg _) rfl (opv_load2 Tryz.isAgg28 Tryz.sizeOf28 rfl (hB2.ext (E10.trans E11))) ?_; refine Wo_nil ?_; refine ⟨trivial, ?_⟩
        refine Wh_all (rs := [3]) (by kernel_rfl) rfl ?_; refine WhAll_cons rfl ?_ ?_
        refine Wo_call rfl (opc2 (a := .pointer _) (b := .agg _) Tryz.call63 rfl rfl) (kD _ _ (by assumption) (by omega) ((hX.ext (E10.trans E11))) (by omega)) ?_; rintro _ w10 ⟨k2, t1, n1, rfl, E12, hr1, hy4⟩; (try dsimp only at hy4)
        have hlhr1 := hr1.lt; have Ehr1 := hr1.old; have hB1 := (hB1.ext (E10.trans E11)).grown E12 (by simp only [ne_eq, Option.some.injEq]; omega)
        have hB2 := (hB2.ext (E10.trans E11)).grown E12 (by simp only [ne_eq, Option.some.injEq]; omega); have hX := (hX.ext (E10.trans E11)).grown E12 (by omega); have hB3 := hB3.grown E12 (by simp only [ne_eq, Option.some.injEq]; omega)
        have hG := grownBy_trans hG E12; have hs9 := E12.size; refine Wo_nil ?_; refine ⟨trivial, ?_⟩; refine Wh_all (rs := [4]) (by kernel_rfl) rfl ?_; refine WhAll_cons rfl ?_ ?_
        refine Wo_call rfl (opc2 (a := .agg _) (b := .agg _) Tryz.call62 rfl rfl) (kS _ _ _ _ (by assumption) (hX)) ?_; rintro _ w11 ⟨u3, q2, rfl, E13, hX1, icu3, icq2, gwu3⟩; have hr1 := hr1.ext E13; have hG := grownBy_ext hG E13
        have hs10 := E13.size; refine Wo_nil ?_; refine ⟨trivial, ?_⟩; refine Wh_take 5 rfl (by kernel_rfl) (by kernel_rfl) rfl (fun _ _ => opv_move (v := .tuple _) rfl) trivial ?_
        refine Wh_take 6 rfl (by kernel_rfl) (by kernel_rfl) rfl (fun _ _ => opv_extract (v := .agg _) rfl rfl) trivial ?_; refine Wh_take 7 rfl (by kernel_rfl) (by kernel_rfl) rfl (fun _ _ => opv_extract (v := .bool _) rfl rfl) trivial ?_
        refine Wh_all (rs := [9]) (by kernel_rfl) rfl ?_; refine WhAll_cons rfl ?_ ?_; refine Wo_st2 rfl Tryz.sizeOf28 rfl rfl (by first | rfl | assumption) (by first | rfl | assumption) (hB3.ext E13) (by omega) (Ehr1.trans E13) ?_
        rintro w12 E14 hB3 K3 hz3; have hB1 := (hB1.ext E13).of_heap (K3 _ (by omega)); have hB2 := (hB2.ext E13).of_heap (K3 _ (by omega)); have hX := (hX.ext E13).wrote K3 (by omega); have hX1 := hX1.wrote K3 (by omega)
        have hr1 := hr1.wrote E14 (K3 _ (by omega)) hz3; have hG := grownBy_wrote hG (Ehr1.trans E13) E14 K3 hz3 (by first | exact .inr rfl | omega); refine Wo_nil ?_; refine ⟨trivial, ?_⟩
        refine Wh_take 10 rfl (by kernel_rfl) (by kernel_rfl) rfl (fun _ _ => opv_assign (v := .bool _) rfl) trivial ?_; refine Wh_done (by kernel_rfl) ?_; rotate_left; exact WhAll_nil; exact WhAll_nil; exact WhAll_nil; exact WhAll_nil
        exact WhAll_nil; refine WhAll_cons rfl ?_ ?_; refine Wo (v := .agg _) rfl (opv_load2 Tryz.isAgg28 Tryz.sizeOf28 rfl (hB2.ext E10)) ?_; refine Wo_nil ?_; refine ⟨trivial, ?_⟩; refine Wh_all (rs := [0, 3, 8]) (by kernel_rfl) rfl ?_
        refine WhAll_cons rfl ?_ ?_; refine Wo (v := .agg _) rfl (opv_load2 Tryz.isAgg28 Tryz.sizeOf28 rfl (hB2.ext E10)) ?_; refine Wo_nil ?_; refine ⟨trivial, ?_⟩; refine Wh_all (rs := [3, 8]) (by kernel_rfl) rfl ?_
        refine WhAll_cons rfl ?_ ?_; refine Wo_call rfl (opc2 (a := .pointer _) (b := .agg _) Tryz.call63 rfl rfl) (kD _ _ (by assumption) (by omega) ((hX.ext E10)) (by omega)) ?_; rintro _ w9 ⟨k2, t1, n1, rfl, E11, hr1, hy4⟩
        (try dsimp only at hy4); have hlhr1 := hr1.lt; have Ehr1 := hr1.old; have hB1 := (hB1.ext E10).grown E11 (by simp only [ne_eq, Option.some.injEq]; omega)
        have hB2 := (hB2.ext E10).grown E11 (by simp only [ne_eq, Option.some.injEq]; omega); have hX := (hX.ext E10).grown E11 (by omega); have hG := grownBy_trans hG E11; have hs8 := E11.size; refine Wo_nil ?_; refine ⟨trivial, ?_⟩
        refine Wh_all (rs := [4, 8]) (by kernel_rfl) rfl ?_; refine WhAll_cons rfl ?_ ?_; refine Wo_call rfl (opc2 (a := .agg _) (b := .agg _) Tryz.call62 rfl rfl) (kS _ _ _ _ (by assumption) (hX)) ?_
        rintro _ w10 ⟨u3, q2, rfl, E12, hX1, icu3, icq2, gwu3⟩; have hr1 := hr1.ext E12; have hG := grownBy_ext hG E12; have hs9 := E12.size; refine Wo_nil ?_; refine ⟨trivial, ?_⟩
        refine Wh_take 5 rfl (by kernel_rfl) (by kernel_rfl) rfl (fun _ _ => opv_move (v := .tuple _) rfl) trivial ?_; refine Wh_take 6 rfl (by kernel_rfl) (by kernel_rfl) rfl (fun _ _ => opv_extract (v := .agg _) rfl rfl) trivial ?_
        refine Wh_take 7 rfl (by kernel_rfl) (by kernel_rfl) rfl (fun _ _ => opv_extract (v := .bool _) rfl rfl) trivial ?_; refine Wh_all (rs := [8]) (by kernel_rfl) rfl ?_; refine WhAll_cons rfl ?_ ?_; refine Wo_alloc2 rfl flat28 ?_
        rintro b3 w11 hb3 E13 hB3; have hlb3 := hB3.lt; have hr1 := hr1.ext E13; have hG := grownBy_ext hG E13; have hs10 := E13.size; refine Wo_nil ?_; refine ⟨trivial, ?_⟩; refine Wh_all (rs := [9]) (by kernel_rfl) rfl ?_
        refine WhAll_cons rfl ?_ ?_; refine Wo_st2 rfl Tryz.sizeOf28 rfl rfl (by first | rfl | assumption) (by first | rfl | assumption) hB3 (by omega) ((Ehr1.trans E12).trans E13) ?_; rintro w12 E14 hB3 K3 hz3
        have E15 := (E12.trans E13).wroteAt ((Ehr1.trans E12).trans E13) E14 K3 hz3 (by omega); have szE15 := E15.size; have E16 := E13.wroteAt ((Ehr1.trans E12).trans E13) E14 K3 hz3 (by omega); have szE16 := E16.size
        have hB1 := (hB1.ext (E12.trans E13)).of_heap (K3 _ (by omega)); have hB2 := (hB2.ext (E12.trans E13)).of_heap (K3 _ (by omega)); have hX := (hX.ext (E12.trans E13)).wrote K3 (by omega); have hX1 := (hX1.ext E13).wrote K3 (by omega)
        have hr1 := hr1.wrote E14 (K3 _ (by omega)) hz3; have hG := grownBy_wrote hG ((Ehr1.trans E12).trans E13) E14 K3 hz3 (by first | exact .inr rfl | omega); refine Wo_nil ?_; refine ⟨trivial, ?_⟩
        refine Wh_take 10 rfl (by kernel_rfl) (by kernel_rfl) rfl (fun _ _ => opv_assign (v := .bool _) rfl) trivial ?_; refine Wh_done (by kernel_rfl) ?_; rotate_left; exact WhAll_nil; exact WhAll_nil; refine WhAll_cons rfl ?_ ?_
        refine Wo_alloc2 rfl flat28 ?_; rintro b3 w10 hb3 E12 hB3; have hlb3 := hB3.lt; have hr1 := hr1.ext E12; have hG := grownBy_ext hG E12; have hs9 := E12.size; refine Wo_nil ?_; refine ⟨trivial, ?_⟩
        refine Wh_all (rs := [4]) (by kernel_rfl) rfl ?_; refine WhAll_cons rfl ?_ ?_; refine Wo_call rfl (opc2 (a := .agg _) (b := .agg _) Tryz.call62 rfl rfl) (kS _ _ _ _ (by assumption) ((hX.ext E12))) ?_
        rintro _ w11 ⟨u3, q2, rfl, E13, hX1, icu3, icq2, gwu3⟩; have hr1 := hr1.ext E13; have hG := grownBy_ext hG E13; have hs10 := E13.size; refine Wo_nil ?_; refine ⟨trivial, ?_⟩
        refine Wh_take 5 rfl (by kernel_rfl) (by kernel_rfl) rfl (fun _ _ => opv_move (v := .tuple _) rfl) trivial ?_; refine Wh_take 6 rfl (by kernel_rfl) (by kernel_rfl) rfl (fun _ _ => opv_extract (v := .agg _) rfl rfl) trivial ?_
        refine Wh_take 7 rfl (by kernel_rfl) (by kernel_rfl) rfl (fun _ _ => opv_extract (v := .bool _) rfl rfl) trivial ?_; refine Wh_all (rs := [9]) (by kernel_rfl) rfl ?_; refine WhAll_cons rfl ?_ ?_
        refine Wo_st2 rfl Tryz.sizeOf28 rfl rfl (by first | rfl | assumption) (by first | rfl | assumption) (hB3.ext E13) (by omega) ((Ehr1.trans E12).trans E13) ?_; rintro w12 E14 hB3 K3 hz3
        have E15 := (E12.trans E13).wroteAt ((Ehr1.trans E12).trans E13) E14 K3 hz3 (by omega); have szE15 := E15.size; have hB1 := (hB1.ext (E12.trans E13)).of_heap (K3 _ (by omega))
        have hB2 := (hB2.ext (E12.trans E13)).of_heap (K3 _ (by omega)); have hX := (hX.ext (E12.trans E13)).wrote K3 (by omega); have hX1 := hX1.wrote K3 (by omega); have hr1 := hr1.wrote E14 (K3 _ (by omega)) hz3
        have hG := grownBy_wrote hG ((Ehr1.trans E12).trans E13) E14 K3 hz3 (by first | exact .inr rfl | omega); refine Wo_nil ?_; refine ⟨trivial, ?_⟩
        refine Wh_take 10 rfl (by kernel_rfl) (by kernel_rfl) rfl (fun _ _ => opv_assign (v := .bool _) rfl) trivial ?_; refine Wh_done (by kernel_rfl) ?_; rotate_left; exact WhAll_nil; exact WhAll_nil; exact WhAll_nil
        refine WhAll_cons rfl ?_ ?_; refine Wo_alloc2 rfl flat28 ?_; rintro b3 w9 hb3 E11 hB3; have hlb3 := hB3.lt; have hG := grownBy_ext hG E11; have hr := hr.ext E11; have hs8 := E11.size; refine Wo_nil ?_; refine ⟨trivial, ?_⟩
        refine Wh_all (rs := [3]) (by kernel_rfl) rfl ?_; refine WhAll_cons rfl ?_ ?_
        refine Wo_call rfl (opc2 (a := .pointer _) (b := .agg _) Tryz.call63 rfl rfl) (kD _ _ (by assumption) (by omega) ((hX.ext (E10.trans E11))) (by omega)) ?_; rintro _ w10 ⟨k2, t1, n1, rfl, E12, hr1, hy4⟩; (try dsimp only at hy4)
        have hlhr1 := hr1.lt; have Ehr1 := hr1.old; have hB1 := (hB1.ext (E10.trans E11)).grown E12 (by simp only [ne_eq, Option.some.injEq]; omega)
        have hB2 := (hB2.ext (E10.trans E11)).grown E12 (by simp only [ne_eq, Option.some.injEq]; omega); have hX := (hX.ext (E10.trans E11)).grown E12 (by omega); have hB3 := hB3.grown E12 (by simp only [ne_eq, Option.some.injEq]; omega)
        have hG := grownBy_trans hG E12; have hs9 := E12.size; refine Wo_nil ?_; refine ⟨trivial, ?_⟩; refine Wh_all (rs := [4]) (by kernel_rfl) rfl ?_; refine WhAll_cons rfl ?_ ?_
        refine Wo_call rfl (opc2 (a := .agg _) (b := .agg _) Tryz.call62 rfl rfl) (kS _ _ _ _ (by assumption) (hX)) ?_; rintro _ w11 ⟨u3, q2, rfl, E13, hX1, icu3, icq2, gwu3⟩; have hr1 := hr1.ext E13; have hG := grownBy_ext hG E13
        have hs10 := E13.size; refine Wo_nil ?_; refine ⟨trivial, ?_⟩; refine Wh_take 5 rfl (by kernel_rfl) (by kernel_rfl) rfl (fun _ _ => opv_move (v := .tuple _) rfl) trivial ?_
        refine Wh_take 6 rfl (by kernel_rfl) (by kernel_rfl) rfl (fun _ _ => opv_extract (v := .agg _) rfl rfl) trivial ?_; refine Wh_take 7 rfl (by kernel_rfl) (by kernel_rfl) rfl (fun _ _ => opv_extract (v := .bool _) rfl rfl) trivial ?_
        refine Wh_all (rs := [9]) (by kernel_rfl) rfl ?_; refine WhAll_cons rfl ?_ ?_; refine Wo_st2 rfl Tryz.sizeOf28 rfl rfl (by first | rfl | assumption) (by first | rfl | assumption) (hB3.ext E13) (by omega) (Ehr1.trans E13) ?_
        rintro w12 E14 hB3 K3 hz3; have hB1 := (hB1.ext E13).of_heap (K3 _ (by omega)); have hB2 := (hB2.ext E13).of_heap (K3 _ (by omega)); have hX := (hX.ext E13).wrote K3 (by omega); have hX1 := hX1.wrote K3 (by omega)
        have hr1 := hr1.wrote E14 (K3 _ (by omega)) hz3; have hG := grownBy_wrote hG (Ehr1.trans E13) E14 K3 hz3 (by first | exact .inr rfl | omega); refine Wo_nil ?_; refine ⟨trivial, ?_⟩
        refine Wh_take 10 rfl (by kernel_rfl) (by kernel_rfl) rfl (fun _ _ => opv_assign (v := .bool _) rfl) trivial ?_; refine Wh_done (by kernel_rfl) ?_; rotate_left; exact WhAll_nil; exact WhAll_nil; exact WhAll_nil; exact WhAll_nil
        refine WhAll_cons rfl ?_ ?_; refine Wo_call rfl (opc2 (a := .pointer _) (b := .agg _) Tryz.call63 rfl rfl) (kD _ _ (by assumption) (by omega) ((hX.ext E10)) (by omega)) ?_; rintro _ w9 ⟨k2, t1, n1, rfl, E11, hr1, hy4⟩
        (try dsimp only at hy4); have hlhr1 := hr1.lt; have Ehr1 := hr1.old; have hB1 := (hB1.ext E10).grown E11 (by simp only [ne_eq, Option.some.injEq]; omega)
        have hB2 := (hB2.ext E10).grown E11 (by simp only [ne_eq, Option.some.injEq]; omega); have hX := (hX.ext E10).grown E11 (by omega); have hG := grownBy_trans hG E11; have hs8 := E11.size; refine Wo_nil ?_; refine ⟨trivial, ?_⟩
        refine Wh_all (rs := [0, 8]) (by kernel_rfl) rfl ?_; refine WhAll_cons rfl ?_ ?_; refine Wo (v := .agg _) rfl (opv_load2 Tryz.isAgg28 Tryz.sizeOf28 rfl hB2) ?_; refine Wo_nil ?_; refine ⟨trivial, ?_⟩
        refine Wh_all (rs := [4, 8]) (by kernel_rfl) rfl ?_; refine WhAll_cons rfl ?_ ?_; refine Wo_call rfl (opc2 (a := .agg _) (b := .agg _) Tryz.call62 rfl rfl) (kS _ _ _ _ (by assumption) (hX)) ?_
        rintro _ w10 ⟨u3, q2, rfl, E12, hX1, icu3, icq2, gwu3⟩; have hr1 := hr1.ext E12; have hG := grownBy_ext hG E12; have hs9 := E12.size; refine Wo_nil ?_; refine ⟨trivial, ?_⟩
        refine Wh_take 5 rfl (by kernel_rfl) (by kernel_rfl) rfl (fun _ _ => opv_move (v := .tuple _) rfl) trivial ?_; refine Wh_take 6 rfl (by kernel_rfl) (by kernel_rfl) rfl (fun _ _ => opv_extract (v := .agg _) rfl rfl) trivial ?_
        refine Wh_take 7 rfl (by kernel_rfl) (by kernel_rfl) rfl (fun _ _ => opv_extract (v := .bool _) rfl rfl) trivial ?_; refine Wh_all (rs := [8]) (by kernel_rfl) rfl ?_; refine WhAll_cons rfl ?_ ?_; refine Wo_alloc2 rfl flat28 ?_
        rintro b3 w11 hb3 E13 hB3; have hlb3 := hB3.lt; have hr1 := hr1.ext E13; have hG := grownBy_ext hG E13; have hs10 := E13.size; refine Wo_nil ?_; refine ⟨trivial, ?_⟩; refine Wh_all (rs := [9]) (by kernel_rfl) rfl ?_
        refine WhAll_cons rfl ?_ ?_; refine Wo_st2 rfl Tryz.sizeOf28 rfl rfl (by first | rfl | assumption) (by first | rfl | assumption) hB3 (by omega) ((Ehr1.trans E12).trans E13) ?_; rintro w12 E14 hB3 K3 hz3
        have E15 := (E12.trans E13).wroteAt ((Ehr1.trans E12).trans E13) E14 K3 hz3 (by omega); have szE15 := E15.size; have E16 := E13.wroteAt ((Ehr1.trans E12).trans E13) E14 K3 hz3 (by omega); have szE16 := E16.size
        have hB1 := (hB1.ext (E12.trans E13)).of_heap (K3 _ (by omega)); have hB2 := (hB2.ext (E12.trans E13)).of_heap (K3 _ (by omega)); have hX := (hX.ext (E12.trans E13)).wrote K3 (by omega); have hX1 := (hX1.ext E13).wrote K3 (by omega)
        have hr1 := hr1.wrote E14 (K3 _ (by omega)) hz3; have hG := grownBy_wrote hG ((Ehr1.trans E12).trans E13) E14 K3 hz3 (by first | exact .inr rfl | omega); refine Wo_nil ?_; refine ⟨trivial, ?_⟩
        refine Wh_take 10 rfl (by kernel_rfl) (by kernel_rfl) rfl (fun _ _ => opv_assign (v := .bool _) rfl) trivial ?_; refine Wh_done (by kernel_rfl) ?_; rotate_left; exact WhAll_nil; exact WhAll_nil; refine WhAll_cons rfl ?_ ?_
        refine Wo_alloc2 rfl flat28 ?_; rintro b3 w10 hb3 E12 hB3; have hlb3 := hB3.lt; have hr1 := hr1.ext E12; have hG := grownBy_ext hG E12; have hs9 := E12.size; refine Wo_nil ?_; refine ⟨trivial, ?_⟩
        refine Wh_all (rs := [4]) (by kernel_rfl) rfl ?_; refine WhAll_cons rfl ?_ ?_; refine Wo_call rfl (opc2 (a := .agg _) (b := .agg _) Tryz.call62 rfl rfl) (kS _ _ _ _ (by assumption) ((hX.ext E12))) ?_
        rintro _ w11 ⟨u3, q2, rfl, E13, hX1, icu3, icq2, gwu3⟩; have hr1 := hr1.ext E13; have hG := grownBy_ext hG E13; have hs10 := E13.size; refine Wo_nil ?_; refine ⟨trivial, ?_⟩
        refine Wh_take 5 rfl (by kernel_rfl) (by kernel_rfl) rfl (fun _ _ => opv_move (v := .tuple _) rfl) trivial ?_; refine Wh_take 6 rfl (by kernel_rfl) (by kernel_rfl) rfl (fun _ _ => opv_extract (v := .agg _) rfl rfl) trivial ?_
        refine Wh_take 7 rfl (by kernel_rfl) (by kernel_rfl) rfl (fun _ _ => opv_extract (v := .bool _) rfl rfl) trivial ?_; refine Wh_all (rs := [9]) (by kernel_rfl) rfl ?_; refine WhAll_cons rfl ?_ ?_
        refine Wo_st2 rfl Tryz.sizeOf28 rfl rfl (by first | rfl | assumption) (by first | rfl | assumption) (hB3.ext E13) (by omega) ((Ehr1.trans E12).trans E13) ?_; rintro w12 E14 hB3 K3 hz3
        have E15 := (E12.trans E13).wroteAt ((Ehr1.trans E12).trans E13) E14 K3 hz3 (by omega); have szE15 := E15.size; have hB1 := (hB1.ext (E12.trans E13)).of_heap (K3 _ (by omega))
        have hB2 := (hB2.ext (E12.trans E13)).of_heap (K3 _ (by omega)); have hX := (hX.ext (E12.trans E13)).wrote K3 (by omega); have hX1 := hX1.wrote K3 (by omega); have hr1 := hr1.wrote E14 (K3 _ (by omega)) hz3
        have hG := grownBy_wrote hG ((Ehr1.trans E12).trans E13) E14 K3 hz3 (by first | exact .inr rfl | omega); refine Wo_nil ?_; refine ⟨trivial, ?_⟩
        refine Wh_take 10 rfl (by kernel_rfl) (by kernel_rfl) rfl (fun _ _ => opv_assign (v := .bool _) rfl) trivial ?_; refine Wh_done (by kernel_rfl) ?_; rotate_left; exact WhAll_nil; exact WhAll_nil; exact WhAll_nil
        refine WhAll_cons rfl ?_ ?_; refine Wo_alloc2 rfl flat28 ?_; rintro b3 w10 hb3 E12 hB3; have hlb3 := hB3.lt; have hr1 := hr1.ext E12; have hG := grownBy_ext hG E12; have hs9 := E12.size; refine Wo_nil ?_; refine ⟨trivial, ?_⟩
        refine Wh_all (rs := [0]) (by kernel_rfl) rfl ?_; refine WhAll_cons rfl ?_ ?_; refine Wo (v := .agg _) rfl (opv_load2 Tryz.isAgg28 Tryz.sizeOf28 rfl (hB2.ext E12)) ?_; refine Wo_nil ?_; refine ⟨trivial, ?_⟩
        refine Wh_all (rs := [4]) (by kernel_rfl) rfl ?_; refine WhAll_cons rfl ?_ ?_; refine Wo_call rfl (opc2 (a := .agg _) (b := .agg _) Tryz.call62 rfl rfl) (kS _ _ _ _ (by assumption) ((hX.ext E12))) ?_
        rintro _ w11 ⟨u3, q2, rfl, E13, hX1, icu3, icq2, gwu3⟩; have hr1 := hr1.ext E13; have hG := grownBy_ext hG E13; have hs10 := E13.size; refine Wo_nil ?_; refine ⟨trivial, ?_⟩
        refine Wh_take 5 rfl (by kernel_rfl) (by kernel_rfl) rfl (fun _ _ => opv_move (v := .tuple _) rfl) trivial ?_; refine Wh_take 6 rfl (by kernel_rfl) (by kernel_rfl) rfl (fun _ _ => opv_extract (v := .agg _) rfl rfl) trivial ?_
        refine Wh_take 7 rfl (by kernel_rfl) (by kernel_rfl) rfl (fun _ _ => opv_extract (v := .bool _) rfl rfl) trivial ?_; refine Wh_all (rs := [9]) (by kernel_rfl) rfl ?_; refine WhAll_cons rfl ?_ ?_
        refine Wo_st2 rfl Tryz.sizeOf28 rfl rfl (by first | rfl | assumption) (by first | rfl | assumption) (hB3.ext E13) (by omega) ((Ehr1.trans E12).trans E13) ?_; rintro w12 E14 hB3 K3 hz3
        have E15 := (E12.trans E13).wroteAt ((Ehr1.trans E12).trans E13) E14 K3 hz3 (by omega); have szE15 := E15.size; have hB1 := (hB1.ext (E12.trans E13)).of_heap (K3 _ (by omega))
        have hB2 := (hB2.ext (E12.trans E13)).of_heap (K3 _ (by omega)); have hX := (hX.ext (E12.trans E13)).wrote K3 (by omega); have hX1 := hX1.wrote K3 (by omega); have hr1 := hr1.wrote E14 (K3 _ (by omega)) hz3
        have hG := grownBy_wrote hG ((Ehr1.trans E12).trans E13) E14 K3 hz3 (by first | exact .inr rfl | omega); refine Wo_nil ?_; refine ⟨trivial, ?_⟩
        refine Wh_take 10 rfl (by kernel_rfl) (by kernel_rfl) rfl (fun _ _ => opv_assign (v := .bool _) rfl) trivial ?_; refine Wh_done (by kernel_rfl) ?_; rotate_left; exact WhAll_nil; exact WhAll_nil; exact WhAll_nil; exact WhAll_nil
        refine WhAll_cons rfl ?_ ?_; refine Wo_alloc2 rfl flat28 ?_; rintro b3 w9 hb3 E11 hB3; have hlb3 := hB3.lt; have hG := grownBy_ext hG E11; have hr := hr.ext E11; have hs8 := E11.size; refine Wo_nil ?_; refine ⟨trivial, ?_⟩
        refine Wh_all (rs := [0, 3]) (by kernel_rfl) rfl ?_; refine WhAll_cons rfl ?_ ?_; refine Wo (v := .agg _) rfl (opv_load2 Tryz.isAgg28 Tryz.sizeOf28 rfl (hB2.ext (E10.trans E11))) ?_; refine Wo_nil ?_; refine ⟨trivial, ?_⟩
        refine Wh_all (rs := [3]) (by kernel_rfl) rfl ?_; refine WhAll_cons rfl ?_ ?_
        refine Wo_call rfl (opc2 (a := .pointer _) (b := .agg _) Tryz.call63 rfl rfl) (kD _ _ (by assumption) (by omega) ((hX.ext (E10.trans E11))) (by omega)) ?_; rintro _ w10 ⟨k2, t1, n1, rfl, E12, hr1, hy4⟩; (try dsimp only at hy4)
        have hlhr1 := hr1.lt; have Ehr1 := hr1.old; have hB1 := (hB1.ext (E10.trans E11)).grown E12 (by simp only [ne_eq, Option.some.injEq]; omega)
        have hB2 := (hB2.ext (E10.trans E11)).grown E12 (by simp only [ne_eq, Option.some.injEq]; omega); have hX := (hX.ext (E10.trans E11)).grown E12 (by omega); have hB3 := hB3.grown E12 (by simp only [ne_eq, Option.some.injEq]; omega)
        have hG := grownBy_trans hG E12; have hs9 := E12.size; refine Wo_nil ?_; refine ⟨trivial, ?_⟩; refine Wh_all (rs := [4]) (by kernel_rfl) rfl ?_; refine WhAll_cons rfl ?_ ?_
        refine Wo_call rfl (opc2 (a := .agg _) (b := .agg _) Tryz.call62 rfl rfl) (kS _ _ _ _ (by assumption) (hX)) ?_; rintro _ w11 ⟨u3, q2, rfl, E13, hX1, icu3, icq2, gwu3⟩; have hr1 := hr1.ext E13; have hG := grownBy_ext hG E13
        have hs10 := E13.size; refine Wo_nil ?_; refine ⟨trivial, ?_⟩; refine Wh_take 5 rfl (by kernel_rfl) (by kernel_rfl) rfl (fun _ _ => opv_move (v := .tuple _) rfl) trivial ?_
        refine Wh_take 6 rfl (by kernel_rfl) (by kernel_rfl) rfl (fun _ _ => opv_extract (v := .agg _) rfl rfl) trivial ?_; refine Wh_take 7 rfl (by kernel_rfl) (by kernel_rfl) rfl (fun _ _ => opv_extract (v := .bool _) rfl rfl) trivial ?_
        refine Wh_all (rs := [9]) (by kernel_rfl) rfl ?_; refine WhAll_cons rfl ?_ ?_; refine Wo_st2 rfl Tryz.sizeOf28 rfl rfl (by first | rfl | assumption) (by first | rfl | assumption) (hB3.ext E13) (by omega) (Ehr1.trans E13) ?_
        rintro w12 E14 hB3 K3 hz3; have hB1 := (hB1.ext E13).of_heap (K3 _ (by omega)); have hB2 := (hB2.ext E13).of_heap (K3 _ (by omega)); have hX := (hX.ext E13).wrote K3 (by omega); have hX1 := hX1.wrote K3 (by omega)
        have hr1 := hr1.wrote E14 (K3 _ (by omega)) hz3; have hG := grownBy_wrote hG (Ehr1.trans E13) E14 K3 hz3 (by first | exact .inr rfl | omega); refine Wo_nil ?_; refine ⟨trivial, ?_⟩
        refine Wh_take 10 rfl (by kernel_rfl) (by kernel_rfl) rfl (fun _ _ => opv_assign (v := .bool _) rfl) trivial ?_; refine Wh_done (by kernel_rfl) ?_; rotate_left; exact WhAll_nil; exact WhAll_nil; exact WhAll_nil
        refine WhAll_cons rfl ?_ ?_; refine Wo_call rfl (opc2 (a := .pointer _) (b := .agg _) Tryz.call63 rfl rfl) (kD _ _ (by assumption) (by omega) ((hX.ext (E10.trans E11))) (by omega)) ?_; rintro _ w10 ⟨k2, t1, n1, rfl, E12, hr1, hy4⟩
        (try dsimp only at hy4); have hlhr1 := hr1.lt; have Ehr1 := hr1.old; have hB1 := (hB1.ext (E10.trans E11)).grown E12 (by simp only [ne_eq, Option.some.injEq]; omega)
        have hB2 := (hB2.ext (E10.trans E11)).grown E12 (by simp only [ne_eq, Option.some.injEq]; omega); have hX := (hX.ext (E10.trans E11)).grown E12 (by omega); have hB3 := hB3.grown E12 (by simp only [ne_eq, Option.some.injEq]; omega)
        have hG := grownBy_trans hG E12; have hs9 := E12.size; refine Wo_nil ?_; refine ⟨trivial, ?_⟩; refine Wh_all (rs := [0]) (by kernel_rfl) rfl ?_; refine WhAll_cons rfl ?_ ?_
        refine Wo (v := .agg _) rfl (opv_load2 Tryz.isAgg28 Tryz.sizeOf28 rfl hB2) ?_; refine Wo_nil ?_; refine ⟨trivial, ?_⟩; refine Wh_all (rs := [4]) (by kernel_rfl) rfl ?_; refine WhAll_cons rfl ?_ ?_
        refine Wo_call rfl (opc2 (a := .agg _) (b := .agg _) Tryz.call62 rfl rfl) (kS _ _ _ _ (by assumption) (hX)) ?_; rintro _ w11 ⟨u3, q2, rfl, E13, hX1, icu3, icq2, gwu3⟩; have hr1 := hr1.ext E13; have hG := grownBy_ext hG E13
        have hs10 := E13.size; refine Wo_nil ?_; refine ⟨trivial, ?_⟩; refine Wh_take 5 rfl (by kernel_rfl) (by kernel_rfl) rfl (fun _ _ => opv_move (v := .tuple _) rfl) trivial ?_
        refine Wh_take 6 rfl (by kernel_rfl) (by kernel_rfl) rfl (fun _ _ => opv_extract (v := .agg _) rfl rfl) trivial ?_; refine Wh_take 7 rfl (by kernel_rfl) (by kernel_rfl) rfl (fun _ _ => opv_extract (v := .bool _) rfl rfl) trivial ?_
        refine Wh_all (rs := [9]) (by kernel_rfl) rfl ?_; refine WhAll_cons rfl ?_ ?_; refine Wo_st2 rfl Tryz.sizeOf28 rfl rfl (by first | rfl | assumption) (by first | rfl | assumption) (hB3.ext E13) (by omega) (Ehr1.trans E13) ?_
        rintro w12 E14 hB3 K3 hz3; have hB1 := (hB1.ext E13).of_heap (K3 _ (by omega)); have hB2 := (hB2.ext E13).of_heap (K3 _ (by omega)); have hX := (hX.ext E13).wrote K3 (by omega); have hX1 := hX1.wrote K3 (by omega)
        have hr1 := hr1.wrote E14 (K3 _ (by omega)) hz3; have hG := grownBy_wrote hG (Ehr1.trans E13) E14 K3 hz3 (by first | exact .inr rfl | omega); refine Wo_nil ?_; refine ⟨trivial, ?_⟩
        refine Wh_take 10 rfl (by kernel_rfl) (by kernel_rfl) rfl (fun _ _ => opv_assign (v := .bool _) rfl) trivial ?_; refine Wh_done (by kernel_rfl) ?_; rotate_left; exact WhAll_nil; exact WhAll_nil; exact WhAll_nil; exact WhAll_nil
        exact WhAll_nil; refine WhAll_cons rfl ?_ ?_; refine Wo_alloc2 rfl flat28 ?_; rintro b3 w9 hb3 E11 hB3; have hlb3 := hB3.lt; have hG := grownBy_ext hG E11; have hr := hr.ext E11; have hs8 := E11.size; refine Wo_nil ?_
        refine ⟨trivial, ?_⟩; refine Wh_all (rs := [0, 2]) (by kernel_rfl) rfl ?_; refine WhAll_cons rfl ?_ ?_; refine Wo (v := .agg _) rfl (opv_load2 Tryz.isAgg28 Tryz.sizeOf28 rfl (hB2.ext (E10.trans E11))) ?_; refine Wo_nil ?_
        refine ⟨trivial, ?_⟩; refine Wh_all (rs := [2]) (by kernel_rfl) rfl ?_; refine WhAll_cons rfl ?_ ?_; refine Wo (v := .agg _) rfl (opv_load2 Tryz.isAgg28 Tryz.sizeOf28 rfl (hB2.ext (E10.trans E11))) ?_; refine Wo_nil ?_
        refine ⟨trivial, ?_⟩; refine Wh_all (rs := [3]) (by kernel_rfl) rfl ?_; refine WhAll_cons rfl ?_ ?_
        refine Wo_call rfl (opc2 (a := .pointer _) (b := .agg _) Tryz.call63 rfl rfl) (kD _ _ (by assumption) (by omega) ((hX.ext (E10.trans E11))) (by omega)) ?_; rintro _ w10 ⟨k2, t1, n1, rfl, E12, hr1, hy4⟩; (try dsimp only at hy4)
        have hlhr1 := hr1.lt; have Ehr1 := hr1.old; have hB1 := (hB1.ext (E10.trans E11)).grown E12 (by simp only [ne_eq, Option.some.injEq]; omega)
        have hB2 := (hB2.ext (E10.trans E11)).grown E12 (by simp only [ne_eq, Option.some.injEq]; omega); have hX := (hX.ext (E10.trans E11)).grown E12 (by omega); have hB3 := hB3.grown E12 (by simp only [ne_eq, Option.some.injEq]; omega)
        have hG := grownBy_trans hG E12; have hs9 := E12.size; refine Wo_nil ?_; refine ⟨trivial, ?_⟩; refine Wh_all (rs := [4]) (by kernel_rfl) rfl ?_; refine WhAll_cons rfl ?_ ?_
        refine Wo_call rfl (opc2 (a := .agg _) (b := .agg _) Tryz.call62 rfl rfl) (kS _ _ _ _ (by assumption) (hX)) ?_; rintro _ w11 ⟨u3, q2, rfl, E13, hX1, icu3, icq2, gwu3⟩; have hr1 := hr1.ext E13; have hG := grownBy_ext hG E13
        have hs10 := E13.size; refine Wo_nil ?_; refine ⟨trivial, ?_⟩; refine Wh_take 5 rfl (by kernel_rfl) (by kernel_rfl) rfl (fun _ _ => opv_move (v := .tuple _) rfl) trivial ?_
        refine Wh_take 6 rfl (by kernel_rfl) (by kernel_rfl) rfl (fun _ _ => opv_extract (v := .agg _) rfl rfl) trivial ?_; refine Wh_take 7 rfl (by kernel_rfl) (by kernel_rfl) rfl (fun _ _ => opv_extract (v := .bool _) rfl rfl) trivial ?_
        refine Wh_all (rs := [9]) (by kernel_rfl) rfl ?_; refine WhAll_cons rfl ?_ ?_; refine Wo_st2 rfl Tryz.sizeOf28 rfl rfl (by first | rfl | assumption) (by first | rfl | assumption) (hB3.ext E13) (by omega) (Ehr1.trans E13) ?_
        rintro w12 E14 hB3 K3 hz3; have hB1 := (hB1.ext E13).of_heap (K3 _ (by omega)); have hB2 := (hB2.ext E13).of_heap (K3 _ (by omega)); have hX := (hX.ext E13).wrote K3 (by omega); have hX1 := hX1.wrote K3 (by omega)
        have hr1 := hr1.wrote E14 (K3 _ (by omega)) hz3; have hG := grownBy_wrote hG (Ehr1.trans E13) E14 K3 hz3 (by first | exact .inr rfl | omega); refine Wo_nil ?_; refine ⟨trivial, ?_⟩
        refine Wh_take 10 rfl (by kernel_rfl) (by kernel_rfl) rfl (fun _ _ => opv_assign (v := .bool _) rfl) trivial ?_; refine Wh_done (by kernel_rfl) ?_; rotate_left; exact WhAll_nil; exact WhAll_nil; exact WhAll_nil; exact WhAll_nil
        refine WhAll_cons rfl ?_ ?_; refine Wo (v := .agg _) rfl (opv_load2 Tryz.isAgg28 Tryz.sizeOf28 rfl (hB2.ext (E10.trans E11))) ?_; refine Wo_nil ?_; refine ⟨trivial, ?_⟩; refine Wh_all (rs := [0, 3]) (by kernel_rfl) rfl ?_
        refine WhAll_cons rfl ?_ ?_; refine Wo (v := .agg _) rfl (opv_load2 Tryz.isAgg28 Tryz.sizeOf28 rfl (hB2.ext (E10.trans E11))) ?_; refine Wo_nil ?_; refine ⟨trivial, ?_⟩; refine Wh_all (rs := [3]) (by kernel_rfl) rfl ?_
        refine WhAll_cons rfl ?_ ?_; refine Wo_call rfl (opc2 (a := .pointer _) (b := .agg _) Tryz.call63 rfl rfl) (kD _ _ (by assumption) (by omega) ((hX.ext (E10.trans E11))) (by omega)) ?_; rintro _ w10 ⟨k2, t1, n1, rfl, E12, hr1, hy4⟩
        (try dsimp only at hy4); have hlhr1 := hr1.lt; have Ehr1 := hr1.old; have hB1 := (hB1.ext (E10.trans E11)).grown E12 (by simp only [ne_eq, Option.some.injEq]; omega)
        have hB2 := (hB2.ext (E10.trans E11)).grown E12 (by simp only [ne_eq, Option.some.injEq]; omega); have hX := (hX.ext (E10.trans E11)).grown E12 (by omega); have hB3 := hB3.grown E12 (by simp only [ne_eq, Option.some.injEq]; omega)
        have hG := grownBy_trans hG E12; have hs9 := E12.size; refine Wo_nil ?_; refine ⟨trivial, ?_⟩; refine Wh_all (rs := [4]) (by kernel_rfl) rfl ?_; refine WhAll_cons rfl ?_ ?_
        refine Wo_call rfl (opc2 (a := .agg _) (b := .agg _) Tryz.call62 rfl rfl) (kS _ _ _ _ (by assumption) (hX)) ?_; rintro _ w11 ⟨u3, q2, rfl, E13, hX1, icu3, icq2, gwu3⟩; have hr1 := hr1.ext E13; have hG := grownBy_ext hG E13
        have hs10 := E13.size; refine Wo_nil ?_; refine ⟨trivial, ?_⟩; refine Wh_take 5 rfl (by kernel_rfl) (by kernel_rfl) rfl (fun _ _ => opv_move (v := .tuple _) rfl) trivial ?_
        refine Wh_take 6 rfl (by kernel_rfl) (by kernel_rfl) rfl (fun _ _ => opv_extract (v := .agg _) rfl rfl) trivial ?_; refine Wh_take 7 rfl (by kernel_rfl) (by kernel_rfl) rfl (fun _ _ => opv_extract (v := .bool _) rfl rfl) trivial ?_
        refine Wh_all (rs := [9]) (by kernel_rfl) rfl ?_; refine WhAll_cons rfl ?_ ?_; refine Wo_st2 rfl Tryz.sizeOf28 rfl rfl (by first | rfl | assumption) (by first | rfl | assumption) (hB3.ext E13) (by omega) (Ehr1.trans E13) ?_
        rintro w12 E14 hB3 K3 hz3; have hB1 := (hB1.ext E13).of_heap (K3 _ (by omega)); have hB2 := (hB2.ext E13).of_heap (K3 _ (by omega)); have hX := (hX.ext E13).wrote K3 (by omega); have hX1 := hX1.wrote K3 (by omega)
        have hr1 := hr1.wrote E14 (K3 _ (by omega)) hz3; have hG := grownBy_wrote hG (Ehr1.trans E13) E14 K3 hz3 (by first | exact .inr rfl | omega); refine Wo_nil ?_; refine ⟨trivial, ?_⟩
        refine Wh_take 10 rfl (by kernel_rfl) (by kernel_rfl) rfl (fun _ _ => opv_assign (v := .bool _) rfl) trivial ?_; refine Wh_done (by kernel_rfl) ?_; rotate_left; exact WhAll_nil; exact WhAll_nil; exact WhAll_nil
        refine WhAll_cons rfl ?_ ?_; refine Wo_call rfl (opc2 (a := .pointer _) (b := .agg _) Tryz.call63 rfl rfl) (kD _ _ (by assumption) (by omega) ((hX.ext (E10.trans E11))) (by omega)) ?_; rintro _ w10 ⟨k2, t1, n1, rfl, E12, hr1, hy4⟩
        (try dsimp only at hy4); have hlhr1 := hr1.lt; have Ehr1 := hr1.old; have hB1 := (hB1.ext (E10.trans E11)).grown E12 (by simp only [ne_eq, Option.some.injEq]; omega)
        have hB2 := (hB2.ext (E10.trans E11)).grown E12 (by simp only [ne_eq, Option.some.injEq]; omega); have hX := (hX.ext (E10.trans E11)).grown E12 (by omega); have hB3 := hB3.grown E12 (by simp only [ne_eq, Option.some.injEq]; omega)
        have hG := grownBy_trans hG E12; have hs9 := E12.size; refine Wo_nil ?_; refine ⟨trivial, ?_⟩; refine Wh_all (rs := [0]) (by kernel_rfl) rfl ?_; refine WhAll_cons rfl ?_ ?_
        refine Wo (v := .agg _) rfl (opv_load2 Tryz.isAgg28 Tryz.sizeOf28 rfl hB2) ?_; refine Wo_nil ?_; refine ⟨trivial, ?_⟩; refine Wh_all (rs := [4]) (by kernel_rfl) rfl ?_; refine WhAll_cons rfl ?_ ?_
        refine Wo_call rfl (opc2 (a := .agg _) (b := .agg _) Tryz.call62 rfl rfl) (kS _ _ _ _ (by assumption) (hX)) ?_; rintro _ w11 ⟨u3, q2, rfl, E13, hX1, icu3, icq2, gwu3⟩; have hr1 := hr1.ext E13; have hG := grownBy_ext hG E13
        have hs10 := E13.size; refine Wo_nil ?_; refine ⟨trivial, ?_⟩; refine Wh_take 5 rfl (by kernel_rfl) (by kernel_rfl) rfl (fun _ _ => opv_move (v := .tuple _) rfl) trivial ?_
        refine Wh_take 6 rfl (by kernel_rfl) (by kernel_rfl) rfl (fun _ _ => opv_extract (v := .agg _) rfl rfl) trivial ?_; refine Wh_take 7 rfl (by kernel_rfl) (by kernel_rfl) rfl (fun _ _ => opv_extract (v := .bool _) rfl rfl) trivial ?_
        refine Wh_all (rs := [9]) (by kernel_rfl) rfl ?_; refine WhAll_cons rfl ?_ ?_; refine Wo_st2 rfl Tryz.sizeOf28 rfl rfl (by first | rfl | assumption) (by first | rfl | assumption) (hB3.ext E13) (by omega) (Ehr1.trans E13) ?_
        rintro w12 E14 hB3 K3 hz3; have hB1 := (hB1.ext E13).of_heap (K3 _ (by omega)); have hB2 := (hB2.ext E13).of_heap (K3 _ (by omega)); have hX := (hX.ext E13).wrote K3 (by omega); have hX1 := hX1.wrote K3 (by omega)
        have hr1 := hr1.wrote E14 (K3 _ (by omega)) hz3; have hG := grownBy_wrote hG (Ehr1.trans E13) E14 K3 hz3 (by first | exact .inr rfl | omega); refine Wo_nil ?_; refine ⟨trivial, ?_⟩
        refine Wh_take 10 rfl (by kernel_rfl) (by kernel_rfl) rfl (fun _ _ => opv_assign (v := .bool _) rfl) trivial ?_; refine Wh_done (by kernel_rfl) ?_; rotate_left; exact WhAll_nil; exact WhAll_nil; exact WhAll_nil; exact WhAll_nil
        exact WhAll_nil; exact WhAll_nil
      all_goals exact ⟨(b3, u3, q2, ⟨if DkOk d then (doV d ⟨k2, t1, n1⟩).1.now else [], if DkOk d then (doV d ⟨k2, t1, n1⟩).1.past else []⟩, _, _, _), ⟨rfl, rfl, trivial⟩, by repeat (first | with_reducible exact Same.refl | refine Same.upd rfl ?_ | refine Same.upds rfl ?_ | refine Same.mix rfl ?_), hG, hr1, by omega, hB1, hB2, hB3, by omega, by omega, hX, by omega, by omega, by omega, by omega, hX1.ximp (fun h => ⟨h, by omega⟩), icu3, icq2, hd.do _, Nat.le_trans (DIn.len _) (by omega)⟩
    clear hr hG hX hB1 hB2 kD kS
    rintro ⟨b9, x1', x2', d', lo', hi', ok⟩ ρ8 w8 ⟨hG, hr, hs8, hB1, hB2, hB9, hlw8, hhw8, hX, hbl', hlw', hhw', hb2', hX', ic1', ic2', hd', hdl'⟩
    have E8' := hr.old
    cases ok
    · focus
        have szE8' := E8'.size; have szE7 := E7.size; have szEhr3 := Ehr3.size; have szE8 := E8.size; have szE7 := E7.size; have szE6 := E6.size; have szE5 := E5.size; have szE4 := E4.size; have szEhr2 := Ehr2.size; have szEhr1 := Ehr1.size
        have szE1 := E1.size; have szE0 := E0.size; refine W_seq ?_; refine W_region rfl ?_; refine Wo rfl (opv_move (v := .bool _) rfl) ?_; refine Wo_nil ?_; refine W_cond_false rfl ?_; refine W_skip ?_; refine W_region rfl ?_
        refine Wo rfl (opv_move (v := .int _ _) rfl) ?_; refine Wo rfl (opv_sub rfl rfl (by omega)) ?_; refine Wo rfl (opv_assign (v := .int _ _) rfl) ?_; refine Wo_nil ?_
      refine ⟨(k - 1, v1, v2, d, lo, hi), ⟨congrArg (Value.int .i64) (show (k : Int) - 1 = ((k - 1 : Nat) : Int) by omega), trivial⟩, by repeat (first | with_reducible exact Same.refl | refine Same.upd rfl ?_ | refine Same.upds rfl ?_ | refine Same.mix rfl ?_), ?_, by simp only; omega⟩
      exact ⟨hG, by first | exact hr1.le (by omega) | exact hr.le (by omega), by omega, by omega, hB1, hB2, hbl, by omega, by omega, hb2, hX, ic1, ic2, hd, by first | omega | (simp only; omega)⟩
    · have hX' := hX'.xthen rfl
      focus
        have szE8' := E8'.size; have szE7 := E7.size; have szEhr3 := Ehr3.size; have szE8 := E8.size; have szE7 := E7.size; have szE6 := E6.size; have szE5 := E5.size; have szE4 := E4.size; have szEhr2 := Ehr2.size; have szEhr1 := Ehr1.size
        have szE1 := E1.size; have szE0 := E0.size; refine W_seq ?_; refine W_region rfl ?_; refine Wo rfl (opv_move (v := .bool _) rfl) ?_; refine Wo_nil ?_; refine W_cond_true rfl ?_; refine W_region rfl ?_
        refine Wo (v := .agg _) rfl (opv_load2 Tryz.isAgg28 Tryz.sizeOf28 rfl hB9) ?_; refine Wo_st2 rfl Tryz.sizeOf28 rfl rfl (by first | rfl | assumption) (by first | rfl | assumption) hB2 (by omega) E8' ?_; rintro w9 E10 hB2 K2 hz2
        have hG := grownBy_wrote hG E8' E10 K2 hz2 (by first | exact .inr rfl | omega); have hr := hr.wrote E10 (K2 _ (by omega)) hz2; have hB1 := hB1.of_heap (K2 _ (by omega)); have hX := hX.wrote K2 (by omega)
        have hX' := hX'.wrote K2 (by omega); refine Wo_nil ?_; refine W_region rfl ?_; refine Wo rfl (opv_move (v := .int _ _) rfl) ?_; refine Wo rfl (opv_sub rfl rfl (by omega)) ?_; refine Wo rfl (opv_assign (v := .int _ _) rfl) ?_
        refine Wo_nil ?_
      refine ⟨(k - 1, x1', x2', d', lo', hi'), ⟨congrArg (Value.int .i64) (show (k : Int) - 1 = ((k - 1 : Nat) : Int) by omega), trivial⟩, by repeat (first | with_reducible exact Same.refl | refine Same.upd rfl ?_ | refine Same.upds rfl ?_ | refine Same.mix rfl ?_), ?_, by simp only; omega⟩
      exact ⟨hG, by first | exact hr1.le (by omega) | exact hr.le (by omega), by omega, by omega, hB1, hB2, hbl', by omega, by omega, .inr hb2', hX', ic1', ic2', hd', by first | omega | (simp only; omega)⟩
  · obtain rfl : k = 0 := by omega
    have stop10 : True := trivial
    focus
      have szE7 := E7.size; have szEhr3 := Ehr3.size; have szE8 := E8.size; have szE7 := E7.size; have szE6 := E6.size; have szE5 := E5.size; have szE4 := E4.size; have szEhr2 := Ehr2.size; have szEhr1 := Ehr1.size; have szE1 := E1.size
      have szE0 := E0.size; refine W_seq ?_; refine W_seq ?_; refine W_region rfl ?_; refine Wo rfl (opv_move (v := .int _ _) rfl) ?_; refine Wo rfl (opv_gtr rfl rfl) ?_; refine Wo_nil ?_
      refine W_cond_dec rfl (fun h1 => ?_) (fun h1 => ?_); contradiction; refine W_exit ?_; refine exitX_same ?_; refine W_seq ?_; refine W_seq ?_; refine W_region rfl ?_; refine Wo rfl (opv_move (v := .pointer _) rfl) ?_
      refine Wo rfl (opv_move (v := .int _ _) rfl) ?_; refine Wo_call rfl (opc2 (a := .pointer _) (b := .int _ _) Tryz.call64 rfl rfl) (odd_ok _ _ (by assumption) (by omega) (by omega)) ?_; rintro _ w8 ⟨y3, rfl, E10, hr1, hy4⟩
      (try dsimp only at hy4); have hlhr1 := hr1.lt; have Ehr1 := hr1.old; have hG := grownBy_trans hG E10; have hB1 := hB1.grown E10 (by simp only [ne_eq, Option.some.injEq]; omega)
      have hB2 := hB2.grown E10 (by simp only [ne_eq, Option.some.injEq]; omega); have hX := hX.grown E10 (by omega); have hs7 := E10.size; refine Wo_nil ?_; refine W_cond rfl (fun h2 => ?_) (fun h2 => ?_); refine W_seq ?_; rotate_left
      refine W_skip ?_; refine W_seq ?_; refine W_region rfl ?_; refine Wo (v := .agg _) rfl (opv_load2 Tryz.isAgg28 Tryz.sizeOf28 rfl hB2) ?_
      refine Wo_st2 rfl Tryz.sizeOf28 rfl rfl (by first | rfl | assumption) (by first | rfl | assumption) hB1 (by omega) Ehr1 ?_; rintro w9 E11 hB1 K2 hz2; have hr1 := hr1.wrote E11 (K2 _ (by omega)) hz2
      have hG := grownBy_wrote hG Ehr1 E11 K2 hz2 (by first | exact .inr rfl | omega); have hB2 := hB2.of_heap (K2 _ (by omega)); have hX := hX.wrote K2 (by omega); refine Wo_nil ?_; refine W_ret ?_; rotate_left
    · clear stop10
      have stop13 : True := trivial
      have stop15 : True := trivial
      focus
        have szEhr1 := Ehr1.size; have szE7 := E7.size; have szEhr3 := Ehr3.size; have szE8 := E8.size; have szE7 := E7.size; have szE6 := E6.size; have szE5 := E5.size; have szE4 := E4.size; have szEhr2 := Ehr2.size
        have szEhr1 := Ehr1.size; have szE1 := E1.size; have szE0 := E0.size; refine W_region rfl ?_; refine Wo rfl (opv_move (v := .pointer _) rfl) ?_
        refine Wo_call rfl (opc2 (a := .pointer _) (b := .int _ _) Tryz.call46 rfl rfl) (pick_ok _ _ (by assumption) (by omega)) ?_; rintro _ w9 ⟨y4, rfl, E11, hr4, hy5⟩; (try dsimp only at hy5); have hlhr4 := hr4.lt; have Ehr4 := hr4.old
        have hG := grownBy_trans hG E11; have hB1 := hB1.grown E11 (by simp only [ne_eq, Option.some.injEq]; omega); have hB2 := hB2.grown E11 (by simp only [ne_eq, Option.some.injEq]; omega); have hX := hX.grown E11 (by omega)
        have hs8 := E11.size; refine Wo_nil ?_; refine W_block ?_; refine W_seq ?_; refine W_region rfl ?_; refine Wo rfl (opv_eql rfl rfl) ?_; refine Wo rfl (opv_assign (v := .bool _) rfl) ?_; refine Wo_nil ?_
        refine W_cond_dec rfl (fun h3 => ?_) (fun h3 => ?_); rotate_left; refine W_seq ?_; refine W_region rfl ?_; refine Wo rfl (opv_eql rfl rfl) ?_; refine Wo rfl (opv_assign (v := .bool _) rfl) ?_; refine Wo_nil ?_
        refine W_cond_dec rfl (fun h4 => ?_) (fun h4 => ?_); rotate_left; refine W_seq ?_; refine W_region rfl ?_; refine Wo rfl (opv_build (ps := []) (cs := [_, _]) flat28 rfl rfl) ?_
        refine Wo_st2 rfl Tryz.sizeOf28 rfl rfl (by first | rfl | assumption) (by first | rfl | assumption) hB1 (by omega) Ehr4 ?_; rintro w10 E12 hB1 K2 hz2; have hr4 := hr4.wrote E12 (K2 _ (by omega)) hz2
        have hG := grownBy_wrote hG Ehr4 E12 K2 hz2 (by first | exact .inr rfl | omega); have hB2 := hB2.of_heap (K2 _ (by omega)); have hX := hX.wrote K2 (by omega); refine Wo_nil ?_; refine W_ret ?_; rotate_left
      · clear stop13 stop15
        have keepR : True := trivial
        focus
          have szEhr4 := Ehr4.size; have szEhr1 := Ehr1.size; have szE7 := E7.size; have szEhr3 := Ehr3.size; have szE8 := E8.size; have szE7 := E7.size; have szE6 := E6.size; have szE5 := E5.size; have szE4 := E4.size
          have szEhr2 := Ehr2.size; have szEhr1 := Ehr1.size; have szE1 := E1.size; have szE0 := E0.size; refine W_region rfl ?_
          refine Wo_buildSliceH (ps := [(0, .int _ _), (1, .int _ _)]) (cs := [_, _]) rfl Tryz.underlying58 Tryz.sizeOf3 Tryz.zeroValue3 rfl rfl rfl rfl ?_; rintro b3 w10 hb3 E12 hB3 hHb3; have hlb3 := hB3.lt; have hLb3 := own_lit2 hHb3 hb3
          clear hHb3; have hr4 := hr4.ext E12; have hG := grownBy_ext hG E12; have hs9 := E12.size
          refine Wo_buildSliceH (ps := [(0, .int _ _), (1, .int _ _)]) (cs := [_, _]) rfl Tryz.underlying58 Tryz.sizeOf3 Tryz.zeroValue3 rfl rfl rfl rfl ?_; rintro b4 w11 hb4 E13 hB4 hHb4; have hlb4 := hB4.lt; have hLb4 := own_lit2 hHb4 hb4
          clear hHb4; have hr4 := hr4.ext E13; have hG := grownBy_ext hG E13; have hs10 := E13.size
          refine Wo_buildSliceH (ps := [(0, .slice _ _ _), (1, .slice _ _ _)]) (cs := [_, _]) rfl Tryz.underlying22 Tryz.sizeOf58 Tryz.zeroValue58 rfl rfl rfl rfl ?_; rintro b5 w12 hb5 E14 hB5 hHb5; have hlb5 := hB5.lt
          have hr4 := hr4.ext E14; have hG := grownBy_ext hG E14; have hs11 := E14.size; refine Wo rfl (opv_fieldAddr Tryz.underlying28 rfl rfl Tryz.sizeOf22 rfl) ?_
          refine Wo_st (v := .slice _ _ _) rfl Tryz.sizeOf22 rfl rfl rfl (hB2.ext ((E12.trans E13).trans E14)) (by simp) (by omega) (((Ehr4.trans E12).trans E13).trans E14) ?_; rintro w13 E15 hB2 K2 hz2; simp only [List.set] at hB2
          have hB1 := (hB1.ext ((E12.trans E13).trans E14)).of_heap (K2 _ (by omega)); have hX := (hX.ext ((E12.trans E13).trans E14)).wrote K2 (by omega); have hB3 := (hB3.ext (E13.trans E14)).of_heap (K2 _ (by omega))
          have hLb3 := (hLb3.toB.ext (E13.trans E14)).wrote K2 (by omega); have hB4 := (hB4.ext E14).of_heap (K2 _ (by omega)); have hLb4 := (hLb4.toB.ext E14).wrote K2 (by omega); have hB5 := hB5.of_heap (K2 _ (by omega))
          have hr4 := hr4.wrote E15 (K2 _ (by omega)) hz2; have hG := grownBy_wrote hG (((Ehr4.trans E12).trans E13).trans E14) E15 K2 hz2 (by first | exact .inr rfl | omega); refine Wo_nil ?_; refine W_seq ?_; refine W_region rfl ?_
          refine Wo (v := .agg _) rfl (opv_load2 Tryz.isAgg28 Tryz.sizeOf28 rfl hB2) ?_; refine Wo_st2 rfl Tryz.sizeOf28 rfl rfl (by first | rfl | assumption) (by first | rfl | assumption) hB1 (by omega) E15 ?_; rintro w14 E16 hB1 K3 hz3
          have hB2 := hB2.of_heap (K3 _ (by omega)); have hX := hX.wrote K3 (by omega); have hB3 := hB3.of_heap (K3 _ (by omega)); have hLb3 := hLb3.wrote K3 (by omega); have hB4 := hB4.of_heap (K3 _ (by omega))
          have hLb4 := hLb4.wrote K3 (by omega); have hB5 := hB5.of_heap (K3 _ (by omega)); have hr4 := hr4.wrote E16 (K3 _ (by omega)) hz3; have hG := grownBy_wrote hG E15 E16 K3 hz3 (by first | exact .inr rfl | omega); refine Wo_nil ?_
          refine W_ret ?_
        have hA : Above w.heap.size (ESl Ints) w14 (.slice (some ⟨b5, 0, none⟩) 2 2) [[0, 0], [0, 0]] := fun w1' hk hsz => (hB5.keep hk (by omega)).slice (xs := [[0, 0], [0, 0]]) rfl (by decide) (fun i g1 g2 => match i, g1, g2 with
          | 0, _, _ => (hLb3.above.mono (lo' := w.heap.size) (by omega)) w1' hk hsz
          | 1, _, _ => (hLb4.above.mono (lo' := w.heap.size) (by omega)) w1' hk hsz
          | (i + 2), g1, _ => absurd g1 (by simp))
        exact ⟨b1, _, v2, rfl, hB1, _, v2, [[0, 0], [0, 0]], d.past, rfl, hG, hr4.le (by omega), hA, hX.dkPast.rd_above.mono (by omega), rfl, ic2, by omega, .inr gr00⟩
      · clear stop13 stop15
        focus
          have szEhr4 := Ehr4.size; have szEhr1 := Ehr1.size; have szE7 := E7.size; have szEhr3 := Ehr3.size; have szE8 := E8.size; have szE7 := E7.size; have szE6 := E6.size; have szE5 := E5.size; have szE4 := E4.size
          have szEhr2 := Ehr2.size; have szEhr1 := Ehr1.size; have szE1 := E1.size; have szE0 := E0.size; refine W_region rfl ?_; refine Wo rfl (opv_fieldAddr Tryz.underlying28 rfl rfl Tryz.sizeOf23 rfl) ?_
          refine Wo (v := v2) rfl (opv_load Tryz.isAgg23 rfl (hB2.cell rfl)) ?_; refine Wo_lit0 (XSl 3 XInt) rfl el22 Tryz.sizeOf58 ?_; rintro b3 w10 hb3 b3lt E12 hO3; have hr4 := hr4.ext E12; have hG := grownBy_ext hG E12
          have hs9 := E12.size; refine Wo_buildSlice (ps := [(0, .slice _ _ _)]) (cs := [_]) rfl Tryz.underlying23 Tryz.sizeOf22 Tryz.zeroValue22 rfl rfl rfl rfl ?_; rintro b4 w11 hb4 E13 hB3; have hlb4 := hB3.lt; have hr4 := hr4.ext E13
          have hG := grownBy_ext hG E13; have hs10 := E13.size
        refine Wo_appDk rfl el23 rfl rfl hB3 (hX.ext (E12.trans E13)) ((hO3.ext E13).read) (by omega) (by omega) ?_
        rintro q v9 w12 hq1 hq2 hg ⟨fp, hfp, hX9⟩
        have icv9 : isCell v9 = true := Go.Hs.Loc.cell hX9
        have hr5 := hr4.beside hg (by omega) (by omega)
        have hG := grownBy_beside hG hg (by omega)
        have hB1 := (hB1.ext (E12.trans E13)).grown hg (by simp only [ne_eq, Option.some.injEq]; omega)
        have hB2 := (hB2.ext (E12.trans E13)).grown hg (by simp only [ne_eq, Option.some.injEq]; omega)
        have hsg := hg.size
        have hE12 := hr5.old
        clear hX hr4 hB3 hO3
        focus
          have szE13 := E13.size; have szE12 := E12.size; have szEhr4 := Ehr4.size; have szEhr1 := Ehr1.size; have szE7 := E7.size; have szEhr3 := Ehr3.size; have szE8 := E8.size; have szE7 := E7.size; have szE6 := E6.size
          have szE5 := E5.size; have szE4 := E4.size; have szEhr2 := Ehr2.size; have szEhr1 := Ehr1.size; have szE1 := E1.size; have szE0 := E0.size; refine Wo rfl (opv_fieldAddr Tryz.underlying28 rfl rfl Tryz.sizeOf23 rfl) ?_
          refine Wo_st (v := v9) rfl Tryz.sizeOf23 rfl rfl (by assumption) hB2 (by first | decide | simp) (by omega) hE12 ?_; rintro w13 E14 hB2 K2 hz2; simp only [List.set] at hB2; have hr5 := hr5.wrote E14 (K2 _ (by omega)) hz2
          have hG := grownBy_wrote hG hE12 E14 K2 hz2 (by first | exact .inr rfl | omega); have hB1 := hB1.of_heap (K2 _ (by omega)); refine Wo_nil ?_; refine W_seq ?_; refine W_region rfl ?_
          refine Wo (v := .agg _) rfl (opv_load2 Tryz.isAgg28 Tryz.sizeOf28 rfl hB2) ?_; refine Wo_st2 rfl Tryz.sizeOf28 rfl rfl (by first | rfl | assumption) (by first | rfl | assumption) hB1 (by omega) E14 ?_; rintro w14 E15 hB1 K3 hz3
          have hB2 := hB2.of_heap (K3 _ (by omega)); have hr5 := hr5.wrote E15 (K3 _ (by omega)) hz3; have hG := grownBy_wrote hG E14 E15 K3 hz3 (by first | exact .inr rfl | omega); refine Wo_nil ?_; refine W_ret ?_
        have hX9 : XDk 22 w14 fp v9 (v1, d.now, d.past ++ [[]]) := Go.Hs.Loc.loc (fun k hk => by have := hfp k hk; exact (K3 k (by omega)).trans (K2 k (by omega))) hX9
        have hXo := hX9.own (lo := w.heap.size) (fun k hk => by have := hfp k hk; omega)
        exact ⟨b1, v1, v9, rfl, hB1, v1, v9, d.now, d.past ++ [[]], rfl, hG, hr5.le (by omega), hXo.dkNow.rd_above, hXo.dkPast.rd_above, ic1, icv9, by omega, hd.now⟩
      · exact ⟨b1, _, _, rfl, hB1, _, _, [], [], rfl, hG, hr4.le (by omega), (Owned.nil (e := 0) (X := XSl 0 XInt)).above, (Owned.nil (e := 0) (X := XSl 0 (XSl 0 XInt))).above, rfl, rfl, by omega, .inl rfl⟩
    · exact ⟨b1, v1, v2, rfl, hB1, v1, v2, _, _, rfl, hG, by first | exact hr1.le (by omega) | exact hr.le (by omega), hX.dkNow.rd_above.mono (by omega), hX.dkPast.rd_above.mono (by omega), ic1, ic2, by omega, hd.now⟩

end Go.Proofs.YtgphoihilheoeaaGreatDoor
set_option linter.unusedVariables false
namespace Go.Hs
/-- a desk with some property -/
def RetDkP (w : World) (p : Dsk → Prop) : Value → World → Prop := fun v w' => ∃ u1 u2 now past, v = .agg #[u1, u2] ∧ Ext w w' ∧ ESl Ints w' u1 now ∧ ESl (ESl Ints) w' u2 past ∧ isCell u1 = true ∧ isCell u2 = true ∧ p ⟨now, past⟩
end Go.Hs
namespace Go.Proofs.YtgphoihilheoeaaGreatDoor
open Go.Hs
set_option maxRecDepth 10000
set_option maxHeartbeats 4000000
set_option linter.unusedVariables false
set_option linter.unusedSimpArgs false

theorem DrawDeskOk_ok (w : World) (v : Value) (xs : List UInt8) (h : Bytes w v xs) (hc : CapOk v) : Does Tryz.prog 18 [v] w (RetDkP w (fun d => NowP d.now)) := by
  have hle := h.le
  have k1 : ∀ (w0 w : World) (br m : Nat), Rdr w0 w br m → m ≤ 1000000 → Does Tryz.prog 36 [.pointer (some ⟨br, 0, none⟩), .int .i64 2] w (RetDK w0 w br (m + 140) (fun d => NowP d.now)) := fun w0 w br m hr hm => DeskN_ok (n := 2) w hr hm (by omega)
  refine fn_of_Wc Tryz.func18 rfl Tryz.results18 Tryz.ntmps18 rfl Tryz.isAgg28 Tryz.sizeOf28 ?_
  focus
    refine W_seq ?_; refine W_region rfl ?_; refine Wo_alloc2 rfl flat28 ?_; rintro b1 w1 hb1 E1 hB1; have hlb1 := hB1.lt; have hs1 := E1.size; refine Wo_nil ?_; refine W_seq ?_; refine W_region rfl ?_
    refine Wo rfl (opv_move (v := v) rfl) ?_; refine Wo_call rfl (opc1 (a := v) Tryz.call28 rfl) (open_ok _ _ _ ((Mono.mono E1 h)) (by assumption)) ?_; rintro _ w2 ⟨E2, y1, rfl, hy1⟩; have hlhy1 := hy1.lt; have hghy1 := hy1.ge
    have hs2 := E2.size; refine Wo_call rfl (opc2 (a := .pointer _) (b := .int _ _) Tryz.call36 rfl rfl) (k1 _ _ _ _ (by assumption) (by omega)) ?_; rintro _ w3 ⟨u1, q1, x1, y2, rfl, E3, hr1, hA1, hC1, icu1, icq1, gwu1, hy2⟩
    (try dsimp only at hy2); have hlhr1 := hr1.lt; have Ehr1 := hr1.old; have hB1 := (hB1.ext E2).grown E3 (by simp only [ne_eq, Option.some.injEq]; omega); have hs3 := E3.size
    refine Wo_st2 rfl Tryz.sizeOf28 rfl rfl (by first | rfl | assumption) (by first | rfl | assumption) hB1 (by omega) (E1.trans Ehr1) ?_; rintro w4 E4 hB1 K1 hz1; have hA1 := hA1.keep (fun k h1 h2 => K1 k (by omega)) (by omega)
    have hC1 := hC1.keep (fun k h1 h2 => K1 k (by omega)) (by omega); refine Wo_nil ?_; refine W_ret ?_
  exact ⟨b1, u1, q1, rfl, hB1, u1, q1, x1, _, rfl, by exact E4, hA1.here, hC1.here, icu1, icq1, hy2⟩

open Classical in
theorem FnDeskOk_walk (w : World) (v : Value) (xs : List UInt8) (h : Bytes w v xs) (hc : CapOk v) : Does Tryz.prog 5 [v] w (Ret w (.bool true)) := by
  have hle := h.le
  refine fn_of_W1 Tryz.func5 rfl Tryz.results5 Tryz.ntmps5 rfl ?_
  have stop4 : True := trivial
  focus
    refine W_seq ?_; refine W_region rfl ?_; refine Wo rfl (opv_assign (v := .bool _) rfl) ?_; refine Wo_nil ?_; refine W_seq ?_; refine W_seq ?_; refine W_region rfl ?_; refine Wo rfl (opv_move (v := v) rfl) ?_
    refine Wo rfl (opv_len Tryz.underlying32 rfl h) ?_; refine Wo rfl (opv_gtr rfl rfl) ?_; refine Wo_nil ?_; refine W_cond_dec rfl (fun h1 => ?_) (fun h1 => ?_); refine W_seq ?_; refine W_region rfl ?_
    refine Wo rfl (opv_assign (v := .bool _) rfl) ?_; refine Wo_nil ?_; refine W_ret ?_; exact ⟨rfl, (Ext.refl _)⟩; refine W_skip ?_; refine W_seq ?_; refine W_region rfl ?_; refine Wo rfl (opv_move (v := v) rfl) ?_
    refine Wo_call rfl (opc1 (a := v) Tryz.call18 rfl) (DrawDeskOk_ok _ _ _ (h) (by assumption)) ?_; rintro _ w1 ⟨u1, q1, x1, y1, rfl, E1, hA1, hC1, icu1, icq1, hy1⟩; have hs1 := E1.size; refine Wo_alloc2 rfl flat28 ?_
    rintro b1 w2 hb1 E2 hB1; have hlb1 := hB1.lt; have hs2 := E2.size; refine Wo_st2 rfl Tryz.sizeOf28 rfl rfl (by first | rfl | assumption) (by first | rfl | assumption) hB1 (by omega) (E1.trans E2) ?_; rintro w3 E3 hB1 K1 hz1
    have E4 := E2.wroteAt (E1.trans E2) E3 K1 hz1 (by omega); have szE4 := E4.size; refine Wo_nil ?_; refine W_seq ?_
  clear stop4
  have hn : ¬ DkOk ⟨[], []⟩ := fun h => by have := h.1.1.1; simp at this
  have k3 : ∀ (w : World), Does Tryz.prog 9 [.agg #[.slice none 0 0, .slice none 0 0]] w (Ret w (.bool false)) := fun w => by
    have := impl_DeskOk_ok w (.slice none 0 0) (.slice none 0 0) ⟨[], []⟩ ⟨_, _, rfl, RSl.nil⟩ ⟨_, _, rfl, RSl.nil⟩
    rwa [decide_eq_false hn] at this
  have k1 : ∀ (w : World), ESl Ints w u1 x1 → ESl (ESl Ints) w q1 y1 → Does Tryz.prog 9 [.agg #[u1, q1]] w (Ret w (.bool (decide (DkOk ⟨x1, y1⟩)))) := fun w h1 h2 => impl_DeskOk_ok w u1 q1 ⟨x1, y1⟩ h1 h2
  have k2 : ∀ (w : World), ESl Ints w u1 x1 → ESl (ESl Ints) w q1 y1 → Does Tryz.prog 7 [.agg #[u1, q1]] w (Ret w (.bool (decide (DkOk ⟨x1, y1⟩)))) := fun w h1 h2 => spec_DeskOk_ok w u1 q1 ⟨x1, y1⟩ h1 h2
  have litown : True := trivial
  by_cases hd : DkOk ⟨x1, y1⟩
  · rw [decide_eq_true hd] at k1 k2
    have k4 : ∀ (w : World), ESl Ints w u1 x1 → Does Tryz.prog 9 [.agg #[u1, .slice none 0 0]] w (Ret w (.bool true)) := fun w h1 => by
      have := impl_DeskOk_ok w u1 (.slice none 0 0) ⟨x1, []⟩ h1 ⟨_, _, rfl, RSl.nil⟩
      rwa [decide_eq_true ⟨hd.1, by simp, fun p hp => by cases hp⟩] at this
    focus
      have szE4 := E4.size; have szE3 := E3.size; have szE2 := E2.size; have szE1 := E1.size; refine W_region rfl ?_; refine Wo (v := .agg _) rfl (opv_load2 Tryz.isAgg28 Tryz.sizeOf28 rfl hB1) ?_
      refine Wo_call rfl (opc1 (a := .agg _) Tryz.call9 rfl) (k1 _ ((Mono.mono E4 hA1)) ((Mono.mono E4 hC1))) ?_; rintro _ w4 ⟨rfl, E5⟩; have hs3 := E5.size; refine Wo rfl (opv_assign (v := .bool _) rfl) ?_; refine Wo_nil ?_
      refine W_seq ?_; refine W_seq ?_; refine W_region rfl ?_; refine Wo rfl (opv_move (v := .bool _) rfl) ?_; refine Wo (v := .agg _) rfl (opv_load2 Tryz.isAgg28 Tryz.sizeOf28 rfl (hB1.ext E5)) ?_
      refine Wo_call rfl (opc1 (a := .agg _) Tryz.call7 rfl) (k2 _ ((Mono.mono (E4.trans E5) hA1)) ((Mono.mono (E4.trans E5) hC1))) ?_; rintro _ w5 ⟨rfl, E6⟩; have hs4 := E6.size; refine Wo rfl (opv_neq_bool Tryz.underlying4 rfl rfl) ?_
      refine Wo_nil ?_; refine W_cond_ndec rfl (fun h2 => ?_) (fun h2 => ?_); contradiction; refine W_skip ?_; refine W_seq ?_; refine W_region rfl ?_; refine Wo rfl (opv_move (v := .bool _) rfl) ?_; refine Wo rfl (opv_not rfl) ?_
      refine Wo_split rfl (opv_move (v := .bool _) rfl) (fun h3 => ?_) (fun h3 => ?_); contradiction; refine Wo rfl (opv_fieldAddr Tryz.underlying28 rfl rfl Tryz.sizeOf22 rfl) ?_
      refine Wo (v := u1) rfl (opv_load Tryz.isAgg22 rfl ((hB1.ext (E5.trans E6)).cell rfl)) ?_; refine Wo rfl (opv_buildF0 flat28 rfl (by assumption)) ?_
      refine Wo_call rfl (opc1 (a := .agg _) Tryz.call9 rfl) (k4 _ ((Mono.mono ((E4.trans E5).trans E6) hA1))) ?_; rintro _ w6 ⟨rfl, E7⟩; have hs5 := E7.size; refine Wo rfl (opv_pick_f (v := .bool _) rfl rfl) ?_
      refine Wo rfl (opv_move (v := .bool _) rfl) ?_; refine Wo rfl (opv_build (ps := []) (cs := [_, _]) flat28 rfl rfl) ?_; refine Wo_call rfl (opc1 (a := .agg _) Tryz.call9 rfl) (k3 _) ?_; rintro _ w7 ⟨rfl, E8⟩; have hs6 := E8.size
      refine Wo rfl (opv_not rfl) ?_; refine Wo rfl (opv_pick_t (v := .bool _) rfl rfl) ?_; refine Wo_split rfl (opv_move (v := .bool _) rfl) (fun h4 => ?_) (fun h4 => ?_); refine Wo_call rfl (opc0 Tryz.call16) (alive_ok _) ?_
      rintro _ w8 ⟨rfl, E9⟩; have hs7 := E9.size; refine Wo rfl (opv_pick_t (v := .bool _) rfl rfl) ?_; refine Wo rfl (opv_assign (v := .bool _) rfl) ?_; refine Wo_nil ?_; refine W_ret ?_
      exact ⟨rfl, (((((E3.trans E5).trans E6).trans E7).trans E8).trans E9)⟩; contradiction
  · rw [decide_eq_false hd] at k1 k2
    focus
      have szE4 := E4.size; have szE3 := E3.size; have szE2 := E2.size; have szE1 := E1.size; refine W_region rfl ?_; refine Wo (v := .agg _) rfl (opv_load2 Tryz.isAgg28 Tryz.sizeOf28 rfl hB1) ?_
      refine Wo_call rfl (opc1 (a := .agg _) Tryz.call9 rfl) (k1 _ ((Mono.mono E4 hA1)) ((Mono.mono E4 hC1))) ?_; rintro _ w4 ⟨rfl, E5⟩; have hs3 := E5.size; refine Wo rfl (opv_assign (v := .bool _) rfl) ?_; refine Wo_nil ?_
      refine W_seq ?_; refine W_seq ?_; refine W_region rfl ?_; refine Wo rfl (opv_move (v := .bool _) rfl) ?_; refine Wo (v := .agg _) rfl (opv_load2 Tryz.isAgg28 Tryz.sizeOf28 rfl (hB1.ext E5)) ?_
      refine Wo_call rfl (opc1 (a := .agg _) Tryz.call7 rfl) (k2 _ ((Mono.mono (E4.trans E5) hA1)) ((Mono.mono (E4.trans E5) hC1))) ?_; rintro _ w5 ⟨rfl, E6⟩; have hs4 := E6.size; refine Wo rfl (opv_neq_bool Tryz.underlying4 rfl rfl) ?_
      refine Wo_nil ?_; refine W_cond_ndec rfl (fun h2 => ?_) (fun h2 => ?_); contradiction; refine W_skip ?_; refine W_seq ?_; refine W_region rfl ?_; refine Wo rfl (opv_move (v := .bool _) rfl) ?_; refine Wo rfl (opv_not rfl) ?_
      refine Wo_split rfl (opv_move (v := .bool _) rfl) (fun h3 => ?_) (fun h3 => ?_); refine Wo_skip rfl ?_; refine Wo_skip rfl ?_; refine Wo_skip rfl ?_; refine Wo_skip rfl ?_; refine Wo rfl (opv_pick_t (v := .bool _) rfl rfl) ?_
      refine Wo rfl (opv_move (v := .bool _) rfl) ?_; refine Wo rfl (opv_build (ps := []) (cs := [_, _]) flat28 rfl rfl) ?_; refine Wo_call rfl (opc1 (a := .agg _) Tryz.call9 rfl) (k3 _) ?_; rintro _ w6 ⟨rfl, E7⟩; have hs5 := E7.size
      refine Wo rfl (opv_not rfl) ?_; refine Wo rfl (opv_pick_t (v := .bool _) rfl rfl) ?_; refine Wo_split rfl (opv_move (v := .bool _) rfl) (fun h4 => ?_) (fun h4 => ?_); refine Wo_call rfl (opc0 Tryz.call16) (alive_ok _) ?_
      rintro _ w7 ⟨rfl, E8⟩; have hs6 := E8.size; refine Wo rfl (opv_pick_t (v := .bool _) rfl rfl) ?_; refine Wo rfl (opv_assign (v := .bool _) rfl) ?_; refine Wo_nil ?_; refine W_ret ?_
      exact ⟨rfl, ((((E3.trans E5).trans E6).trans E7).trans E8)⟩; contradiction; contradiction

end Go.Proofs.YtgphoihilheoeaaGreatDoor
