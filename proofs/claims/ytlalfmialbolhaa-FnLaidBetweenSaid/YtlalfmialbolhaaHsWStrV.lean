/- Walks: the law of what is laid between each other. -/
import Derived.Test.YtlalfmialbolhaaHsWStrU
import Derived.Test.YtlalfmialbolhaaHsWStrM
import Derived.Test.YtlalfmialbolhaaHsBt
namespace Go.Proofs.Ytlalfmialbolhaa
open Go.Hs
set_option maxRecDepth 10000
set_option maxHeartbeats 4000000
set_option linter.unusedVariables false
set_option linter.unusedSimpArgs false
theorem tk_lay0 {f g : Nat → Int} : tk (lay f g) 0 = f := by
  funext k
  show (if (2 * k + 0) % 2 = 0 then f ((2 * k + 0) / 2) else g ((2 * k + 0) / 2)) = f k
  rw [if_pos (by omega)]
  congr 1; omega
theorem tk_lay1 {f g : Nat → Int} : tk (lay f g) 1 = g := by
  funext k
  show (if (2 * k + 1) % 2 = 0 then f ((2 * k + 1) / 2) else g ((2 * k + 1) / 2)) = g k
  rw [if_neg (by omega)]
  congr 1; omega
theorem lay_stm {A B A' B' : List Int} (h : lbOk A B A' B') : Stm (shL (lay (bat A B) (bat A' B'))) (shR (lay (bat A B) (bat A' B'))) ∧ bat (shL (lay (bat A B) (bat A' B'))) (shR (lay (bat A B) (bat A' B'))) = lay (bat A B) (bat A' B') := by
  obtain ⟨h1, h2, h3, h4, h5⟩ := h
  have e1 : (shL (bat A B)).length = shA (bat A B) := win_len
  have e2 : (shR (bat A B)).length = shP (bat A B) := win_len
  have e3 : (shL (bat A' B')).length = shA (bat A' B') := win_len
  have e4 : (shR (bat A' B')).length = shP (bat A' B') := win_len
  have := per_lcm (h1.sh.1.up (show shA (bat A B) ≤ 1 by omega)) (h2.sh.1.up (show shA (bat A' B') ≤ 1 by omega))
  have hp := per_lay this.1 this.2
  rw [e2, e4] at h5
  obtain ⟨b, q, hs⟩ := IsSh.ex hp
  obtain ⟨e1, e2⟩ := hs.eq
  have h6 := hs.2 _ _ hp
  have hbl : ∀ k, lay (bat A B) (bat A' B') k = 0 ∨ lay (bat A B) (bat A' B') k = 1 := fun k => by
    unfold lay; split
    · exact h1.bit _
    · exact h2.bit _
  unfold shL shR
  rw [e1, e2]
  exact ⟨stm_win hbl hs.1.1 (by omega), bat_win hs.1⟩

theorem impl_StreamOk_ok (w : World) (u1 u2 : Value) (A B : List Int) (h1 : Ints w u1 A) (h2 : Ints w u2 B) (hA : A.length ≤ 4000000) (hB : B.length ≤ 4000000) : Does Try.prog 39 [.agg #[u1, u2]] w (Ret w (.bool (decide (Stm A B)))) := by
  refine fn_of_W1 Try.func39 rfl Try.results39 Try.ntmps39 rfl ?_
  focus
    refine W_seq ?_; refine W_region rfl ?_; refine Wo_box rfl rfl rfl ?_; rintro b1 w1 hb1 E1 hB1; have hlb1 := hB1.lt; have hs1 := E1.size; refine Wo rfl (opv_assign (v := .bool _) rfl) ?_; refine Wo_nil ?_; refine W_seq ?_
    refine W_region rfl ?_; refine Wo (v := .agg _) rfl (opv_load2 Try.isAgg25 Try.sizeOf25 rfl hB1) ?_
    refine Wo_call rfl (opc1 (a := .agg _) Try.call54 rfl) (isStream_ok _ _ _ _ _ ((Mono.mono E1 h1)) ((Mono.mono E1 h2)) (by assumption) (by assumption)) ?_; rintro _ w2 ⟨rfl, E2⟩; have hs2 := E2.size
    refine Wo rfl (opv_assign (v := .bool _) rfl) ?_; refine Wo_nil ?_; refine W_ret ?_; exact ⟨rfl, (E1.trans E2)⟩

theorem FnLaidBetween_walk (w : World) (v : Value) (xs : List UInt8) (h : Bytes w v xs) (hc : CapOk v) : Does Try.prog 10 [v] w (Ret w (.bool true)) := by
  classical
  have hle := h.le
  refine fn_of_W1 Try.func10 rfl Try.results10 Try.ntmps10 rfl ?_
  have stop4 : True := trivial
  focus
    refine W_seq ?_; refine W_region rfl ?_; refine Wo rfl (opv_assign (v := .bool _) rfl) ?_; refine Wo_nil ?_; refine W_seq ?_; refine W_seq ?_; refine W_region rfl ?_; refine Wo rfl (opv_move (v := v) rfl) ?_
    refine Wo rfl (opv_len Try.underlying22 rfl h) ?_; refine Wo rfl (opv_gtr rfl rfl) ?_; refine Wo_nil ?_; refine W_cond_dec rfl (fun h1 => ?_) (fun h1 => ?_); refine W_seq ?_; refine W_region rfl ?_
    refine Wo rfl (opv_assign (v := .bool _) rfl) ?_; refine Wo_nil ?_; refine W_ret ?_; exact ⟨rfl, (Ext.refl _)⟩; refine W_skip ?_; refine W_seq ?_; refine W_region rfl ?_; refine Wo rfl (opv_move (v := v) rfl) ?_
    refine Wo_call rfl (opc1 (a := v) Try.call38 rfl) (DrawLaidBetween_ok _ _ _ (h) (by assumption)) ?_; rintro _ w1 ⟨u1, q1, r1, s1, x1, y1, x'1, y'1, rfl, E1, hO1, hQ1, hR1, hS1, hy1, hy1'⟩; have icu1 := OwnedB.isC (Owned.toB hO1)
    have cpu1 := OwnedB.capOk (Owned.toB hO1); have icq1 := OwnedB.isC (Owned.toB hQ1); have cpq1 := OwnedB.capOk (Owned.toB hQ1); have icr1 := OwnedB.isC (Owned.toB hR1); have cpr1 := OwnedB.capOk (Owned.toB hR1)
    have ics1 := OwnedB.isC (Owned.toB hS1); have cps1 := OwnedB.capOk (Owned.toB hS1); have hs1 := E1.size; refine Wo rfl (opv_move (v := .tuple _) rfl) ?_; refine Wo rfl (opv_extract (v := .agg _) rfl rfl) ?_
    refine Wo rfl (opv_extract (v := .agg _) rfl rfl) ?_; refine Wo_alloc2 rfl flat25 ?_; rintro b1 w2 hb1 E2 hB1; have hlb1 := hB1.lt; have hs2 := E2.size; refine Wo_alloc2 rfl flat25 ?_; rintro b2 w3 hb2 E3 hB2; have hlb2 := hB2.lt
    have hs3 := E3.size; refine Wo_st2 rfl Try.sizeOf25 rfl rfl (by first | rfl | assumption) (by first | rfl | assumption) (hB1.ext E3) (by omega) ((E1.trans E2).trans E3) ?_; rintro w4 E4 hB1 K1 hz1
    have E5 := (E2.trans E3).wroteAt ((E1.trans E2).trans E3) E4 K1 hz1 (by omega); have szE5 := E5.size; have hO1 := (hO1.toB.ext (E2.trans E3)).wrote K1 (by omega); have hQ1 := (hQ1.toB.ext (E2.trans E3)).wrote K1 (by omega)
    have hR1 := (hR1.toB.ext (E2.trans E3)).wrote K1 (by omega); have hS1 := (hS1.toB.ext (E2.trans E3)).wrote K1 (by omega); have hB2 := hB2.of_heap (K1 _ (by omega))
    refine Wo_st2 rfl Try.sizeOf25 rfl rfl (by first | rfl | assumption) (by first | rfl | assumption) hB2 (by omega) E4 ?_; rintro w5 E6 hB2 K2 hz2; have E7 := E5.wroteAt E4 E6 K2 hz2 (by omega); have szE7 := E7.size
    have hB1 := hB1.of_heap (K2 _ (by omega)); have hO1 := hO1.wrote K2 (by omega); have hQ1 := hQ1.wrote K2 (by omega); have hR1 := hR1.wrote K2 (by omega); have hS1 := hS1.wrote K2 (by omega); refine Wo_nil ?_; refine W_seq ?_
  clear stop4
  obtain ⟨hA, hB⟩ := hy1
  obtain ⟨hA', hB'⟩ := hy1'
  have r1 := hO1.read
  have r2 := hQ1.read
  have r3 := hR1.read
  have r4 := hS1.read
  clear hO1 hQ1 hR1 hS1
  by_cases ho : lbOk x1 y1 x'1 y'1
  · have eV : lbV x1 y1 x'1 y'1 = (shL (lay (bat x1 y1) (bat x'1 y'1)), shR (lay (bat x1 y1) (bat x'1 y'1)), true) := if_pos ho
    obtain ⟨hS, hb⟩ := lay_stm ho
    have hS2 := hS.2.2
    have k1 : ∀ (w : World) (u1 u2 v1 v2 : Value), Ints w u1 x1 → Ints w u2 y1 → Ints w v1 x'1 → Ints w v2 y'1 → Does Try.prog 36 [.agg #[u1, u2], .agg #[v1, v2]] w (RetS2b w 3 (shL (lay (bat x1 y1) (bat x'1 y'1))) (shR (lay (bat x1 y1) (bat x'1 y'1))) true) := fun w u1 u2 v1 v2 h1 h2 h3 h4 => by
      have := impl_LaidBetween_ok w u1 u2 v1 v2 _ _ _ _ h1 h2 h3 h4 (by omega) (by omega) (by omega) (by omega)
      rw [eV] at this; exact this
    have k2 : ∀ (w : World) (u1 u2 v1 v2 : Value), Ints w u1 x1 → Ints w u2 y1 → Ints w v1 x'1 → Ints w v2 y'1 → Does Try.prog 35 [.agg #[u1, u2], .agg #[v1, v2]] w (RetS2b w 3 (shL (lay (bat x1 y1) (bat x'1 y'1))) (shR (lay (bat x1 y1) (bat x'1 y'1))) true) := fun w u1 u2 v1 v2 h1 h2 h3 h4 => by
      have := spec_LaidBetween_ok w u1 u2 v1 v2 _ _ _ _ h1 h2 h3 h4 (by omega) (by omega) (by omega) (by omega)
      rw [eV] at this; exact this
    have k3 : ∀ (w : World) (u1 u2 : Value), Ints w u1 (shL (lay (bat x1 y1) (bat x'1 y'1))) → Ints w u2 (shR (lay (bat x1 y1) (bat x'1 y'1))) → Does Try.prog 28 [.agg #[u1, u2]] w (RetS22 w 3 (shL (bat x1 y1)) (shR (bat x1 y1)) (shL (bat x'1 y'1)) (shR (bat x'1 y'1))) := fun w u1 u2 h1 h2 => by
      have := impl_EveryOther_ok w u1 u2 _ _ h1 h2 (by omega) (by omega)
      unfold evV at this
      rw [if_pos hS, if_pos hS, hb, tk_lay0, tk_lay1] at this; exact this
    have k4 : ∀ (w : World) (u1 u2 : Value), Ints w u1 (shL (lay (bat x1 y1) (bat x'1 y'1))) → Ints w u2 (shR (lay (bat x1 y1) (bat x'1 y'1))) → Does Try.prog 39 [.agg #[u1, u2]] w (Ret w (.bool true)) := fun w u1 u2 h1 h2 => by
      have := impl_StreamOk_ok w u1 u2 _ _ h1 h2 (by omega) (by omega)
      rw [decide_eq_true hS] at this; exact this
    have k5 : ∀ (w : World) (u1 u2 : Value), Ints w u1 x1 → Ints w u2 y1 → Does Try.prog 19 [.agg #[u1, u2]] w (RetS2 w 3 (shL (bat x1 y1)) (shR (bat x1 y1))) := fun w u1 u2 h1 h2 => by
      have := impl_ShortOf_ok w u1 u2 _ _ h1 h2 (by omega) (by omega)
      rw [show shV x1 y1 = (shL (bat x1 y1), shR (bat x1 y1)) from if_pos ho.1] at this
      exact this
    have k6 : ∀ (w : World) (u1 u2 : Value), Ints w u1 x'1 → Ints w u2 y'1 → Does Try.prog 19 [.agg #[u1, u2]] w (RetS2 w 3 (shL (bat x'1 y'1)) (shR (bat x'1 y'1))) := fun w u1 u2 h1 h2 => by
      have := impl_ShortOf_ok w u1 u2 _ _ h1 h2 (by omega) (by omega)
      rw [show shV x'1 y'1 = (shL (bat x'1 y'1), shR (bat x'1 y'1)) from if_pos ho.2.1] at this
      exact this
    clear eV hS hb hS2 ho
    generalize shL (lay (bat x1 y1) (bat x'1 y'1)) = X at *
    generalize shR (lay (bat x1 y1) (bat x'1 y'1)) = Y at *
    generalize shL (bat x1 y1) = Z at *
    generalize shR (bat x1 y1) = T at *
    generalize shL (bat x'1 y'1) = P at *
    generalize shR (bat x'1 y'1) = Q at *
    have stop11 : True := trivial
    focus
      have szE7 := E7.size; have szE6 := E6.size; have szE5 := E5.size; have szE4 := E4.size; have szE3 := E3.size; have szE2 := E2.size; have szE1 := E1.size; refine W_region rfl ?_
      refine Wo (v := .agg _) rfl (opv_load2 Try.isAgg25 Try.sizeOf25 rfl hB1) ?_; refine Wo (v := .agg _) rfl (opv_load2 Try.isAgg25 Try.sizeOf25 rfl hB2) ?_
      refine Wo_call rfl (opc2 (a := .agg _) (b := .agg _) Try.call36 rfl rfl) (k1 _ _ _ _ _ (r1) (r2) (r3) (r4)) ?_; rintro _ w6 ⟨u2, q2, rfl, E8, hO2, hQ2, hd1⟩; have icu2 := OwnedB.isC (Owned.toB hO2)
      have cpu2 := OwnedB.capOk (Owned.toB hO2); have icq2 := OwnedB.isC (Owned.toB hQ2); have cpq2 := OwnedB.capOk (Owned.toB hQ2); have hs4 := E8.size; refine Wo rfl (opv_move (v := .tuple _) rfl) ?_
      refine Wo rfl (opv_extract (v := .agg _) rfl rfl) ?_; refine Wo rfl (opv_extract (v := .bool _) rfl rfl) ?_; refine Wo_alloc2 rfl flat25 ?_; rintro b3 w7 hb3 E9 hB3; have hlb3 := hB3.lt; have hs5 := E9.size
      refine Wo_st2 rfl Try.sizeOf25 rfl rfl (by first | rfl | assumption) (by first | rfl | assumption) hB3 (by omega) ((E6.trans E8).trans E9) ?_; rintro w8 E10 hB3 K3 hz3
      have E11 := ((E7.trans E8).trans E9).wroteAt ((E6.trans E8).trans E9) E10 K3 hz3 (by omega); have szE11 := E11.size; have E12 := (E8.trans E9).wroteAt ((E6.trans E8).trans E9) E10 K3 hz3 (by omega); have szE12 := E12.size
      have E13 := E9.wroteAt ((E6.trans E8).trans E9) E10 K3 hz3 (by omega); have szE13 := E13.size; have hB2 := (hB2.ext (E8.trans E9)).of_heap (K3 _ (by omega)); have hB1 := (hB1.ext (E8.trans E9)).of_heap (K3 _ (by omega))
      have hO2 := (hO2.toB.ext E9).wrote K3 (by omega); have hQ2 := (hQ2.toB.ext E9).wrote K3 (by omega); refine Wo rfl (opv_assign (v := .bool _) rfl) ?_; refine Wo_nil ?_; refine W_seq ?_; refine W_region rfl ?_
      refine Wo (v := .agg _) rfl (opv_load2 Try.isAgg25 Try.sizeOf25 rfl hB1) ?_; refine Wo (v := .agg _) rfl (opv_load2 Try.isAgg25 Try.sizeOf25 rfl hB2) ?_
      refine Wo_call rfl (opc2 (a := .agg _) (b := .agg _) Try.call35 rfl rfl) (k2 _ _ _ _ _ ((Mono.mono E12 r1)) ((Mono.mono E12 r2)) ((Mono.mono E12 r3)) ((Mono.mono E12 r4))) ?_; rintro _ w9 ⟨u3, q3, rfl, E14, hO3, hQ3, hd2⟩
      have icu3 := OwnedB.isC (Owned.toB hO3); have cpu3 := OwnedB.capOk (Owned.toB hO3); have icq3 := OwnedB.isC (Owned.toB hQ3); have cpq3 := OwnedB.capOk (Owned.toB hQ3); have hs6 := E14.size
      refine Wo rfl (opv_move (v := .tuple _) rfl) ?_; refine Wo rfl (opv_extract (v := .agg _) rfl rfl) ?_; refine Wo rfl (opv_extract (v := .bool _) rfl rfl) ?_; refine Wo_alloc2 rfl flat25 ?_; rintro b4 w10 hb4 E15 hB4
      have hlb4 := hB4.lt; have hs7 := E15.size; refine Wo_st2 rfl Try.sizeOf25 rfl rfl (by first | rfl | assumption) (by first | rfl | assumption) hB4 (by omega) ((E10.trans E14).trans E15) ?_; rintro w11 E16 hB4 K4 hz4
      have E17 := ((E11.trans E14).trans E15).wroteAt ((E10.trans E14).trans E15) E16 K4 hz4 (by omega); have szE17 := E17.size; have E18 := ((E12.trans E14).trans E15).wroteAt ((E10.trans E14).trans E15) E16 K4 hz4 (by omega)
      have szE18 := E18.size; have E19 := ((E13.trans E14).trans E15).wroteAt ((E10.trans E14).trans E15) E16 K4 hz4 (by omega); have szE19 := E19.size; have E20 := (E14.trans E15).wroteAt ((E10.trans E14).trans E15) E16 K4 hz4 (by omega)
      have szE20 := E20.size; have E21 := E15.wroteAt ((E10.trans E14).trans E15) E16 K4 hz4 (by omega); have szE21 := E21.size; have hB3 := (hB3.ext (E14.trans E15)).of_heap (K4 _ (by omega))
      have hB2 := (hB2.ext (E14.trans E15)).of_heap (K4 _ (by omega)); have hB1 := (hB1.ext (E14.trans E15)).of_heap (K4 _ (by omega)); have hO2 := (hO2.ext (E14.trans E15)).wrote K4 (by omega)
      have hQ2 := (hQ2.ext (E14.trans E15)).wrote K4 (by omega); have hO3 := (hO3.toB.ext E15).wrote K4 (by omega); have hQ3 := (hQ3.toB.ext E15).wrote K4 (by omega); refine Wo rfl (opv_assign (v := .bool _) rfl) ?_; refine Wo_nil ?_
      refine W_seq ?_; refine W_seq ?_; refine W_region rfl ?_; refine Wo (v := .agg _) rfl (opv_load2 Try.isAgg25 Try.sizeOf25 rfl hB3) ?_; refine Wo (v := .agg _) rfl (opv_load2 Try.isAgg25 Try.sizeOf25 rfl hB4) ?_
      refine Wo_call rfl (opc2 (a := .agg _) (b := .agg _) Try.call18 rfl rfl) (same_str _ _ _ _ _ _ _ ((OwnedB.read hO2)) ((OwnedB.read hQ2)) ((OwnedB.read hO3)) ((OwnedB.read hQ3))) ?_; rintro _ w12 ⟨rfl, E22⟩; have hs8 := E22.size
      refine Wo rfl (opv_not rfl) ?_; refine Wo_split rfl (opv_move (v := .bool _) rfl) (fun h2 => ?_) (fun h2 => ?_); contradiction; refine Wo rfl (opv_move (v := .bool _) rfl) ?_; refine Wo rfl (opv_move (v := .bool _) rfl) ?_
      refine Wo rfl (opv_neq_bool Try.underlying4 rfl rfl) ?_; refine Wo rfl (opv_pick_f (v := .bool _) rfl rfl) ?_; refine Wo_nil ?_; refine W_cond_ndec rfl (fun h3 => ?_) (fun h3 => ?_); contradiction; refine W_skip ?_; refine W_seq ?_
      refine W_seq ?_; refine W_region rfl ?_; refine Wo rfl (opv_move (v := .bool _) rfl) ?_; refine Wo rfl (opv_not rfl) ?_; refine Wo_nil ?_; refine W_cond rfl (fun h4 => ?_) (fun h4 => ?_); contradiction; refine W_skip ?_
      refine W_seq ?_; refine W_region rfl ?_; refine Wo (v := .agg _) rfl (opv_load2 Try.isAgg25 Try.sizeOf25 rfl (hB3.ext E22)) ?_
      refine Wo_call rfl (opc1 (a := .agg _) Try.call28 rfl) (k3 _ _ _ ((Mono.mono E22 (OwnedB.read hO2))) ((Mono.mono E22 (OwnedB.read hQ2)))) ?_; rintro _ w13 ⟨u4, q4, r5, s2, m1, rfl, E23, hO4, hQ4, hd3, hR2, hS2, he1, hm1, hm1'⟩
      have icu4 := OwnedB.isC hO4; have cpu4 := OwnedB.capOk hO4; have icq4 := OwnedB.isC hQ4; have cpq4 := OwnedB.capOk hQ4; have icr5 := OwnedB.isC (Owned.toB hR2); have cpr5 := OwnedB.capOk (Owned.toB hR2)
      have ics2 := OwnedB.isC (Owned.toB hS2); have cps2 := OwnedB.capOk (Owned.toB hS2); have hs9 := E23.size; refine Wo rfl (opv_move (v := .tuple _) rfl) ?_; refine Wo rfl (opv_extract (v := .agg _) rfl rfl) ?_
      refine Wo rfl (opv_extract (v := .agg _) rfl rfl) ?_; refine Wo_alloc2 rfl flat25 ?_; rintro b5 w14 hb5 E24 hB5; have hlb5 := hB5.lt; have hs10 := E24.size; refine Wo_alloc2 rfl flat25 ?_; rintro b6 w15 hb6 E25 hB6
      have hlb6 := hB6.lt; have hs11 := E25.size; refine Wo_st2 rfl Try.sizeOf25 rfl rfl (by first | rfl | assumption) (by first | rfl | assumption) (hB5.ext E25) (by omega) ((((E16.trans E22).trans E23).trans E24).trans E25) ?_
      rintro w16 E26 hB5 K5 hz5; have E27 := ((((E17.trans E22).trans E23).trans E24).trans E25).wroteAt ((((E16.trans E22).trans E23).trans E24).trans E25) E26 K5 hz5 (by omega); have szE27 := E27.size
      have E28 := ((((E18.trans E22).trans E23).trans E24).trans E25).wroteAt ((((E16.trans E22).trans E23).trans E24).trans E25) E26 K5 hz5 (by omega); have szE28 := E28.size
      have E29 := ((((E19.trans E22).trans E23).trans E24).trans E25).wroteAt ((((E16.trans E22).trans E23).trans E24).trans E25) E26 K5 hz5 (by omega); have szE29 := E29.size
      have E30 := ((((E20.trans E22).trans E23).trans E24).trans E25).wroteAt ((((E16.trans E22).trans E23).trans E24).trans E25) E26 K5 hz5 (by omega); have szE30 := E30.size
      have E31 := ((((E21.trans E22).trans E23).trans E24).trans E25).wroteAt ((((E16.trans E22).trans E23).trans E24).trans E25) E26 K5 hz5 (by omega); have szE31 := E31.size
      have E32 := (((E22.trans E23).trans E24).trans E25).wroteAt ((((E16.trans E22).trans E23).trans E24).trans E25) E26 K5 hz5 (by omega); have szE32 := E32.size
      have E33 := ((E23.trans E24).trans E25).wroteAt ((((E16.trans E22).trans E23).trans E24).trans E25) E26 K5 hz5 (by omega); have szE33 := E33.size
      have E34 := (E24.trans E25).wroteAt ((((E16.trans E22).trans E23).trans E24).trans E25) E26 K5 hz5 (by omega); have szE34 := E34.size; have hB4 := (hB4.ext (((E22.trans E23).trans E24).trans E25)).of_heap (K5 _ (by omega))
      have hB3 := (hB3.ext (((E22.trans E23).trans E24).trans E25)).of_heap (K5 _ (by omega)); have hB2 := (hB2.ext (((E22.trans E23).trans E24).trans E25)).of_heap (K5 _ (by omega))
      have hB1 := (hB1.ext (((E22.trans E23).trans E24).trans E25)).of_heap (K5 _ (by omega)); have hO2 := (hO2.ext (((E22.trans E23).trans E24).trans E25)).wrote K5 (by omega)
      have hQ2 := (hQ2.ext (((E22.trans E23).trans E24).trans E25)).wrote K5 (by omega); have hO3 := (hO3.ext (((E22.trans E23).trans E24).trans E25)).wrote K5 (by omega)
      have hQ3 := (hQ3.ext (((E22.trans E23).trans E24).trans E25)).wrote K5 (by omega); have hO4 := (hO4.ext (E24.trans E25)).wrote K5 (by omega); have hQ4 := (hQ4.ext (E24.trans E25)).wrote K5 (by omega)
      have hR2 := (hR2.toB.ext (E24.trans E25)).wrote K5 (by omega); have hS2 := (hS2.toB.ext (E24.trans E25)).wrote K5 (by omega); have hB6 := hB6.of_heap (K5 _ (by omega))
      refine Wo_st2 rfl Try.sizeOf25 rfl rfl (by first | rfl | assumption) (by first | rfl | assumption) hB6 (by omega) E26 ?_; rintro w17 E35 hB6 K6 hz6; have E36 := E27.wroteAt E26 E35 K6 hz6 (by omega); have szE36 := E36.size
      have E37 := E28.wroteAt E26 E35 K6 hz6 (by omega); have szE37 := E37.size; have E38 := E29.wroteAt E26 E35 K6 hz6 (by omega); have szE38 := E38.size; have E39 := E30.wroteAt E26 E35 K6 hz6 (by omega); have szE39 := E39.size
      have E40 := E31.wroteAt E26 E35 K6 hz6 (by omega); have szE40 := E40.size; have E41 := E32.wroteAt E26 E35 K6 hz6 (by omega); have szE41 := E41.size; have E42 := E33.wroteAt E26 E35 K6 hz6 (by omega); have szE42 := E42.size
      have E43 := E34.wroteAt E26 E35 K6 hz6 (by omega); have szE43 := E43.size; have hB5 := hB5.of_heap (K6 _ (by omega)); have hB4 := hB4.of_heap (K6 _ (by omega)); have hB3 := hB3.of_heap (K6 _ (by omega))
      have hB2 := hB2.of_heap (K6 _ (by omega)); have hB1 := hB1.of_heap (K6 _ (by omega)); have hO2 := hO2.wrote K6 (by omega); have hQ2 := hQ2.wrote K6 (by omega); have hO3 := hO3.wrote K6 (by omega); have hQ3 := hQ3.wrote K6 (by omega)
      have hO4 := hO4.wrote K6 (by omega); have hQ4 := hQ4.wrote K6 (by omega); have hR2 := hR2.wrote K6 (by omega); have hS2 := hS2.wrote K6 (by omega); refine Wo_nil ?_; refine W_seq ?_
    clear stop11
    have heldS : w17 = w17 := rfl
    focus
      have szE43 := E43.size; have szE42 := E42.size; have szE41 := E41.size; have szE40 := E40.size; have szE39 := E39.size; have szE38 := E38.size; have szE37 := E37.size; have szE36 := E36.size; have szE35 := E35.size
      have szE34 := E34.size; have szE33 := E33.size; have szE32 := E32.size; have szE31 := E31.size; have szE30 := E30.size; have szE29 := E29.size; have szE28 := E28.size; have szE27 := E27.size; have szE26 := E26.size
      have szE25 := E25.size; have szE24 := E24.size; have szE23 := E23.size; have szE22 := E22.size; have szE21 := E21.size; have szE20 := E20.size; have szE19 := E19.size; have szE18 := E18.size; have szE17 := E17.size
      have szE16 := E16.size; have szE15 := E15.size; have szE14 := E14.size; have szE13 := E13.size; have szE12 := E12.size; have szE11 := E11.size; have szE10 := E10.size; have szE9 := E9.size; have szE8 := E8.size; have szE7 := E7.size
      have szE6 := E6.size; have szE5 := E5.size; have szE4 := E4.size; have szE3 := E3.size; have szE2 := E2.size; have szE1 := E1.size; refine W_held (fun w' => Ext w17 w') mixed rfl (by kernel_rfl) ?_; intro w18 E44 K7 hz7
      have hs12 := E44.size; refine Wh_take (v := .agg _) 0 rfl (by kernel_rfl) (by kernel_rfl) rfl (fun w' hw' => opv_load2 Try.isAgg25 Try.sizeOf25 rfl (hB3.ext hw')) E44 ?_; refine Wh_all (rs := [1]) (by kernel_rfl) rfl ?_
      refine WhAll_cons rfl ?_ ?_; refine Wo_call rfl (opc1 (a := .agg _) Try.call39 rfl) (k4 _ _ _ ((Mono.mono E44 (OwnedB.read hO2))) ((Mono.mono E44 (OwnedB.read hQ2)))) ?_; rintro _ w19 ⟨rfl, E45⟩; have hs13 := E45.size
      refine Wo_nil ?_; refine ⟨(E44.trans E45), ?_⟩; refine Wh_take 2 rfl (by kernel_rfl) (by kernel_rfl) rfl (fun _ _ => opv_move (v := .bool _) rfl) (E44.trans E45) ?_
      refine Wh_take (v := .agg _) 3 rfl (by kernel_rfl) (by kernel_rfl) rfl (fun w' hw' => opv_load2 Try.isAgg25 Try.sizeOf25 rfl (hB5.ext hw')) (E44.trans E45) ?_
      refine Wh_take (v := .agg _) 4 rfl (by kernel_rfl) (by kernel_rfl) rfl (fun w' hw' => opv_load2 Try.isAgg25 Try.sizeOf25 rfl (hB1.ext hw')) (E44.trans E45) ?_; refine Wh_all (rs := [5]) (by kernel_rfl) rfl ?_
      refine WhAll_cons rfl ?_ ?_; refine Wo_call rfl (opc1 (a := .agg _) Try.call19 rfl) (k5 _ _ _ ((Mono.mono ((E37.trans E44).trans E45) r1)) ((Mono.mono ((E37.trans E44).trans E45) r2))) ?_
      rintro _ w20 ⟨u5, q5, rfl, E46, hO5, hQ5, hd4⟩; have icu5 := OwnedB.isC (Owned.toB hO5); have cpu5 := OwnedB.capOk (Owned.toB hO5); have icq5 := OwnedB.isC (Owned.toB hQ5); have cpq5 := OwnedB.capOk (Owned.toB hQ5)
      have hs14 := E46.size; refine Wo_nil ?_; refine ⟨((E44.trans E45).trans E46), ?_⟩; refine Wh_all (rs := [6]) (by kernel_rfl) rfl ?_; refine WhAll_cons rfl ?_ ?_
      refine Wo_call rfl (opc2 (a := .agg _) (b := .agg _) Try.call18 rfl rfl) (same_str _ _ _ _ _ _ _ ((Mono.mono ((E44.trans E45).trans E46) (OwnedB.read hO4))) ((Mono.mono ((E44.trans E45).trans E46) (OwnedB.read hQ4))) ((Owned.read hO5)) ((Owned.read hQ5))) ?_
      rintro _ w21 ⟨rfl, E47⟩; have hs15 := E47.size; refine Wo_nil ?_; refine ⟨(((E44.trans E45).trans E46).trans E47), ?_⟩
      refine Wh_take 7 rfl (by kernel_rfl) (by kernel_rfl) rfl (fun _ _ => opv_pick_t (v := .bool _) rfl rfl) (((E44.trans E45).trans E46).trans E47) ?_
      refine Wh_take 8 rfl (by kernel_rfl) (by kernel_rfl) rfl (fun _ _ => opv_move (v := .bool _) rfl) (((E44.trans E45).trans E46).trans E47) ?_
      refine Wh_take (v := .agg _) 9 rfl (by kernel_rfl) (by kernel_rfl) rfl (fun w' hw' => opv_load2 Try.isAgg25 Try.sizeOf25 rfl (hB6.ext hw')) (((E44.trans E45).trans E46).trans E47) ?_
      refine Wh_take (v := .agg _) 10 rfl (by kernel_rfl) (by kernel_rfl) rfl (fun w' hw' => opv_load2 Try.isAgg25 Try.sizeOf25 rfl (hB2.ext hw')) (((E44.trans E45).trans E46).trans E47) ?_
      refine Wh_all (rs := [11]) (by kernel_rfl) rfl ?_; refine WhAll_cons rfl ?_ ?_
      refine Wo_call rfl (opc1 (a := .agg _) Try.call19 rfl) (k6 _ _ _ ((Mono.mono ((((E37.trans E44).trans E45).trans E46).trans E47) r3)) ((Mono.mono ((((E37.trans E44).trans E45).trans E46).trans E47) r4))) ?_
      rintro _ w22 ⟨u6, q6, rfl, E48, hO6, hQ6, hd5⟩; have icu6 := OwnedB.isC (Owned.toB hO6); have cpu6 := OwnedB.capOk (Owned.toB hO6); have icq6 := OwnedB.isC (Owned.toB hQ6); have cpq6 := OwnedB.capOk (Owned.toB hQ6)
      have hs16 := E48.size; refine Wo_nil ?_; refine ⟨((((E44.trans E45).trans E46).trans E47).trans E48), ?_⟩; refine Wh_all (rs := [12]) (by kernel_rfl) rfl ?_; refine WhAll_cons rfl ?_ ?_
      refine Wo_call rfl (opc2 (a := .agg _) (b := .agg _) Try.call18 rfl rfl) (same_str _ _ _ _ _ _ _ ((Mono.mono ((((E44.trans E45).trans E46).trans E47).trans E48) (OwnedB.read hR2))) ((Mono.mono ((((E44.trans E45).trans E46).trans E47).trans E48) (OwnedB.read hS2))) ((Owned.read hO6)) ((Owned.read hQ6))) ?_
      rintro _ w23 ⟨rfl, E49⟩; have hs17 := E49.size; refine Wo_nil ?_; refine ⟨(((((E44.trans E45).trans E46).trans E47).trans E48).trans E49), ?_⟩
      refine Wh_take 13 rfl (by kernel_rfl) (by kernel_rfl) rfl (fun _ _ => opv_pick_t (v := .bool _) rfl rfl) (((((E44.trans E45).trans E46).trans E47).trans E48).trans E49) ?_
      refine Wh_take 14 rfl (by kernel_rfl) (by kernel_rfl) rfl (fun _ _ => opv_assign (v := .bool _) rfl) (((((E44.trans E45).trans E46).trans E47).trans E48).trans E49) ?_; refine Wh_done (by kernel_rfl) ?_; refine W_ret ?_
      exact ⟨rfl, ((((((E35.trans E44).trans E45).trans E46).trans E47).trans E48).trans E49)⟩; exact WhAll_nil; exact WhAll_nil; exact WhAll_nil; exact WhAll_nil; exact WhAll_nil
  · have eV : lbV x1 y1 x'1 y'1 = ([], [], false) := if_neg ho
    have k1 : ∀ (w : World) (u1 u2 v1 v2 : Value), Ints w u1 x1 → Ints w u2 y1 → Ints w v1 x'1 → Ints w v2 y'1 → Does Try.prog 36 [.agg #[u1, u2], .agg #[v1, v2]] w (RetS2b w 3 [] [] false) := fun w u1 u2 v1 v2 h1 h2 h3 h4 => by
      have := impl_LaidBetween_ok w u1 u2 v1 v2 _ _ _ _ h1 h2 h3 h4 (by omega) (by omega) (by omega) (by omega)
      rw [eV] at this; exact this
    have k2 : ∀ (w : World) (u1 u2 v1 v2 : Value), Ints w u1 x1 → Ints w u2 y1 → Ints w v1 x'1 → Ints w v2 y'1 → Does Try.prog 35 [.agg #[u1, u2], .agg #[v1, v2]] w (RetS2b w 3 [] [] false) := fun w u1 u2 v1 v2 h1 h2 h3 h4 => by
      have := spec_LaidBetween_ok w u1 u2 v1 v2 _ _ _ _ h1 h2 h3 h4 (by omega) (by omega) (by omega) (by omega)
      rw [eV] at this; exact this
    have k3 : ∀ (w : World) (u1 u2 : Value), Ints w u1 [] → Ints w u2 [] → Does Try.prog 32 [.agg #[u1, u2]] w (Ret w (.bool true)) := fun w u1 u2 h1 h2 => noStream_ok w u1 u2 [] [] h1 h2
    focus
      have szE7 := E7.size; have szE6 := E6.size; have szE5 := E5.size; have szE4 := E4.size; have szE3 := E3.size; have szE2 := E2.size; have szE1 := E1.size; refine W_region rfl ?_
      refine Wo (v := .agg _) rfl (opv_load2 Try.isAgg25 Try.sizeOf25 rfl hB1) ?_; refine Wo (v := .agg _) rfl (opv_load2 Try.isAgg25 Try.sizeOf25 rfl hB2) ?_
      refine Wo_call rfl (opc2 (a := .agg _) (b := .agg _) Try.call36 rfl rfl) (k1 _ _ _ _ _ (r1) (r2) (r3) (r4)) ?_; rintro _ w6 ⟨u2, q2, rfl, E8, hO2, hQ2, hd1⟩; have icu2 := OwnedB.isC (Owned.toB hO2)
      have cpu2 := OwnedB.capOk (Owned.toB hO2); have icq2 := OwnedB.isC (Owned.toB hQ2); have cpq2 := OwnedB.capOk (Owned.toB hQ2); have hs4 := E8.size; refine Wo rfl (opv_move (v := .tuple _) rfl) ?_
      refine Wo rfl (opv_extract (v := .agg _) rfl rfl) ?_; refine Wo rfl (opv_extract (v := .bool _) rfl rfl) ?_; refine Wo_alloc2 rfl flat25 ?_; rintro b3 w7 hb3 E9 hB3; have hlb3 := hB3.lt; have hs5 := E9.size
      refine Wo_st2 rfl Try.sizeOf25 rfl rfl (by first | rfl | assumption) (by first | rfl | assumption) hB3 (by omega) ((E6.trans E8).trans E9) ?_; rintro w8 E10 hB3 K3 hz3
      have E11 := ((E7.trans E8).trans E9).wroteAt ((E6.trans E8).trans E9) E10 K3 hz3 (by omega); have szE11 := E11.size; have E12 := (E8.trans E9).wroteAt ((E6.trans E8).trans E9) E10 K3 hz3 (by omega); have szE12 := E12.size
      have E13 := E9.wroteAt ((E6.trans E8).trans E9) E10 K3 hz3 (by omega); have szE13 := E13.size; have hB2 := (hB2.ext (E8.trans E9)).of_heap (K3 _ (by omega)); have hB1 := (hB1.ext (E8.trans E9)).of_heap (K3 _ (by omega))
      have hO2 := (hO2.toB.ext E9).wrote K3 (by omega); have hQ2 := (hQ2.toB.ext E9).wrote K3 (by omega); refine Wo rfl (opv_assign (v := .bool _) rfl) ?_; refine Wo_nil ?_; refine W_seq ?_; refine W_region rfl ?_
      refine Wo (v := .agg _) rfl (opv_load2 Try.isAgg25 Try.sizeOf25 rfl hB1) ?_; refine Wo (v := .agg _) rfl (opv_load2 Try.isAgg25 Try.sizeOf25 rfl hB2) ?_
      refine Wo_call rfl (opc2 (a := .agg _) (b := .agg _) Try.call35 rfl rfl) (k2 _ _ _ _ _ ((Mono.mono E12 r1)) ((Mono.mono E12 r2)) ((Mono.mono E12 r3)) ((Mono.mono E12 r4))) ?_; rintro _ w9 ⟨u3, q3, rfl, E14, hO3, hQ3, hd2⟩
      have icu3 := OwnedB.isC (Owned.toB hO3); have cpu3 := OwnedB.capOk (Owned.toB hO3); have icq3 := OwnedB.isC (Owned.toB hQ3); have cpq3 := OwnedB.capOk (Owned.toB hQ3); have hs6 := E14.size
      refine Wo rfl (opv_move (v := .tuple _) rfl) ?_; refine Wo rfl (opv_extract (v := .agg _) rfl rfl) ?_; refine Wo rfl (opv_extract (v := .bool _) rfl rfl) ?_; refine Wo_alloc2 rfl flat25 ?_; rintro b4 w10 hb4 E15 hB4
      have hlb4 := hB4.lt; have hs7 := E15.size; refine Wo_st2 rfl Try.sizeOf25 rfl rfl (by first | rfl | assumption) (by first | rfl | assumption) hB4 (by omega) ((E10.trans E14).trans E15) ?_; rintro w11 E16 hB4 K4 hz4
      have E17 := ((E11.trans E14).trans E15).wroteAt ((E10.trans E14).trans E15) E16 K4 hz4 (by omega); have szE17 := E17.size; have E18 := ((E12.trans E14).trans E15).wroteAt ((E10.trans E14).trans E15) E16 K4 hz4 (by omega)
      have szE18 := E18.size; have E19 := ((E13.trans E14).trans E15).wroteAt ((E10.trans E14).trans E15) E16 K4 hz4 (by omega); have szE19 := E19.size; have E20 := (E14.trans E15).wroteAt ((E10.trans E14).trans E15) E16 K4 hz4 (by omega)
      have szE20 := E20.size; have E21 := E15.wroteAt ((E10.trans E14).trans E15) E16 K4 hz4 (by omega); have szE21 := E21.size; have hB3 := (hB3.ext (E14.trans E15)).of_heap (K4 _ (by omega))
      have hB2 := (hB2.ext (E14.trans E15)).of_heap (K4 _ (by omega)); have hB1 := (hB1.ext (E14.trans E15)).of_heap (K4 _ (by omega)); have hO2 := (hO2.ext (E14.trans E15)).wrote K4 (by omega)
      have hQ2 := (hQ2.ext (E14.trans E15)).wrote K4 (by omega); have hO3 := (hO3.toB.ext E15).wrote K4 (by omega); have hQ3 := (hQ3.toB.ext E15).wrote K4 (by omega); refine Wo rfl (opv_assign (v := .bool _) rfl) ?_; refine Wo_nil ?_
      refine W_seq ?_; refine W_seq ?_; refine W_region rfl ?_; refine Wo (v := .agg _) rfl (opv_load2 Try.isAgg25 Try.sizeOf25 rfl hB3) ?_; refine Wo (v := .agg _) rfl (opv_load2 Try.isAgg25 Try.sizeOf25 rfl hB4) ?_
      refine Wo_call rfl (opc2 (a := .agg _) (b := .agg _) Try.call18 rfl rfl) (same_str _ _ _ _ _ _ _ ((OwnedB.read hO2)) ((OwnedB.read hQ2)) ((OwnedB.read hO3)) ((OwnedB.read hQ3))) ?_; rintro _ w12 ⟨rfl, E22⟩; have hs8 := E22.size
      refine Wo rfl (opv_not rfl) ?_; refine Wo_split rfl (opv_move (v := .bool _) rfl) (fun h2 => ?_) (fun h2 => ?_); contradiction; refine Wo rfl (opv_move (v := .bool _) rfl) ?_; refine Wo rfl (opv_move (v := .bool _) rfl) ?_
      refine Wo rfl (opv_neq_bool Try.underlying4 rfl rfl) ?_; refine Wo rfl (opv_pick_f (v := .bool _) rfl rfl) ?_; refine Wo_nil ?_; refine W_cond_ndec rfl (fun h3 => ?_) (fun h3 => ?_); contradiction; refine W_skip ?_; refine W_seq ?_
      refine W_seq ?_; refine W_region rfl ?_; refine Wo rfl (opv_move (v := .bool _) rfl) ?_; refine Wo rfl (opv_not rfl) ?_; refine Wo_nil ?_; refine W_cond rfl (fun h4 => ?_) (fun h4 => ?_); refine W_seq ?_; refine W_region rfl ?_
      refine Wo (v := .agg _) rfl (opv_load2 Try.isAgg25 Try.sizeOf25 rfl (hB3.ext E22)) ?_; refine Wo_call rfl (opc1 (a := .agg _) Try.call32 rfl) (k3 _ _ _ ((Mono.mono E22 (OwnedB.read hO2))) ((Mono.mono E22 (OwnedB.read hQ2)))) ?_
      rintro _ w13 ⟨rfl, E23⟩; have hs9 := E23.size; refine Wo rfl (opv_move (v := .bool _) rfl) ?_; refine Wo_call rfl (opc0 Try.call17) (alive_ok _) ?_; rintro _ w14 ⟨rfl, E24⟩; have hs10 := E24.size
      refine Wo rfl (opv_pick_t (v := .bool _) rfl rfl) ?_; refine Wo rfl (opv_assign (v := .bool _) rfl) ?_; refine Wo_nil ?_; refine W_ret ?_; exact ⟨rfl, (((E16.trans E22).trans E23).trans E24)⟩; contradiction

end Go.Proofs.Ytlalfmialbolhaa
