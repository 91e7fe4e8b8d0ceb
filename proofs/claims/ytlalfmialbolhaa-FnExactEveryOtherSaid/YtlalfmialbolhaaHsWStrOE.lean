/- Walks: the exact law of every other bit. -/
import Derived.Test.YtlalfmialbolhaaHsWStrO
namespace Go.Proofs.Ytlalfmialbolhaa
open Go.Hs
set_option maxRecDepth 10000
set_option maxHeartbeats 4000000
set_option linter.unusedVariables false
set_option linter.unusedSimpArgs false
theorem evV_len (A B : List Int) (c : Nat) : (evV A B c).1.length ≤ 12 ∧ (evV A B c).2.length ≤ 12 := by
  unfold evV
  split
  · rename_i h
    have h1 := sh_len (per_tk h.per c)
    have := h.2.2
    simp only; omega
  · simp

theorem FnExactEveryOther_walk (w : World) (u1 u2 : Value) (A B : List Int) (h1 : Ints w u1 A) (h2 : Ints w u2 B) :
    Does Try.prog 5 [.agg #[u1, u2]] w (Ret w (.bool true)) := by
  refine fn_of_W1 Try.func5 rfl Try.results5 Try.ntmps5 rfl ?_
  have stop10 : True := trivial
  focus
    refine W_seq ?_; refine W_region rfl ?_; refine Wo_box rfl rfl rfl ?_; rintro b1 w1 hb1 E1 hB1; have hlb1 := hB1.lt; have hs1 := E1.size; refine Wo rfl (opv_assign (v := .bool _) rfl) ?_; refine Wo_nil ?_; refine W_seq ?_
    refine W_region rfl ?_; refine Wo rfl (opv_assign (v := .int _ _) rfl) ?_; refine Wo_nil ?_; refine W_seq ?_; refine W_region rfl ?_; refine Wo (v := .agg _) rfl (opv_load2 Try.isAgg34 Try.sizeOf34 rfl hB1) ?_
    refine Wo rfl (opv_move (v := .int _ _) rfl) ?_; refine Wo_call rfl (opc2 (a := .agg _) (b := .int _ _) Try.call21 rfl rfl) (szStream_ok _ _ _ _ _ ((Mono.mono E1 h1)) ((Mono.mono E1 h2)) _ (by omega)) ?_
    rintro _ w2 ⟨E2, y1, rfl, hy1⟩; have hs2 := E2.size; refine Wo rfl (opv_assign (v := .int _ _) rfl) ?_; refine Wo_nil ?_; refine W_seq ?_; refine W_seq ?_; refine W_region rfl ?_; refine Wo rfl (opv_move (v := .int _ _) rfl) ?_
    refine Wo rfl (opv_lss rfl rfl) ?_; refine Wo_nil ?_; refine W_cond_dec rfl (fun h3 => ?_) (fun h3 => ?_); refine W_seq ?_; refine W_region rfl ?_; refine Wo rfl (opv_assign (v := .bool _) rfl) ?_; refine Wo_nil ?_; refine W_ret ?_
    exact ⟨rfl, (E1.trans E2)⟩; refine W_skip ?_; refine W_seq ?_; refine W_region rfl ?_; refine Wo (v := .agg _) rfl (opv_load2 Try.isAgg34 Try.sizeOf34 rfl (hB1.ext E2)) ?_
  rcases hy1 with h9 | ⟨h5, h6, h7, h8⟩
  · omega
  obtain ⟨hX, hY⟩ := evV_len A B 0
  obtain ⟨hZ, hT⟩ := evV_len A B 1
  have k1 : ∀ (w : World) (u1 u2 : Value), Ints w u1 A → Ints w u2 B → Does Try.prog 27 [.agg #[u1, u2]] w (RetS22 w 3 (evV A B 0).1 (evV A B 0).2 (evV A B 1).1 (evV A B 1).2) := fun w u1 u2 h1 h2 => spec_EveryOther_ok w u1 u2 A B h1 h2 (by omega) (by omega)
  have k2 : ∀ (w : World) (u1 u2 : Value), Ints w u1 A → Ints w u2 B → Does Try.prog 28 [.agg #[u1, u2]] w (RetS22 w 3 (evV A B 0).1 (evV A B 0).2 (evV A B 1).1 (evV A B 1).2) := fun w u1 u2 h1 h2 => impl_EveryOther_ok w u1 u2 A B h1 h2 (by omega) (by omega)
  generalize (evV A B 0).1 = X at *
  generalize (evV A B 0).2 = Y at *
  generalize (evV A B 1).1 = Z at *
  generalize (evV A B 1).2 = T at *
  focus
    have szE2 := E2.size; have szE1 := E1.size; refine Wo_call rfl (opc1 (a := .agg _) Try.call23 rfl) (toStream_ok _ _ _ _ _ ((Mono.mono (E1.trans E2) h1)) ((Mono.mono (E1.trans E2) h2)) (by assumption) (by assumption)) ?_
    rintro _ w3 ⟨u3, q1, rfl, E3, hO1, hQ1, hd1⟩; have icu3 := OwnedB.isC (Owned.toB hO1); have cpu3 := OwnedB.capOk (Owned.toB hO1); have icq1 := OwnedB.isC (Owned.toB hQ1); have cpq1 := OwnedB.capOk (Owned.toB hQ1)
    have hs3 := E3.size; refine Wo_call rfl (opc1 (a := .agg _) Try.call27 rfl) (k1 _ _ _ ((Owned.read hO1)) ((Owned.read hQ1))) ?_; rintro _ w4 ⟨u4, q2, r1, s1, m1, rfl, E4, hO2, hQ2, hd2, hR1, hS1, he1, hm1, hm1'⟩
    have icu4 := OwnedB.isC hO2; have cpu4 := OwnedB.capOk hO2; have icq2 := OwnedB.isC hQ2; have cpq2 := OwnedB.capOk hQ2; have icr1 := OwnedB.isC (Owned.toB hR1); have cpr1 := OwnedB.capOk (Owned.toB hR1)
    have ics1 := OwnedB.isC (Owned.toB hS1); have cps1 := OwnedB.capOk (Owned.toB hS1); have hs4 := E4.size; refine Wo rfl (opv_move (v := .tuple _) rfl) ?_; refine Wo rfl (opv_extract (v := .agg _) rfl rfl) ?_
    refine Wo rfl (opv_extract (v := .agg _) rfl rfl) ?_; refine Wo_alloc2 rfl flat25 ?_; rintro b2 w5 hb2 E5 hB2; have hlb2 := hB2.lt; have hs5 := E5.size; refine Wo_alloc2 rfl flat25 ?_; rintro b3 w6 hb3 E6 hB3; have hlb3 := hB3.lt
    have hs6 := E6.size; refine Wo_st2 rfl Try.sizeOf25 rfl rfl (by first | rfl | assumption) (by first | rfl | assumption) (hB2.ext E6) (by omega) (((((E1.trans E2).trans E3).trans E4).trans E5).trans E6) ?_; rintro w7 E7 hB2 K1 hz1
    have E8 := ((((E2.trans E3).trans E4).trans E5).trans E6).wroteAt (((((E1.trans E2).trans E3).trans E4).trans E5).trans E6) E7 K1 hz1 (by omega); have szE8 := E8.size
    have E9 := (((E3.trans E4).trans E5).trans E6).wroteAt (((((E1.trans E2).trans E3).trans E4).trans E5).trans E6) E7 K1 hz1 (by omega); have szE9 := E9.size
    have E10 := ((E4.trans E5).trans E6).wroteAt (((((E1.trans E2).trans E3).trans E4).trans E5).trans E6) E7 K1 hz1 (by omega); have szE10 := E10.size
    have E11 := (E5.trans E6).wroteAt (((((E1.trans E2).trans E3).trans E4).trans E5).trans E6) E7 K1 hz1 (by omega); have szE11 := E11.size; have hB1 := (hB1.ext ((((E2.trans E3).trans E4).trans E5).trans E6)).of_heap (K1 _ (by omega))
    have hO1 := (hO1.toB.ext ((E4.trans E5).trans E6)).wrote K1 (by omega); have hQ1 := (hQ1.toB.ext ((E4.trans E5).trans E6)).wrote K1 (by omega); have hO2 := (hO2.ext (E5.trans E6)).wrote K1 (by omega)
    have hQ2 := (hQ2.ext (E5.trans E6)).wrote K1 (by omega); have hR1 := (hR1.toB.ext (E5.trans E6)).wrote K1 (by omega); have hS1 := (hS1.toB.ext (E5.trans E6)).wrote K1 (by omega); have hB3 := hB3.of_heap (K1 _ (by omega))
    refine Wo_st2 rfl Try.sizeOf25 rfl rfl (by first | rfl | assumption) (by first | rfl | assumption) hB3 (by omega) E7 ?_; rintro w8 E12 hB3 K2 hz2; have E13 := E8.wroteAt E7 E12 K2 hz2 (by omega); have szE13 := E13.size
    have E14 := E9.wroteAt E7 E12 K2 hz2 (by omega); have szE14 := E14.size; have E15 := E10.wroteAt E7 E12 K2 hz2 (by omega); have szE15 := E15.size; have E16 := E11.wroteAt E7 E12 K2 hz2 (by omega); have szE16 := E16.size
    have hB2 := hB2.of_heap (K2 _ (by omega)); have hB1 := hB1.of_heap (K2 _ (by omega)); have hO1 := hO1.wrote K2 (by omega); have hQ1 := hQ1.wrote K2 (by omega); have hO2 := hO2.wrote K2 (by omega); have hQ2 := hQ2.wrote K2 (by omega)
    have hR1 := hR1.wrote K2 (by omega); have hS1 := hS1.wrote K2 (by omega); refine Wo_nil ?_; refine W_seq ?_; refine W_region rfl ?_; refine Wo (v := .agg _) rfl (opv_load2 Try.isAgg34 Try.sizeOf34 rfl hB1) ?_
    refine Wo_call rfl (opc1 (a := .agg _) Try.call23 rfl) (toStream_ok _ _ _ _ _ ((Mono.mono E12 h1)) ((Mono.mono E12 h2)) (by assumption) (by assumption)) ?_; rintro _ w9 ⟨u5, q3, rfl, E17, hO3, hQ3, hd3⟩
    have icu5 := OwnedB.isC (Owned.toB hO3); have cpu5 := OwnedB.capOk (Owned.toB hO3); have icq3 := OwnedB.isC (Owned.toB hQ3); have cpq3 := OwnedB.capOk (Owned.toB hQ3); have hs7 := E17.size; refine Wo_alloc2 rfl flat25 ?_
    rintro b4 w10 hb4 E18 hB4; have hlb4 := hB4.lt; have hs8 := E18.size; refine Wo_st2 rfl Try.sizeOf25 rfl rfl (by first | rfl | assumption) (by first | rfl | assumption) hB4 (by omega) ((E12.trans E17).trans E18) ?_
    rintro w11 E19 hB4 K3 hz3; have E20 := ((E13.trans E17).trans E18).wroteAt ((E12.trans E17).trans E18) E19 K3 hz3 (by omega); have szE20 := E20.size
    have E21 := ((E14.trans E17).trans E18).wroteAt ((E12.trans E17).trans E18) E19 K3 hz3 (by omega); have szE21 := E21.size; have E22 := ((E15.trans E17).trans E18).wroteAt ((E12.trans E17).trans E18) E19 K3 hz3 (by omega)
    have szE22 := E22.size; have E23 := ((E16.trans E17).trans E18).wroteAt ((E12.trans E17).trans E18) E19 K3 hz3 (by omega); have szE23 := E23.size; have E24 := (E17.trans E18).wroteAt ((E12.trans E17).trans E18) E19 K3 hz3 (by omega)
    have szE24 := E24.size; have E25 := E18.wroteAt ((E12.trans E17).trans E18) E19 K3 hz3 (by omega); have szE25 := E25.size; have hB3 := (hB3.ext (E17.trans E18)).of_heap (K3 _ (by omega))
    have hB2 := (hB2.ext (E17.trans E18)).of_heap (K3 _ (by omega)); have hB1 := (hB1.ext (E17.trans E18)).of_heap (K3 _ (by omega)); have hO1 := (hO1.ext (E17.trans E18)).wrote K3 (by omega)
    have hQ1 := (hQ1.ext (E17.trans E18)).wrote K3 (by omega); have hO2 := (hO2.ext (E17.trans E18)).wrote K3 (by omega); have hQ2 := (hQ2.ext (E17.trans E18)).wrote K3 (by omega)
    have hR1 := (hR1.ext (E17.trans E18)).wrote K3 (by omega); have hS1 := (hS1.ext (E17.trans E18)).wrote K3 (by omega); have hO3 := (hO3.toB.ext E18).wrote K3 (by omega); have hQ3 := (hQ3.toB.ext E18).wrote K3 (by omega)
    refine Wo_nil ?_; refine W_seq ?_; refine W_region rfl ?_; refine Wo (v := .agg _) rfl (opv_load2 Try.isAgg25 Try.sizeOf25 rfl hB4) ?_
    refine Wo_call rfl (opc1 (a := .agg _) Try.call28 rfl) (k2 _ _ _ ((OwnedB.read hO3)) ((OwnedB.read hQ3))) ?_; rintro _ w12 ⟨u6, q4, r2, s2, m2, rfl, E26, hO4, hQ4, hd4, hR2, hS2, he2, hm2, hm2'⟩; have icu6 := OwnedB.isC hO4
    have cpu6 := OwnedB.capOk hO4; have icq4 := OwnedB.isC hQ4; have cpq4 := OwnedB.capOk hQ4; have icr2 := OwnedB.isC (Owned.toB hR2); have cpr2 := OwnedB.capOk (Owned.toB hR2); have ics2 := OwnedB.isC (Owned.toB hS2)
    have cps2 := OwnedB.capOk (Owned.toB hS2); have hs9 := E26.size; refine Wo rfl (opv_move (v := .tuple _) rfl) ?_; refine Wo rfl (opv_extract (v := .agg _) rfl rfl) ?_; refine Wo rfl (opv_extract (v := .agg _) rfl rfl) ?_
    refine Wo_alloc2 rfl flat25 ?_; rintro b5 w13 hb5 E27 hB5; have hlb5 := hB5.lt; have hs10 := E27.size; refine Wo_alloc2 rfl flat25 ?_; rintro b6 w14 hb6 E28 hB6; have hlb6 := hB6.lt; have hs11 := E28.size
    refine Wo_st2 rfl Try.sizeOf25 rfl rfl (by first | rfl | assumption) (by first | rfl | assumption) (hB5.ext E28) (by omega) (((E19.trans E26).trans E27).trans E28) ?_; rintro w15 E29 hB5 K4 hz4
    have E30 := (((E20.trans E26).trans E27).trans E28).wroteAt (((E19.trans E26).trans E27).trans E28) E29 K4 hz4 (by omega); have szE30 := E30.size
    have E31 := (((E21.trans E26).trans E27).trans E28).wroteAt (((E19.trans E26).trans E27).trans E28) E29 K4 hz4 (by omega); have szE31 := E31.size
    have E32 := (((E22.trans E26).trans E27).trans E28).wroteAt (((E19.trans E26).trans E27).trans E28) E29 K4 hz4 (by omega); have szE32 := E32.size
    have E33 := (((E23.trans E26).trans E27).trans E28).wroteAt (((E19.trans E26).trans E27).trans E28) E29 K4 hz4 (by omega); have szE33 := E33.size
    have E34 := (((E24.trans E26).trans E27).trans E28).wroteAt (((E19.trans E26).trans E27).trans E28) E29 K4 hz4 (by omega); have szE34 := E34.size
    have E35 := (((E25.trans E26).trans E27).trans E28).wroteAt (((E19.trans E26).trans E27).trans E28) E29 K4 hz4 (by omega); have szE35 := E35.size
    have E36 := ((E26.trans E27).trans E28).wroteAt (((E19.trans E26).trans E27).trans E28) E29 K4 hz4 (by omega); have szE36 := E36.size; have E37 := (E27.trans E28).wroteAt (((E19.trans E26).trans E27).trans E28) E29 K4 hz4 (by omega)
    have szE37 := E37.size; have hB4 := (hB4.ext ((E26.trans E27).trans E28)).of_heap (K4 _ (by omega)); have hB3 := (hB3.ext ((E26.trans E27).trans E28)).of_heap (K4 _ (by omega))
    have hB2 := (hB2.ext ((E26.trans E27).trans E28)).of_heap (K4 _ (by omega)); have hB1 := (hB1.ext ((E26.trans E27).trans E28)).of_heap (K4 _ (by omega)); have hO1 := (hO1.ext ((E26.trans E27).trans E28)).wrote K4 (by omega)
    have hQ1 := (hQ1.ext ((E26.trans E27).trans E28)).wrote K4 (by omega); have hO2 := (hO2.ext ((E26.trans E27).trans E28)).wrote K4 (by omega); have hQ2 := (hQ2.ext ((E26.trans E27).trans E28)).wrote K4 (by omega)
    have hR1 := (hR1.ext ((E26.trans E27).trans E28)).wrote K4 (by omega); have hS1 := (hS1.ext ((E26.trans E27).trans E28)).wrote K4 (by omega); have hO3 := (hO3.ext ((E26.trans E27).trans E28)).wrote K4 (by omega)
    have hQ3 := (hQ3.ext ((E26.trans E27).trans E28)).wrote K4 (by omega); have hO4 := (hO4.ext (E27.trans E28)).wrote K4 (by omega); have hQ4 := (hQ4.ext (E27.trans E28)).wrote K4 (by omega)
    have hR2 := (hR2.toB.ext (E27.trans E28)).wrote K4 (by omega); have hS2 := (hS2.toB.ext (E27.trans E28)).wrote K4 (by omega); have hB6 := hB6.of_heap (K4 _ (by omega))
    refine Wo_st2 rfl Try.sizeOf25 rfl rfl (by first | rfl | assumption) (by first | rfl | assumption) hB6 (by omega) E29 ?_; rintro w16 E38 hB6 K5 hz5; have E39 := E30.wroteAt E29 E38 K5 hz5 (by omega); have szE39 := E39.size
    have E40 := E31.wroteAt E29 E38 K5 hz5 (by omega); have szE40 := E40.size; have E41 := E32.wroteAt E29 E38 K5 hz5 (by omega); have szE41 := E41.size; have E42 := E33.wroteAt E29 E38 K5 hz5 (by omega); have szE42 := E42.size
    have E43 := E34.wroteAt E29 E38 K5 hz5 (by omega); have szE43 := E43.size; have E44 := E35.wroteAt E29 E38 K5 hz5 (by omega); have szE44 := E44.size; have E45 := E36.wroteAt E29 E38 K5 hz5 (by omega); have szE45 := E45.size
    have E46 := E37.wroteAt E29 E38 K5 hz5 (by omega); have szE46 := E46.size; have hB5 := hB5.of_heap (K5 _ (by omega)); have hB4 := hB4.of_heap (K5 _ (by omega)); have hB3 := hB3.of_heap (K5 _ (by omega))
    have hB2 := hB2.of_heap (K5 _ (by omega)); have hB1 := hB1.of_heap (K5 _ (by omega)); have hO1 := hO1.wrote K5 (by omega); have hQ1 := hQ1.wrote K5 (by omega); have hO2 := hO2.wrote K5 (by omega); have hQ2 := hQ2.wrote K5 (by omega)
    have hR1 := hR1.wrote K5 (by omega); have hS1 := hS1.wrote K5 (by omega); have hO3 := hO3.wrote K5 (by omega); have hQ3 := hQ3.wrote K5 (by omega); have hO4 := hO4.wrote K5 (by omega); have hQ4 := hQ4.wrote K5 (by omega)
    have hR2 := hR2.wrote K5 (by omega); have hS2 := hS2.wrote K5 (by omega); refine Wo_nil ?_; refine W_seq ?_; refine W_seq ?_; refine W_region rfl ?_; refine Wo (v := .agg _) rfl (opv_load2 Try.isAgg25 Try.sizeOf25 rfl hB5) ?_
    refine Wo (v := .agg _) rfl (opv_load2 Try.isAgg25 Try.sizeOf25 rfl hB2) ?_
    refine Wo_call rfl (opc2 (a := .agg _) (b := .agg _) Try.call24 rfl rfl) (eq_same _ _ _ _ _ _ _ ((OwnedB.read hO4)) ((OwnedB.read hQ4)) ((OwnedB.read hO2)) ((OwnedB.read hQ2))) ?_; rintro _ w17 ⟨rfl, E47⟩; have hs12 := E47.size
    refine Wo rfl (opv_not rfl) ?_; refine Wo_split rfl (opv_move (v := .bool _) rfl) (fun h4 => ?_) (fun h4 => ?_); contradiction; refine Wo (v := .agg _) rfl (opv_load2 Try.isAgg25 Try.sizeOf25 rfl (hB6.ext E47)) ?_
    refine Wo (v := .agg _) rfl (opv_load2 Try.isAgg25 Try.sizeOf25 rfl (hB3.ext E47)) ?_
    refine Wo_call rfl (opc2 (a := .agg _) (b := .agg _) Try.call24 rfl rfl) (eq_same _ _ _ _ _ _ _ ((Mono.mono E47 (OwnedB.read hR2))) ((Mono.mono E47 (OwnedB.read hS2))) ((Mono.mono E47 (OwnedB.read hR1))) ((Mono.mono E47 (OwnedB.read hS1)))) ?_
    rintro _ w18 ⟨rfl, E48⟩; have hs13 := E48.size; refine Wo rfl (opv_not rfl) ?_; refine Wo rfl (opv_pick_f (v := .bool _) rfl rfl) ?_; refine Wo_nil ?_; refine W_cond rfl (fun h9 => ?_) (fun h9 => ?_); contradiction; refine W_skip ?_
    refine W_seq ?_; refine W_seq ?_
  clear stop10
  refine W_mid [42, 43, 44, 45, 46] (fun (_ : Unit) => [(46, .bool false)]) (fun _ w' => Ext w18 w') ?_ ?_
  · focus
      have szE48 := E48.size; have szE47 := E47.size; have szE46 := E46.size; have szE45 := E45.size; have szE44 := E44.size; have szE43 := E43.size; have szE42 := E42.size; have szE41 := E41.size; have szE40 := E40.size
      have szE39 := E39.size; have szE38 := E38.size; have szE37 := E37.size; have szE36 := E36.size; have szE35 := E35.size; have szE34 := E34.size; have szE33 := E33.size; have szE32 := E32.size; have szE31 := E31.size
      have szE30 := E30.size; have szE29 := E29.size; have szE28 := E28.size; have szE27 := E27.size; have szE26 := E26.size; have szE25 := E25.size; have szE24 := E24.size; have szE23 := E23.size; have szE22 := E22.size
      have szE21 := E21.size; have szE20 := E20.size; have szE19 := E19.size; have szE18 := E18.size; have szE17 := E17.size; have szE16 := E16.size; have szE15 := E15.size; have szE14 := E14.size; have szE13 := E13.size
      have szE12 := E12.size; have szE11 := E11.size; have szE10 := E10.size; have szE9 := E9.size; have szE8 := E8.size; have szE7 := E7.size; have szE6 := E6.size; have szE5 := E5.size; have szE4 := E4.size; have szE3 := E3.size
      have szE2 := E2.size; have szE1 := E1.size; refine W_held (fun _ => True) mixed rfl (by kernel_rfl) ?_; intro w19 E49 K6 hz6; have hs14 := E49.size; refine Wh_all (rs := [0, 1]) (by kernel_rfl) rfl ?_; refine WhAll_cons rfl ?_ ?_
      refine Wo (v := .agg _) rfl (opv_load2 Try.isAgg25 Try.sizeOf25 rfl (hB4.ext ((E47.trans E48).trans E49))) ?_; refine Wo_nil ?_; refine ⟨trivial, ?_⟩; refine Wh_all (rs := [1]) (by kernel_rfl) rfl ?_; refine WhAll_cons rfl ?_ ?_
      refine Wo (v := .agg _) rfl (opv_load2 Try.isAgg34 Try.sizeOf34 rfl (hB1.ext ((E47.trans E48).trans E49))) ?_; refine Wo_nil ?_; refine ⟨trivial, ?_⟩; refine Wh_all (rs := [2]) (by kernel_rfl) rfl ?_; refine WhAll_cons rfl ?_ ?_
      refine Wo_call rfl (opc1 (a := .agg _) Try.call23 rfl) (toStream_ok _ _ _ _ _ ((Mono.mono (((E38.trans E47).trans E48).trans E49) h1)) ((Mono.mono (((E38.trans E47).trans E48).trans E49) h2)) (by assumption) (by assumption)) ?_
      rintro _ w20 ⟨u7, q5, rfl, E50, hO5, hQ5, hd5⟩; have icu7 := OwnedB.isC (Owned.toB hO5); have cpu7 := OwnedB.capOk (Owned.toB hO5); have icq5 := OwnedB.isC (Owned.toB hQ5); have cpq5 := OwnedB.capOk (Owned.toB hQ5)
      have hs15 := E50.size; refine Wo_nil ?_; refine ⟨trivial, ?_⟩; refine Wh_all (rs := [3]) (by kernel_rfl) rfl ?_; refine WhAll_cons rfl ?_ ?_
      refine Wo_call rfl (opc2 (a := .agg _) (b := .agg _) Try.call24 rfl rfl) (eq_same _ _ _ _ _ _ _ ((Mono.mono (((E47.trans E48).trans E49).trans E50) (OwnedB.read hO3))) ((Mono.mono (((E47.trans E48).trans E49).trans E50) (OwnedB.read hQ3))) ((Owned.read hO5)) ((Owned.read hQ5))) ?_
      rintro _ w21 ⟨rfl, E51⟩; have hs16 := E51.size; refine Wo_nil ?_; refine ⟨trivial, ?_⟩; refine Wh_take 4 rfl (by kernel_rfl) (by kernel_rfl) rfl (fun _ _ => opv_not rfl) trivial ?_; refine Wh_done (by kernel_rfl) ?_; rotate_left
      exact WhAll_nil; exact WhAll_nil; exact WhAll_nil; refine WhAll_cons rfl ?_ ?_; refine Wo (v := .agg _) rfl (opv_load2 Try.isAgg34 Try.sizeOf34 rfl (hB1.ext ((E47.trans E48).trans E49))) ?_; refine Wo_nil ?_; refine ⟨trivial, ?_⟩
      refine Wh_all (rs := [0, 2]) (by kernel_rfl) rfl ?_; refine WhAll_cons rfl ?_ ?_; refine Wo (v := .agg _) rfl (opv_load2 Try.isAgg25 Try.sizeOf25 rfl (hB4.ext ((E47.trans E48).trans E49))) ?_; refine Wo_nil ?_; refine ⟨trivial, ?_⟩
      refine Wh_all (rs := [2]) (by kernel_rfl) rfl ?_; refine WhAll_cons rfl ?_ ?_
      refine Wo_call rfl (opc1 (a := .agg _) Try.call23 rfl) (toStream_ok _ _ _ _ _ ((Mono.mono (((E38.trans E47).trans E48).trans E49) h1)) ((Mono.mono (((E38.trans E47).trans E48).trans E49) h2)) (by assumption) (by assumption)) ?_
      rintro _ w20 ⟨u7, q5, rfl, E50, hO5, hQ5, hd5⟩; have icu7 := OwnedB.isC (Owned.toB hO5); have cpu7 := OwnedB.capOk (Owned.toB hO5); have icq5 := OwnedB.isC (Owned.toB hQ5); have cpq5 := OwnedB.capOk (Owned.toB hQ5)
      have hs15 := E50.size; refine Wo_nil ?_; refine ⟨trivial, ?_⟩; refine Wh_all (rs := [3]) (by kernel_rfl) rfl ?_; refine WhAll_cons rfl ?_ ?_
      refine Wo_call rfl (opc2 (a := .agg _) (b := .agg _) Try.call24 rfl rfl) (eq_same _ _ _ _ _ _ _ ((Mono.mono (((E47.trans E48).trans E49).trans E50) (OwnedB.read hO3))) ((Mono.mono (((E47.trans E48).trans E49).trans E50) (OwnedB.read hQ3))) ((Owned.read hO5)) ((Owned.read hQ5))) ?_
      rintro _ w21 ⟨rfl, E51⟩; have hs16 := E51.size; refine Wo_nil ?_; refine ⟨trivial, ?_⟩; refine Wh_take 4 rfl (by kernel_rfl) (by kernel_rfl) rfl (fun _ _ => opv_not rfl) trivial ?_; refine Wh_done (by kernel_rfl) ?_; rotate_left
      exact WhAll_nil; exact WhAll_nil; refine WhAll_cons rfl ?_ ?_
      refine Wo_call rfl (opc1 (a := .agg _) Try.call23 rfl) (toStream_ok _ _ _ _ _ ((Mono.mono (((E38.trans E47).trans E48).trans E49) h1)) ((Mono.mono (((E38.trans E47).trans E48).trans E49) h2)) (by assumption) (by assumption)) ?_
      rintro _ w20 ⟨u7, q5, rfl, E50, hO5, hQ5, hd5⟩; have icu7 := OwnedB.isC (Owned.toB hO5); have cpu7 := OwnedB.capOk (Owned.toB hO5); have icq5 := OwnedB.isC (Owned.toB hQ5); have cpq5 := OwnedB.capOk (Owned.toB hQ5)
      have hs15 := E50.size; refine Wo_nil ?_; refine ⟨trivial, ?_⟩; refine Wh_all (rs := [0]) (by kernel_rfl) rfl ?_; refine WhAll_cons rfl ?_ ?_
      refine Wo (v := .agg _) rfl (opv_load2 Try.isAgg25 Try.sizeOf25 rfl (hB4.ext (((E47.trans E48).trans E49).trans E50))) ?_; refine Wo_nil ?_; refine ⟨trivial, ?_⟩; refine Wh_all (rs := [3]) (by kernel_rfl) rfl ?_
      refine WhAll_cons rfl ?_ ?_
      refine Wo_call rfl (opc2 (a := .agg _) (b := .agg _) Try.call24 rfl rfl) (eq_same _ _ _ _ _ _ _ ((Mono.mono (((E47.trans E48).trans E49).trans E50) (OwnedB.read hO3))) ((Mono.mono (((E47.trans E48).trans E49).trans E50) (OwnedB.read hQ3))) ((Owned.read hO5)) ((Owned.read hQ5))) ?_
      rintro _ w21 ⟨rfl, E51⟩; have hs16 := E51.size; refine Wo_nil ?_; refine ⟨trivial, ?_⟩; refine Wh_take 4 rfl (by kernel_rfl) (by kernel_rfl) rfl (fun _ _ => opv_not rfl) trivial ?_; refine Wh_done (by kernel_rfl) ?_; rotate_left
      exact WhAll_nil; exact WhAll_nil; exact WhAll_nil; exact WhAll_nil
    all_goals
      refine ⟨(), by repeat (first | exact trivial | refine And.intro rfl ?_), by repeat (first | with_reducible exact Same.refl | refine Same.upd rfl ?_ | refine Same.upds rfl ?_ | refine Same.mix rfl ?_), ?_⟩
      first | assumption | exact E49.trans (E50.trans E51) | exact E49.trans E50
  rintro _ ρy w19 E60
  focus
    have szE60 := E60.size; have szE48 := E48.size; have szE47 := E47.size; have szE46 := E46.size; have szE45 := E45.size; have szE44 := E44.size; have szE43 := E43.size; have szE42 := E42.size; have szE41 := E41.size
    have szE40 := E40.size; have szE39 := E39.size; have szE38 := E38.size; have szE37 := E37.size; have szE36 := E36.size; have szE35 := E35.size; have szE34 := E34.size; have szE33 := E33.size; have szE32 := E32.size
    have szE31 := E31.size; have szE30 := E30.size; have szE29 := E29.size; have szE28 := E28.size; have szE27 := E27.size; have szE26 := E26.size; have szE25 := E25.size; have szE24 := E24.size; have szE23 := E23.size
    have szE22 := E22.size; have szE21 := E21.size; have szE20 := E20.size; have szE19 := E19.size; have szE18 := E18.size; have szE17 := E17.size; have szE16 := E16.size; have szE15 := E15.size; have szE14 := E14.size
    have szE13 := E13.size; have szE12 := E12.size; have szE11 := E11.size; have szE10 := E10.size; have szE9 := E9.size; have szE8 := E8.size; have szE7 := E7.size; have szE6 := E6.size; have szE5 := E5.size; have szE4 := E4.size
    have szE3 := E3.size; have szE2 := E2.size; have szE1 := E1.size; refine W_cond_false rfl ?_; refine W_skip ?_; refine W_seq ?_; refine W_region rfl ?_; refine Wo rfl (opv_assign (v := .int _ _) rfl) ?_; refine Wo_nil ?_
    refine W_seq ?_; refine W_region rfl ?_; refine Wo (v := .agg _) rfl (opv_load2 Try.isAgg25 Try.sizeOf25 rfl (hB4.ext ((E47.trans E48).trans E60))) ?_; refine Wo rfl (opv_move (v := .int _ _) rfl) ?_
    refine Wo_call rfl (opc2 (a := .agg _) (b := .int _ _) Try.call25 rfl rfl) (markStream_ok _ _ _ _ _ ((hO3.ext ((E47.trans E48).trans E60))) ((hQ3.ext ((E47.trans E48).trans E60))) (by assumption) (by assumption) (by omega) _ (by omega) (by assumption) (by assumption)) ?_
    rintro _ w20 ⟨rfl, E49, hO5, hQ5⟩; have hB6 := (hB6.ext ((E47.trans E48).trans E60)).span E49 (by omega); have hB5 := (hB5.ext ((E47.trans E48).trans E60)).span E49 (by omega)
    have hB4 := (hB4.ext ((E47.trans E48).trans E60)).span E49 (by omega); have hB3 := (hB3.ext ((E47.trans E48).trans E60)).span E49 (by omega); have hB2 := (hB2.ext ((E47.trans E48).trans E60)).span E49 (by omega)
    have hB1 := (hB1.ext ((E47.trans E48).trans E60)).span E49 (by omega); have hO1 := (hO1.ext ((E47.trans E48).trans E60)).span E49 (by omega); have hQ1 := (hQ1.ext ((E47.trans E48).trans E60)).span E49 (by omega)
    have hO2 := (hO2.ext ((E47.trans E48).trans E60)).span E49 (by omega); have hQ2 := (hQ2.ext ((E47.trans E48).trans E60)).span E49 (by omega); have hR1 := (hR1.ext ((E47.trans E48).trans E60)).span E49 (by omega)
    have hS1 := (hS1.ext ((E47.trans E48).trans E60)).span E49 (by omega); have hO4 := (hO4.ext ((E47.trans E48).trans E60)).span E49 (by omega); have hQ4 := (hQ4.ext ((E47.trans E48).trans E60)).span E49 (by omega)
    have hR2 := (hR2.ext ((E47.trans E48).trans E60)).span E49 (by omega); have hS2 := (hS2.ext ((E47.trans E48).trans E60)).span E49 (by omega); have E50 := (((E38.trans E47).trans E48).trans E60).span E49 (by omega)
    have E51 := ((((E39.trans E47).trans E48).trans E60)).span E49 (by omega); have szE51 := E51.size; have E52 := ((((E40.trans E47).trans E48).trans E60)).span E49 (by omega); have szE52 := E52.size
    have E53 := ((((E41.trans E47).trans E48).trans E60)).span E49 (by omega); have szE53 := E53.size; have E54 := ((((E42.trans E47).trans E48).trans E60)).span E49 (by omega); have szE54 := E54.size
    have E55 := ((((E43.trans E47).trans E48).trans E60)).span E49 (by omega); have szE55 := E55.size; have hs14 := E49.size; refine Wo rfl (opv_assign (v := .int _ _) rfl) ?_; refine Wo_nil ?_; refine W_seq ?_; refine W_seq ?_
    refine W_region rfl ?_; refine Wo rfl (opv_move (v := .int _ _) rfl) ?_; refine Wo rfl (opv_lss rfl rfl) ?_; refine Wo_split_dec rfl (opv_move (v := .bool _) rfl) (fun h10 => ?_) (fun h10 => ?_); contradiction
    refine Wo (v := .agg _) rfl (opv_load2 Try.isAgg25 Try.sizeOf25 rfl hB5) ?_; refine Wo (v := .agg _) rfl (opv_load2 Try.isAgg25 Try.sizeOf25 rfl hB2) ?_
    refine Wo_call rfl (opc2 (a := .agg _) (b := .agg _) Try.call24 rfl rfl) (eq_same _ _ _ _ _ _ _ ((OwnedB.read hO4)) ((OwnedB.read hQ4)) ((OwnedB.read hO2)) ((OwnedB.read hQ2))) ?_; rintro _ w21 ⟨rfl, E56⟩; have hs15 := E56.size
    refine Wo rfl (opv_not rfl) ?_; refine Wo rfl (opv_pick_f (v := .bool _) rfl rfl) ?_; refine Wo_split rfl (opv_move (v := .bool _) rfl) (fun h11 => ?_) (fun h11 => ?_); contradiction
    refine Wo (v := .agg _) rfl (opv_load2 Try.isAgg25 Try.sizeOf25 rfl (hB6.ext E56)) ?_; refine Wo (v := .agg _) rfl (opv_load2 Try.isAgg25 Try.sizeOf25 rfl (hB3.ext E56)) ?_
    refine Wo_call rfl (opc2 (a := .agg _) (b := .agg _) Try.call24 rfl rfl) (eq_same _ _ _ _ _ _ _ ((Mono.mono E56 (OwnedB.read hR2))) ((Mono.mono E56 (OwnedB.read hS2))) ((Mono.mono E56 (OwnedB.read hR1))) ((Mono.mono E56 (OwnedB.read hS1)))) ?_
    rintro _ w22 ⟨rfl, E57⟩; have hs16 := E57.size; refine Wo rfl (opv_not rfl) ?_; refine Wo rfl (opv_pick_f (v := .bool _) rfl rfl) ?_; refine Wo_nil ?_; refine W_cond rfl (fun h12 => ?_) (fun h12 => ?_); contradiction
    refine W_skip ?_; refine W_seq ?_; refine W_region rfl ?_; refine Wo rfl (opv_assign (v := .int _ _) rfl) ?_; refine Wo_nil ?_; refine W_seq ?_; refine W_region rfl ?_
    refine Wo (v := .agg _) rfl (opv_load2 Try.isAgg25 Try.sizeOf25 rfl (hB5.ext (E56.trans E57))) ?_; refine Wo rfl (opv_move (v := .int _ _) rfl) ?_
    refine Wo_call rfl (opc2 (a := .agg _) (b := .int _ _) Try.call25 rfl rfl) (markStream_ok _ _ _ _ _ ((hO4.ext (E56.trans E57))) ((hQ4.ext (E56.trans E57))) (by assumption) (by assumption) (by omega) _ (by omega) (by omega) (by omega)) ?_
    rintro _ w23 ⟨rfl, E58, hO6, hQ6⟩; have hO5 := (hO5.ext (E56.trans E57)).span E58 (by omega); have hQ5 := (hQ5.ext (E56.trans E57)).span E58 (by omega); have hB6 := (hB6.ext (E56.trans E57)).span E58 (by omega)
    have hB5 := (hB5.ext (E56.trans E57)).span E58 (by omega); have hB4 := (hB4.ext (E56.trans E57)).span E58 (by omega); have hB3 := (hB3.ext (E56.trans E57)).span E58 (by omega)
    have hB2 := (hB2.ext (E56.trans E57)).span E58 (by omega); have hB1 := (hB1.ext (E56.trans E57)).span E58 (by omega); have hO1 := (hO1.ext (E56.trans E57)).span E58 (by omega)
    have hQ1 := (hQ1.ext (E56.trans E57)).span E58 (by omega); have hO2 := (hO2.ext (E56.trans E57)).span E58 (by omega); have hQ2 := (hQ2.ext (E56.trans E57)).span E58 (by omega)
    have hR1 := (hR1.ext (E56.trans E57)).span E58 (by omega); have hS1 := (hS1.ext (E56.trans E57)).span E58 (by omega); have hR2 := (hR2.ext (E56.trans E57)).span E58 (by omega)
    have hS2 := (hS2.ext (E56.trans E57)).span E58 (by omega); have E59 := ((E50.trans E56).trans E57).span E58 (by omega); have E61 := (((E51.trans E56).trans E57)).span E58 (by omega); have szE61 := E61.size
    have E62 := (((E52.trans E56).trans E57)).span E58 (by omega); have szE62 := E62.size; have E63 := (((E53.trans E56).trans E57)).span E58 (by omega); have szE63 := E63.size
    have E64 := (((E54.trans E56).trans E57)).span E58 (by omega); have szE64 := E64.size; have E65 := (((E55.trans E56).trans E57)).span E58 (by omega); have szE65 := E65.size; have hs17 := E58.size
    refine Wo rfl (opv_assign (v := .int _ _) rfl) ?_; refine Wo_nil ?_; refine W_seq ?_; refine W_region rfl ?_; refine Wo (v := .agg _) rfl (opv_load2 Try.isAgg25 Try.sizeOf25 rfl hB6) ?_
    refine Wo rfl (opv_move (v := .int _ _) rfl) ?_
    refine Wo_call rfl (opc2 (a := .agg _) (b := .int _ _) Try.call25 rfl rfl) (markStream_ok _ _ _ _ _ (hR2) (hS2) (by assumption) (by assumption) (by omega) _ (by omega) (by omega) (by omega)) ?_; rintro _ w24 ⟨rfl, E66, hO7, hQ7⟩
    have hO6 := hO6.span E66 (by omega); have hQ6 := hQ6.span E66 (by omega); have hO5 := hO5.span E66 (by omega); have hQ5 := hQ5.span E66 (by omega); have hB6 := hB6.span E66 (by omega); have hB5 := hB5.span E66 (by omega)
    have hB4 := hB4.span E66 (by omega); have hB3 := hB3.span E66 (by omega); have hB2 := hB2.span E66 (by omega); have hB1 := hB1.span E66 (by omega); have hO1 := hO1.span E66 (by omega); have hQ1 := hQ1.span E66 (by omega)
    have hO2 := hO2.span E66 (by omega); have hQ2 := hQ2.span E66 (by omega); have hR1 := hR1.span E66 (by omega); have hS1 := hS1.span E66 (by omega); have E67 := E59.span E66 (by omega); have E68 := (E61).span E66 (by omega)
    have szE68 := E68.size; have E69 := (E62).span E66 (by omega); have szE69 := E69.size; have E70 := (E63).span E66 (by omega); have szE70 := E70.size; have E71 := (E64).span E66 (by omega); have szE71 := E71.size
    have E72 := (E65).span E66 (by omega); have szE72 := E72.size; have hs18 := E66.size; refine Wo rfl (opv_assign (v := .int _ _) rfl) ?_; refine Wo_nil ?_; refine W_seq ?_; refine W_region rfl ?_
    refine Wo rfl (opv_assign (v := .int _ _) rfl) ?_; refine Wo_nil ?_; refine W_seq ?_; refine W_region rfl ?_; refine Wo (v := .agg _) rfl (opv_load2 Try.isAgg25 Try.sizeOf25 rfl hB5) ?_
    refine Wo rfl (opv_move (v := .int _ _) rfl) ?_; refine Wo_call rfl (opc2 (a := .agg _) (b := .int _ _) Try.call26 rfl rfl) (heldStream_ok _ _ _ _ _ _ ((OwnedB.read hO6)) ((OwnedB.read hQ6)) (by omega) (by omega) (by omega)) ?_
    rintro _ w25 ⟨rfl, E73⟩; have hs19 := E73.size; refine Wo rfl (opv_assign (v := .int _ _) rfl) ?_; refine Wo_nil ?_; refine W_seq ?_; refine W_seq ?_; refine W_region rfl ?_; refine Wo rfl (opv_move (v := .int _ _) rfl) ?_
    refine Wo rfl (opv_lss rfl rfl) ?_; refine Wo_nil ?_; refine W_cond_dec rfl (fun h13 => ?_) (fun h13 => ?_); contradiction; refine W_skip ?_; refine W_seq ?_; refine W_region rfl ?_
    refine Wo (v := .agg _) rfl (opv_load2 Try.isAgg25 Try.sizeOf25 rfl (hB6.ext E73)) ?_; refine Wo rfl (opv_move (v := .int _ _) rfl) ?_
    refine Wo_call rfl (opc2 (a := .agg _) (b := .int _ _) Try.call26 rfl rfl) (heldStream_ok _ _ _ _ _ _ ((Mono.mono E73 (OwnedB.read hO7))) ((Mono.mono E73 (OwnedB.read hQ7))) (by omega) (by omega) (by omega)) ?_
    rintro _ w26 ⟨rfl, E74⟩; have hs20 := E74.size; refine Wo rfl (opv_assign (v := .int _ _) rfl) ?_; refine Wo_nil ?_; refine W_seq ?_; refine W_seq ?_; refine W_region rfl ?_; refine Wo rfl (opv_move (v := .int _ _) rfl) ?_
    refine Wo rfl (opv_lss rfl rfl) ?_; refine Wo_nil ?_; refine W_cond_dec rfl (fun h14 => ?_) (fun h14 => ?_); contradiction; refine W_skip ?_; refine W_seq ?_; refine W_seq ?_; refine W_region rfl ?_
    refine Wo rfl (opv_move (v := .int _ _) rfl) ?_; refine Wo rfl (opv_move (v := .int _ _) rfl) ?_; refine Wo rfl (opv_neq rfl rfl) ?_; refine Wo_nil ?_; refine W_cond_ndec rfl (fun h15 => ?_) (fun h15 => ?_); contradiction
    refine W_skip ?_; refine W_seq ?_; refine W_region rfl ?_; refine Wo (v := .agg _) rfl (opv_load2 Try.isAgg34 Try.sizeOf34 rfl (hB1.ext (E73.trans E74))) ?_
    refine Wo_call rfl (opc1 (a := .agg _) Try.call23 rfl) (toStream_ok _ _ _ _ _ ((Mono.mono ((E67.trans E73).trans E74) h1)) ((Mono.mono ((E67.trans E73).trans E74) h2)) (by assumption) (by assumption)) ?_
    rintro _ w27 ⟨u7, q5, rfl, E75, hO8, hQ8, hd5⟩; have icu7 := OwnedB.isC (Owned.toB hO8); have cpu7 := OwnedB.capOk (Owned.toB hO8); have icq5 := OwnedB.isC (Owned.toB hQ8); have cpq5 := OwnedB.capOk (Owned.toB hQ8)
    have hs21 := E75.size; refine Wo_call rfl (opc1 (a := .agg _) Try.call28 rfl) (k2 _ _ _ ((Owned.read hO8)) ((Owned.read hQ8))) ?_; rintro _ w28 ⟨u8, q6, r3, s3, m3, rfl, E76, hO9, hQ9, hd6, hR3, hS3, he3, hm3, hm3'⟩
    have icu8 := OwnedB.isC hO9; have cpu8 := OwnedB.capOk hO9; have icq6 := OwnedB.isC hQ9; have cpq6 := OwnedB.capOk hQ9; have icr3 := OwnedB.isC (Owned.toB hR3); have cpr3 := OwnedB.capOk (Owned.toB hR3)
    have ics3 := OwnedB.isC (Owned.toB hS3); have cps3 := OwnedB.capOk (Owned.toB hS3); have hs22 := E76.size; refine Wo rfl (opv_move (v := .tuple _) rfl) ?_; refine Wo rfl (opv_extract (v := .agg _) rfl rfl) ?_
    refine Wo rfl (opv_extract (v := .agg _) rfl rfl) ?_; refine Wo_alloc2 rfl flat25 ?_; rintro b7 w29 hb7 E77 hB7; have hlb7 := hB7.lt; have hs23 := E77.size; refine Wo_alloc2 rfl flat25 ?_; rintro b8 w30 hb8 E78 hB8
    have hlb8 := hB8.lt; have hs24 := E78.size
    refine Wo_st2 rfl Try.sizeOf25 rfl rfl (by first | rfl | assumption) (by first | rfl | assumption) (hB7.ext E78) (by omega) ((((((E67.trans E73).trans E74).trans E75).trans E76).trans E77).trans E78) ?_; rintro w31 E79 hB7 K6 hz6
    have E80 := ((((((E68.trans E73).trans E74).trans E75).trans E76).trans E77).trans E78).wroteAt ((((((E67.trans E73).trans E74).trans E75).trans E76).trans E77).trans E78) E79 K6 hz6 (by omega); have szE80 := E80.size
    have E81 := ((((((E69.trans E73).trans E74).trans E75).trans E76).trans E77).trans E78).wroteAt ((((((E67.trans E73).trans E74).trans E75).trans E76).trans E77).trans E78) E79 K6 hz6 (by omega); have szE81 := E81.size
    have E82 := ((((((E70.trans E73).trans E74).trans E75).trans E76).trans E77).trans E78).wroteAt ((((((E67.trans E73).trans E74).trans E75).trans E76).trans E77).trans E78) E79 K6 hz6 (by omega); have szE82 := E82.size
    have E83 := ((((((E71.trans E73).trans E74).trans E75).trans E76).trans E77).trans E78).wroteAt ((((((E67.trans E73).trans E74).trans E75).trans E76).trans E77).trans E78) E79 K6 hz6 (by omega); have szE83 := E83.size
    have E84 := ((((((E72.trans E73).trans E74).trans E75).trans E76).trans E77).trans E78).wroteAt ((((((E67.trans E73).trans E74).trans E75).trans E76).trans E77).trans E78) E79 K6 hz6 (by omega); have szE84 := E84.size
    have E85 := (((((E73.trans E74).trans E75).trans E76).trans E77).trans E78).wroteAt ((((((E67.trans E73).trans E74).trans E75).trans E76).trans E77).trans E78) E79 K6 hz6 (by omega); have szE85 := E85.size
    have E86 := ((((E74.trans E75).trans E76).trans E77).trans E78).wroteAt ((((((E67.trans E73).trans E74).trans E75).trans E76).trans E77).trans E78) E79 K6 hz6 (by omega); have szE86 := E86.size
    have E87 := (((E75.trans E76).trans E77).trans E78).wroteAt ((((((E67.trans E73).trans E74).trans E75).trans E76).trans E77).trans E78) E79 K6 hz6 (by omega); have szE87 := E87.size
    have E88 := ((E76.trans E77).trans E78).wroteAt ((((((E67.trans E73).trans E74).trans E75).trans E76).trans E77).trans E78) E79 K6 hz6 (by omega); have szE88 := E88.size
    have E89 := (E77.trans E78).wroteAt ((((((E67.trans E73).trans E74).trans E75).trans E76).trans E77).trans E78) E79 K6 hz6 (by omega); have szE89 := E89.size
    have hO7 := (hO7.ext (((((E73.trans E74).trans E75).trans E76).trans E77).trans E78)).wrote K6 (by omega); have hQ7 := (hQ7.ext (((((E73.trans E74).trans E75).trans E76).trans E77).trans E78)).wrote K6 (by omega)
    have hO6 := (hO6.ext (((((E73.trans E74).trans E75).trans E76).trans E77).trans E78)).wrote K6 (by omega); have hQ6 := (hQ6.ext (((((E73.trans E74).trans E75).trans E76).trans E77).trans E78)).wrote K6 (by omega)
    have hO5 := (hO5.ext (((((E73.trans E74).trans E75).trans E76).trans E77).trans E78)).wrote K6 (by omega); have hQ5 := (hQ5.ext (((((E73.trans E74).trans E75).trans E76).trans E77).trans E78)).wrote K6 (by omega)
    have hB6 := (hB6.ext (((((E73.trans E74).trans E75).trans E76).trans E77).trans E78)).of_heap (K6 _ (by omega)); have hB5 := (hB5.ext (((((E73.trans E74).trans E75).trans E76).trans E77).trans E78)).of_heap (K6 _ (by omega))
    have hB4 := (hB4.ext (((((E73.trans E74).trans E75).trans E76).trans E77).trans E78)).of_heap (K6 _ (by omega)); have hB3 := (hB3.ext (((((E73.trans E74).trans E75).trans E76).trans E77).trans E78)).of_heap (K6 _ (by omega))
    have hB2 := (hB2.ext (((((E73.trans E74).trans E75).trans E76).trans E77).trans E78)).of_heap (K6 _ (by omega)); have hB1 := (hB1.ext (((((E73.trans E74).trans E75).trans E76).trans E77).trans E78)).of_heap (K6 _ (by omega))
    have hO1 := (hO1.ext (((((E73.trans E74).trans E75).trans E76).trans E77).trans E78)).wrote K6 (by omega); have hQ1 := (hQ1.ext (((((E73.trans E74).trans E75).trans E76).trans E77).trans E78)).wrote K6 (by omega)
    have hO2 := (hO2.ext (((((E73.trans E74).trans E75).trans E76).trans E77).trans E78)).wrote K6 (by omega); have hQ2 := (hQ2.ext (((((E73.trans E74).trans E75).trans E76).trans E77).trans E78)).wrote K6 (by omega)
    have hR1 := (hR1.ext (((((E73.trans E74).trans E75).trans E76).trans E77).trans E78)).wrote K6 (by omega); have hS1 := (hS1.ext (((((E73.trans E74).trans E75).trans E76).trans E77).trans E78)).wrote K6 (by omega)
    have hO8 := (hO8.toB.ext ((E76.trans E77).trans E78)).wrote K6 (by omega); have hQ8 := (hQ8.toB.ext ((E76.trans E77).trans E78)).wrote K6 (by omega); have hO9 := (hO9.ext (E77.trans E78)).wrote K6 (by omega)
    have hQ9 := (hQ9.ext (E77.trans E78)).wrote K6 (by omega); have hR3 := (hR3.toB.ext (E77.trans E78)).wrote K6 (by omega); have hS3 := (hS3.toB.ext (E77.trans E78)).wrote K6 (by omega); have hB8 := hB8.of_heap (K6 _ (by omega))
    refine Wo_st2 rfl Try.sizeOf25 rfl rfl (by first | rfl | assumption) (by first | rfl | assumption) hB8 (by omega) E79 ?_; rintro w32 E90 hB8 K7 hz7; have E91 := E80.wroteAt E79 E90 K7 hz7 (by omega); have szE91 := E91.size
    have E92 := E81.wroteAt E79 E90 K7 hz7 (by omega); have szE92 := E92.size; have E93 := E82.wroteAt E79 E90 K7 hz7 (by omega); have szE93 := E93.size; have E94 := E83.wroteAt E79 E90 K7 hz7 (by omega); have szE94 := E94.size
    have E95 := E84.wroteAt E79 E90 K7 hz7 (by omega); have szE95 := E95.size; have E96 := E85.wroteAt E79 E90 K7 hz7 (by omega); have szE96 := E96.size; have E97 := E86.wroteAt E79 E90 K7 hz7 (by omega); have szE97 := E97.size
    have E98 := E87.wroteAt E79 E90 K7 hz7 (by omega); have szE98 := E98.size; have E99 := E88.wroteAt E79 E90 K7 hz7 (by omega); have szE99 := E99.size; have E100 := E89.wroteAt E79 E90 K7 hz7 (by omega); have szE100 := E100.size
    have hB7 := hB7.of_heap (K7 _ (by omega)); have hO7 := hO7.wrote K7 (by omega); have hQ7 := hQ7.wrote K7 (by omega); have hO6 := hO6.wrote K7 (by omega); have hQ6 := hQ6.wrote K7 (by omega); have hO5 := hO5.wrote K7 (by omega)
    have hQ5 := hQ5.wrote K7 (by omega); have hB6 := hB6.of_heap (K7 _ (by omega)); have hB5 := hB5.of_heap (K7 _ (by omega)); have hB4 := hB4.of_heap (K7 _ (by omega)); have hB3 := hB3.of_heap (K7 _ (by omega))
    have hB2 := hB2.of_heap (K7 _ (by omega)); have hB1 := hB1.of_heap (K7 _ (by omega)); have hO1 := hO1.wrote K7 (by omega); have hQ1 := hQ1.wrote K7 (by omega); have hO2 := hO2.wrote K7 (by omega); have hQ2 := hQ2.wrote K7 (by omega)
    have hR1 := hR1.wrote K7 (by omega); have hS1 := hS1.wrote K7 (by omega); have hO8 := hO8.wrote K7 (by omega); have hQ8 := hQ8.wrote K7 (by omega); have hO9 := hO9.wrote K7 (by omega); have hQ9 := hQ9.wrote K7 (by omega)
    have hR3 := hR3.wrote K7 (by omega); have hS3 := hS3.wrote K7 (by omega); refine Wo_nil ?_; refine W_seq ?_; refine W_seq ?_; refine W_region rfl ?_; refine Wo (v := .agg _) rfl (opv_load2 Try.isAgg25 Try.sizeOf25 rfl hB7) ?_
    refine Wo (v := .agg _) rfl (opv_load2 Try.isAgg25 Try.sizeOf25 rfl hB2) ?_
    refine Wo_call rfl (opc2 (a := .agg _) (b := .agg _) Try.call24 rfl rfl) (eq_same _ _ _ _ _ _ _ ((OwnedB.read hO9)) ((OwnedB.read hQ9)) ((OwnedB.read hO2)) ((OwnedB.read hQ2))) ?_; rintro _ w33 ⟨rfl, E101⟩; have hs25 := E101.size
    refine Wo rfl (opv_not rfl) ?_; refine Wo_split rfl (opv_move (v := .bool _) rfl) (fun h16 => ?_) (fun h16 => ?_); contradiction; refine Wo (v := .agg _) rfl (opv_load2 Try.isAgg25 Try.sizeOf25 rfl (hB8.ext E101)) ?_
    refine Wo (v := .agg _) rfl (opv_load2 Try.isAgg25 Try.sizeOf25 rfl (hB3.ext E101)) ?_
    refine Wo_call rfl (opc2 (a := .agg _) (b := .agg _) Try.call24 rfl rfl) (eq_same _ _ _ _ _ _ _ ((Mono.mono E101 (OwnedB.read hR3))) ((Mono.mono E101 (OwnedB.read hS3))) ((Mono.mono E101 (OwnedB.read hR1))) ((Mono.mono E101 (OwnedB.read hS1)))) ?_
    rintro _ w34 ⟨rfl, E102⟩; have hs26 := E102.size; refine Wo rfl (opv_not rfl) ?_; refine Wo rfl (opv_pick_f (v := .bool _) rfl rfl) ?_; refine Wo_nil ?_; refine W_cond rfl (fun h17 => ?_) (fun h17 => ?_); contradiction
    refine W_skip ?_; refine W_seq ?_; refine W_region rfl ?_; refine Wo rfl (opv_assign (v := .int _ _) rfl) ?_; refine Wo_nil ?_; refine W_seq ?_; refine W_region rfl ?_
    refine Wo (v := .agg _) rfl (opv_load2 Try.isAgg25 Try.sizeOf25 rfl (hB5.ext (E101.trans E102))) ?_; refine Wo rfl (opv_move (v := .int _ _) rfl) ?_
    refine Wo_call rfl (opc2 (a := .agg _) (b := .int _ _) Try.call26 rfl rfl) (heldStream_ok _ _ _ _ _ _ ((Mono.mono (E101.trans E102) (OwnedB.read hO6))) ((Mono.mono (E101.trans E102) (OwnedB.read hQ6))) (by omega) (by omega) (by omega)) ?_
    rintro _ w35 ⟨rfl, E103⟩; have hs27 := E103.size; refine Wo rfl (opv_assign (v := .int _ _) rfl) ?_; refine Wo_nil ?_; refine W_seq ?_; refine W_seq ?_; refine W_region rfl ?_; refine Wo rfl (opv_move (v := .int _ _) rfl) ?_
    refine Wo rfl (opv_lss rfl rfl) ?_; refine Wo_nil ?_; refine W_cond_dec rfl (fun h18 => ?_) (fun h18 => ?_); contradiction; refine W_skip ?_; refine W_seq ?_; refine W_region rfl ?_
    refine Wo (v := .agg _) rfl (opv_load2 Try.isAgg25 Try.sizeOf25 rfl (hB6.ext ((E101.trans E102).trans E103))) ?_; refine Wo rfl (opv_move (v := .int _ _) rfl) ?_
    refine Wo_call rfl (opc2 (a := .agg _) (b := .int _ _) Try.call26 rfl rfl) (heldStream_ok _ _ _ _ _ _ ((Mono.mono ((E101.trans E102).trans E103) (OwnedB.read hO7))) ((Mono.mono ((E101.trans E102).trans E103) (OwnedB.read hQ7))) (by omega) (by omega) (by omega)) ?_
    rintro _ w36 ⟨rfl, E104⟩; have hs28 := E104.size; refine Wo rfl (opv_assign (v := .int _ _) rfl) ?_; refine Wo_nil ?_; refine W_seq ?_; refine W_seq ?_; refine W_region rfl ?_; refine Wo rfl (opv_move (v := .int _ _) rfl) ?_
    refine Wo rfl (opv_lss rfl rfl) ?_; refine Wo_nil ?_; refine W_cond_dec rfl (fun h19 => ?_) (fun h19 => ?_); contradiction; refine W_skip ?_; refine W_seq ?_; refine W_seq ?_; refine W_region rfl ?_
    refine Wo rfl (opv_move (v := .int _ _) rfl) ?_; refine Wo rfl (opv_move (v := .int _ _) rfl) ?_; refine Wo rfl (opv_neq rfl rfl) ?_; refine Wo_nil ?_; refine W_cond_ndec rfl (fun h20 => ?_) (fun h20 => ?_); contradiction
    refine W_skip ?_; refine W_seq ?_; refine W_region rfl ?_; refine Wo rfl (opv_assign (v := .bool _) rfl) ?_; refine Wo_nil ?_; refine W_ret ?_; exact ⟨rfl, ((((E90.trans E101).trans E102).trans E103).trans E104)⟩

end Go.Proofs.Ytlalfmialbolhaa
