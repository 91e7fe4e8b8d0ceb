/- Walks: the law of every other bit. -/
import Derived.Test.YtlalfmialbolhaaHsWStrJ
import Derived.Test.YtlalfmialbolhaaHsWStrO
import Derived.Test.YtlalfmialbolhaaHsWStrL
namespace Go.Proofs.Ytlalfmialbolhaa
open Go.Hs
set_option maxRecDepth 10000
set_option maxHeartbeats 4000000
set_option linter.unusedVariables false
set_option linter.unusedSimpArgs false
theorem lay_tk {f : Nat → Int} : lay (tk f 0) (tk f 1) = f := by
  funext k
  unfold lay tk
  split
  · congr 1; omega
  · congr 1; omega
theorem tk_stm {A B : List Int} (h : Stm A B) (c : Nat) : Stm (shL (tk (bat A B) c)) (shR (tk (bat A B) c)) ∧ bat (shL (tk (bat A B) c)) (shR (tk (bat A B) c)) = tk (bat A B) c := by
  have hp := per_tk h.per c
  obtain ⟨b, q, hs⟩ := IsSh.ex hp
  obtain ⟨e1, e2⟩ := hs.eq
  have h3 := hs.2 _ _ hp
  have hl := h.2.2
  unfold shL shR
  rw [e1, e2]
  exact ⟨stm_win (fun k => h.bit _) hs.1.1 (by omega), bat_win hs.1⟩

theorem FnEveryOther_walk (w : World) (v : Value) (xs : List UInt8) (h : Bytes w v xs) (hc : CapOk v) : Does Try.prog 9 [v] w (Ret w (.bool true)) := by
  classical
  have hle := h.le
  refine fn_of_W1 Try.func9 rfl Try.results9 Try.ntmps9 rfl ?_
  have stop4 : True := trivial
  focus
    refine W_seq ?_; refine W_region rfl ?_; refine Wo rfl (opv_assign (v := .bool _) rfl) ?_; refine Wo_nil ?_; refine W_seq ?_; refine W_seq ?_; refine W_region rfl ?_; refine Wo rfl (opv_move (v := v) rfl) ?_
    refine Wo rfl (opv_len Try.underlying22 rfl h) ?_; refine Wo rfl (opv_gtr rfl rfl) ?_; refine Wo_nil ?_; refine W_cond_dec rfl (fun h1 => ?_) (fun h1 => ?_); refine W_seq ?_; refine W_region rfl ?_
    refine Wo rfl (opv_assign (v := .bool _) rfl) ?_; refine Wo_nil ?_; refine W_ret ?_; exact ⟨rfl, (Ext.refl _)⟩; refine W_skip ?_; refine W_seq ?_; refine W_region rfl ?_; refine Wo rfl (opv_move (v := v) rfl) ?_
    refine Wo_call rfl (opc1 (a := v) Try.call37 rfl) (DrawEveryOther_ok _ _ _ (h) (by assumption)) ?_; rintro _ w1 ⟨u1, q1, x1, y1, rfl, E1, hO1, hQ1, hy1⟩; have icu1 := OwnedB.isC (Owned.toB hO1)
    have cpu1 := OwnedB.capOk (Owned.toB hO1); have icq1 := OwnedB.isC (Owned.toB hQ1); have cpq1 := OwnedB.capOk (Owned.toB hQ1); have hs1 := E1.size; refine Wo_alloc2 rfl flat25 ?_; rintro b1 w2 hb1 E2 hB1; have hlb1 := hB1.lt
    have hs2 := E2.size; refine Wo_st2 rfl Try.sizeOf25 rfl rfl (by first | rfl | assumption) (by first | rfl | assumption) hB1 (by omega) (E1.trans E2) ?_; rintro w3 E3 hB1 K1 hz1
    have E4 := E2.wroteAt (E1.trans E2) E3 K1 hz1 (by omega); have szE4 := E4.size; have hO1 := (hO1.toB.ext E2).wrote K1 (by omega); have hQ1 := (hQ1.toB.ext E2).wrote K1 (by omega); refine Wo_nil ?_; refine W_seq ?_
  clear stop4
  obtain ⟨hA, hB⟩ := hy1
  have r1 := hO1.read
  have r2 := hQ1.read
  clear hO1 hQ1
  have hok : ∀ (x : Bool), decide (Stm x1 y1) = x → ∀ (w : World) (u1 u2 : Value), Ints w u1 x1 → Ints w u2 y1 → Does Try.prog 16 [.agg #[u1, u2]] w (Ret w (.bool x)) := fun x e w u1 u2 h1 h2 => e ▸ StreamOk_ok w u1 u2 _ _ h1 h2 (by omega) (by omega)
  by_cases hs : Stm x1 y1
  · have eV : ∀ c, evV x1 y1 c = (shL (tk (bat x1 y1) c), shR (tk (bat x1 y1) c)) := fun c => if_pos hs
    obtain ⟨hS, hb⟩ := tk_stm hs 0
    obtain ⟨hS1, hb1⟩ := tk_stm hs 1
    have hS2 := hS.2.2
    have hS3 := hS1.2.2
    have hst := hs.short_stm
    have hsb := hs.short_bat
    have hsl := hst.2.2
    have k0 := hok true (decide_eq_true hs)
    have k1 : ∀ (w : World) (u1 u2 : Value), Ints w u1 x1 → Ints w u2 y1 → Does Try.prog 28 [.agg #[u1, u2]] w (RetS22 w 3 (shL (tk (bat x1 y1) 0)) (shR (tk (bat x1 y1) 0)) (shL (tk (bat x1 y1) 1)) (shR (tk (bat x1 y1) 1))) := fun w u1 u2 h1 h2 => by
      have := impl_EveryOther_ok w u1 u2 _ _ h1 h2 (by omega) (by omega)
      rw [eV, eV] at this; exact this
    have k2 : ∀ (w : World) (u1 u2 : Value), Ints w u1 x1 → Ints w u2 y1 → Does Try.prog 27 [.agg #[u1, u2]] w (RetS22 w 3 (shL (tk (bat x1 y1) 0)) (shR (tk (bat x1 y1) 0)) (shL (tk (bat x1 y1) 1)) (shR (tk (bat x1 y1) 1))) := fun w u1 u2 h1 h2 => by
      have := spec_EveryOther_ok w u1 u2 _ _ h1 h2 (by omega) (by omega)
      rw [eV, eV] at this; exact this
    have k3 : ∀ (k : Nat), k < 20 → ∀ (w : World) (u1 u2 : Value), Ints w u1 (shL (tk (bat x1 y1) 0)) → Ints w u2 (shR (tk (bat x1 y1) 0)) → Does Try.prog 33 [.agg #[u1, u2], .int .i64 (k : Int)] w (Ret w (.int .i64 (bat x1 y1 (2 * k)))) := fun k hk w u1 u2 h1 h2 => by
      have := impl_BitAt_ok w u1 u2 _ _ h1 h2 (by omega) (by omega) (k : Int)
      rw [show batV (shL (tk (bat x1 y1) 0)) (shR (tk (bat x1 y1) 0)) (k : Int) = bat x1 y1 (2 * k) by
        unfold batV
        rw [if_pos ⟨hS, by omega, by omega⟩, hb]
        rfl] at this
      exact this
    have k4 : ∀ (k : Nat), k < 20 → ∀ (w : World) (u1 u2 : Value), Ints w u1 (shL (tk (bat x1 y1) 1)) → Ints w u2 (shR (tk (bat x1 y1) 1)) → Does Try.prog 33 [.agg #[u1, u2], .int .i64 (k : Int)] w (Ret w (.int .i64 (bat x1 y1 (2 * k + 1)))) := fun k hk w u1 u2 h1 h2 => by
      have := impl_BitAt_ok w u1 u2 _ _ h1 h2 (by omega) (by omega) (k : Int)
      rw [show batV (shL (tk (bat x1 y1) 1)) (shR (tk (bat x1 y1) 1)) (k : Int) = bat x1 y1 (2 * k + 1) by
        unfold batV
        rw [if_pos ⟨hS1, by omega, by omega⟩, hb1]
        rfl] at this
      exact this
    have k5 : ∀ (k : Nat), k < 20 → ∀ (w : World) (u1 u2 : Value), Ints w u1 x1 → Ints w u2 y1 → Does Try.prog 33 [.agg #[u1, u2], .int .i64 (2 * (k : Int))] w (Ret w (.int .i64 (bat x1 y1 (2 * k)))) := fun k hk w u1 u2 h1 h2 => by
      have := impl_BitAt_ok w u1 u2 _ _ h1 h2 (by omega) (by omega) (2 * (k : Int))
      rw [show batV x1 y1 (2 * (k : Int)) = bat x1 y1 (2 * k) by unfold batV; rw [if_pos ⟨hs, by omega, by omega⟩]; congr 1] at this
      exact this
    have k6 : ∀ (k : Nat), k < 20 → ∀ (w : World) (u1 u2 : Value), Ints w u1 x1 → Ints w u2 y1 → Does Try.prog 33 [.agg #[u1, u2], .int .i64 (2 * (k : Int) + 1)] w (Ret w (.int .i64 (bat x1 y1 (2 * k + 1)))) := fun k hk w u1 u2 h1 h2 => by
      have := impl_BitAt_ok w u1 u2 _ _ h1 h2 (by omega) (by omega) (2 * (k : Int) + 1)
      rw [show batV x1 y1 (2 * (k : Int) + 1) = bat x1 y1 (2 * k + 1) by unfold batV; rw [if_pos ⟨hs, by omega, by omega⟩]; congr 1] at this
      exact this
    have hP : ∀ (x : Bool), decide (lbOk (shL (tk (bat x1 y1) 0)) (shR (tk (bat x1 y1) 0)) (shL (tk (bat x1 y1) 1)) (shR (tk (bat x1 y1) 1))) = x → ∀ (w : World) (u1 u2 v1 v2 : Value), Ints w u1 (shL (tk (bat x1 y1) 0)) → Ints w u2 (shR (tk (bat x1 y1) 0)) → Ints w v1 (shL (tk (bat x1 y1) 1)) → Ints w v2 (shR (tk (bat x1 y1) 1)) → Does Try.prog 36 [.agg #[u1, u2], .agg #[v1, v2]] w (RetS2b w 3 (if x = true then shL (bat x1 y1) else []) (if x = true then shR (bat x1 y1) else []) x) := fun x e w u1 u2 v1 v2 h1 h2 h3 h4 => by
      have := impl_LaidBetween_ok w u1 u2 v1 v2 _ _ _ _ h1 h2 h3 h4 (by omega) (by omega) (by omega) (by omega)
      cases x
      · rw [show lbV (shL (tk (bat x1 y1) 0)) (shR (tk (bat x1 y1) 0)) (shL (tk (bat x1 y1) 1)) (shR (tk (bat x1 y1) 1)) = ([], [], false) from if_neg (of_decide_eq_false e)] at this
        exact this
      · rw [show lbV (shL (tk (bat x1 y1) 0)) (shR (tk (bat x1 y1) 0)) (shL (tk (bat x1 y1) 1)) (shR (tk (bat x1 y1) 1)) = (shL (bat x1 y1), shR (bat x1 y1), true) by unfold lbV; rw [if_pos (of_decide_eq_true e), hb, hb1, lay_tk]] at this
        exact this
    have k8 : ∀ (w : World) (u1 u2 v1 v2 : Value), Ints w u1 (shL (bat x1 y1)) → Ints w u2 (shR (bat x1 y1)) → Ints w v1 x1 → Ints w v2 y1 → Does Try.prog 14 [.agg #[u1, u2], .agg #[v1, v2]] w (Ret w (.bool true)) := fun w u1 u2 v1 v2 h1 h2 h3 h4 => by
      have := impl_SameStreams_ok w u1 u2 v1 v2 _ _ _ _ h1 h2 h3 h4 (by omega) (by omega) (by omega) (by omega)
      rw [show ssV (shL (bat x1 y1)) (shR (bat x1 y1)) x1 y1 = true from decide_eq_true ⟨hst, hs, hsb⟩] at this
      exact this
    generalize decide (lbOk (shL (tk (bat x1 y1) 0)) (shR (tk (bat x1 y1) 0)) (shL (tk (bat x1 y1) 1)) (shR (tk (bat x1 y1) 1))) = pb at hP
    have k7 := hP pb rfl
    clear hP eV hS hS1 hb hb1 hs hok hst hsb hsl hS2 hS3
    generalize shL (tk (bat x1 y1) 0) = X at *
    generalize shR (tk (bat x1 y1) 0) = Y at *
    generalize shL (tk (bat x1 y1) 1) = P at *
    generalize shR (tk (bat x1 y1) 1) = Q at *
    generalize shL (bat x1 y1) = Z at *
    generalize shR (bat x1 y1) = T at *
    generalize bat x1 y1 = f at *
    focus
      have szE4 := E4.size; have szE3 := E3.size; have szE2 := E2.size; have szE1 := E1.size; refine W_region rfl ?_; refine Wo (v := .agg _) rfl (opv_load2 Try.isAgg25 Try.sizeOf25 rfl hB1) ?_
      refine Wo_call rfl (opc1 (a := .agg _) Try.call28 rfl) (k1 _ _ _ (r1) (r2)) ?_; rintro _ w4 ⟨u2, q2, r3, s1, m1, rfl, E5, hO2, hQ2, hd1, hR1, hS1, he1, hm1, hm1'⟩; have icu2 := OwnedB.isC hO2; have cpu2 := OwnedB.capOk hO2
      have icq2 := OwnedB.isC hQ2; have cpq2 := OwnedB.capOk hQ2; have icr3 := OwnedB.isC (Owned.toB hR1); have cpr3 := OwnedB.capOk (Owned.toB hR1); have ics1 := OwnedB.isC (Owned.toB hS1); have cps1 := OwnedB.capOk (Owned.toB hS1)
      have hs3 := E5.size; refine Wo rfl (opv_move (v := .tuple _) rfl) ?_; refine Wo rfl (opv_extract (v := .agg _) rfl rfl) ?_; refine Wo rfl (opv_extract (v := .agg _) rfl rfl) ?_; refine Wo_alloc2 rfl flat25 ?_
      rintro b2 w5 hb2 E6 hB2; have hlb2 := hB2.lt; have hs4 := E6.size; refine Wo_alloc2 rfl flat25 ?_; rintro b3 w6 hb3 E7 hB3; have hlb3 := hB3.lt; have hs5 := E7.size
      refine Wo_st2 rfl Try.sizeOf25 rfl rfl (by first | rfl | assumption) (by first | rfl | assumption) (hB2.ext E7) (by omega) (((E3.trans E5).trans E6).trans E7) ?_; rintro w7 E8 hB2 K2 hz2
      have E9 := (((E4.trans E5).trans E6).trans E7).wroteAt (((E3.trans E5).trans E6).trans E7) E8 K2 hz2 (by omega); have szE9 := E9.size
      have E10 := ((E5.trans E6).trans E7).wroteAt (((E3.trans E5).trans E6).trans E7) E8 K2 hz2 (by omega); have szE10 := E10.size; have E11 := (E6.trans E7).wroteAt (((E3.trans E5).trans E6).trans E7) E8 K2 hz2 (by omega)
      have szE11 := E11.size; have hO1 := (hO1.toB.ext (((E4.trans E5).trans E6).trans E7)).wrote K2 (by omega); have hQ1 := (hQ1.toB.ext (((E4.trans E5).trans E6).trans E7)).wrote K2 (by omega)
      have hB1 := (hB1.ext ((E5.trans E6).trans E7)).of_heap (K2 _ (by omega)); have hO2 := (hO2.ext (E6.trans E7)).wrote K2 (by omega); have hQ2 := (hQ2.ext (E6.trans E7)).wrote K2 (by omega)
      have hR1 := (hR1.toB.ext (E6.trans E7)).wrote K2 (by omega); have hS1 := (hS1.toB.ext (E6.trans E7)).wrote K2 (by omega); have hB3 := hB3.of_heap (K2 _ (by omega))
      refine Wo_st2 rfl Try.sizeOf25 rfl rfl (by first | rfl | assumption) (by first | rfl | assumption) hB3 (by omega) E8 ?_; rintro w8 E12 hB3 K3 hz3; have E13 := E9.wroteAt E8 E12 K3 hz3 (by omega); have szE13 := E13.size
      have E14 := E10.wroteAt E8 E12 K3 hz3 (by omega); have szE14 := E14.size; have E15 := E11.wroteAt E8 E12 K3 hz3 (by omega); have szE15 := E15.size; have hB2 := hB2.of_heap (K3 _ (by omega)); have hO1 := hO1.wrote K3 (by omega)
      have hQ1 := hQ1.wrote K3 (by omega); have hB1 := hB1.of_heap (K3 _ (by omega)); have hO2 := hO2.wrote K3 (by omega); have hQ2 := hQ2.wrote K3 (by omega); have hR1 := hR1.wrote K3 (by omega); have hS1 := hS1.wrote K3 (by omega)
      refine Wo_nil ?_; refine W_seq ?_; refine W_region rfl ?_; refine Wo (v := .agg _) rfl (opv_load2 Try.isAgg25 Try.sizeOf25 rfl hB1) ?_
      refine Wo_call rfl (opc1 (a := .agg _) Try.call27 rfl) (k2 _ _ _ ((OwnedB.read hO1)) ((OwnedB.read hQ1))) ?_; rintro _ w9 ⟨u3, q3, r4, s2, m2, rfl, E16, hO3, hQ3, hd2, hR2, hS2, he2, hm2, hm2'⟩; have icu3 := OwnedB.isC hO3
      have cpu3 := OwnedB.capOk hO3; have icq3 := OwnedB.isC hQ3; have cpq3 := OwnedB.capOk hQ3; have icr4 := OwnedB.isC (Owned.toB hR2); have cpr4 := OwnedB.capOk (Owned.toB hR2); have ics2 := OwnedB.isC (Owned.toB hS2)
      have cps2 := OwnedB.capOk (Owned.toB hS2); have hs6 := E16.size; refine Wo rfl (opv_move (v := .tuple _) rfl) ?_; refine Wo rfl (opv_extract (v := .agg _) rfl rfl) ?_; refine Wo rfl (opv_extract (v := .agg _) rfl rfl) ?_
      refine Wo_alloc2 rfl flat25 ?_; rintro b4 w10 hb4 E17 hB4; have hlb4 := hB4.lt; have hs7 := E17.size; refine Wo_alloc2 rfl flat25 ?_; rintro b5 w11 hb5 E18 hB5; have hlb5 := hB5.lt; have hs8 := E18.size
      refine Wo_st2 rfl Try.sizeOf25 rfl rfl (by first | rfl | assumption) (by first | rfl | assumption) (hB4.ext E18) (by omega) (((E12.trans E16).trans E17).trans E18) ?_; rintro w12 E19 hB4 K4 hz4
      have E20 := (((E13.trans E16).trans E17).trans E18).wroteAt (((E12.trans E16).trans E17).trans E18) E19 K4 hz4 (by omega); have szE20 := E20.size
      have E21 := (((E14.trans E16).trans E17).trans E18).wroteAt (((E12.trans E16).trans E17).trans E18) E19 K4 hz4 (by omega); have szE21 := E21.size
      have E22 := (((E15.trans E16).trans E17).trans E18).wroteAt (((E12.trans E16).trans E17).trans E18) E19 K4 hz4 (by omega); have szE22 := E22.size
      have E23 := ((E16.trans E17).trans E18).wroteAt (((E12.trans E16).trans E17).trans E18) E19 K4 hz4 (by omega); have szE23 := E23.size; have E24 := (E17.trans E18).wroteAt (((E12.trans E16).trans E17).trans E18) E19 K4 hz4 (by omega)
      have szE24 := E24.size; have hB3 := (hB3.ext ((E16.trans E17).trans E18)).of_heap (K4 _ (by omega)); have hB2 := (hB2.ext ((E16.trans E17).trans E18)).of_heap (K4 _ (by omega))
      have hO1 := (hO1.ext ((E16.trans E17).trans E18)).wrote K4 (by omega); have hQ1 := (hQ1.ext ((E16.trans E17).trans E18)).wrote K4 (by omega); have hB1 := (hB1.ext ((E16.trans E17).trans E18)).of_heap (K4 _ (by omega))
      have hO2 := (hO2.ext ((E16.trans E17).trans E18)).wrote K4 (by omega); have hQ2 := (hQ2.ext ((E16.trans E17).trans E18)).wrote K4 (by omega); have hR1 := (hR1.ext ((E16.trans E17).trans E18)).wrote K4 (by omega)
      have hS1 := (hS1.ext ((E16.trans E17).trans E18)).wrote K4 (by omega); have hO3 := (hO3.ext (E17.trans E18)).wrote K4 (by omega); have hQ3 := (hQ3.ext (E17.trans E18)).wrote K4 (by omega)
      have hR2 := (hR2.toB.ext (E17.trans E18)).wrote K4 (by omega); have hS2 := (hS2.toB.ext (E17.trans E18)).wrote K4 (by omega); have hB5 := hB5.of_heap (K4 _ (by omega))
      refine Wo_st2 rfl Try.sizeOf25 rfl rfl (by first | rfl | assumption) (by first | rfl | assumption) hB5 (by omega) E19 ?_; rintro w13 E25 hB5 K5 hz5; have E26 := E20.wroteAt E19 E25 K5 hz5 (by omega); have szE26 := E26.size
      have E27 := E21.wroteAt E19 E25 K5 hz5 (by omega); have szE27 := E27.size; have E28 := E22.wroteAt E19 E25 K5 hz5 (by omega); have szE28 := E28.size; have E29 := E23.wroteAt E19 E25 K5 hz5 (by omega); have szE29 := E29.size
      have E30 := E24.wroteAt E19 E25 K5 hz5 (by omega); have szE30 := E30.size; have hB4 := hB4.of_heap (K5 _ (by omega)); have hB3 := hB3.of_heap (K5 _ (by omega)); have hB2 := hB2.of_heap (K5 _ (by omega))
      have hO1 := hO1.wrote K5 (by omega); have hQ1 := hQ1.wrote K5 (by omega); have hB1 := hB1.of_heap (K5 _ (by omega)); have hO2 := hO2.wrote K5 (by omega); have hQ2 := hQ2.wrote K5 (by omega); have hR1 := hR1.wrote K5 (by omega)
      have hS1 := hS1.wrote K5 (by omega); have hO3 := hO3.wrote K5 (by omega); have hQ3 := hQ3.wrote K5 (by omega); have hR2 := hR2.wrote K5 (by omega); have hS2 := hS2.wrote K5 (by omega); refine Wo_nil ?_; refine W_seq ?_
      refine W_seq ?_; refine W_region rfl ?_; refine Wo (v := .agg _) rfl (opv_load2 Try.isAgg25 Try.sizeOf25 rfl hB2) ?_; refine Wo (v := .agg _) rfl (opv_load2 Try.isAgg25 Try.sizeOf25 rfl hB4) ?_
      refine Wo_call rfl (opc2 (a := .agg _) (b := .agg _) Try.call18 rfl rfl) (same_str _ _ _ _ _ _ _ ((OwnedB.read hO2)) ((OwnedB.read hQ2)) ((OwnedB.read hO3)) ((OwnedB.read hQ3))) ?_; rintro _ w14 ⟨rfl, E31⟩; have hs9 := E31.size
      refine Wo rfl (opv_not rfl) ?_; refine Wo_split rfl (opv_move (v := .bool _) rfl) (fun h2 => ?_) (fun h2 => ?_); contradiction; refine Wo (v := .agg _) rfl (opv_load2 Try.isAgg25 Try.sizeOf25 rfl (hB3.ext E31)) ?_
      refine Wo (v := .agg _) rfl (opv_load2 Try.isAgg25 Try.sizeOf25 rfl (hB5.ext E31)) ?_
      refine Wo_call rfl (opc2 (a := .agg _) (b := .agg _) Try.call18 rfl rfl) (same_str _ _ _ _ _ _ _ ((Mono.mono E31 (OwnedB.read hR1))) ((Mono.mono E31 (OwnedB.read hS1))) ((Mono.mono E31 (OwnedB.read hR2))) ((Mono.mono E31 (OwnedB.read hS2)))) ?_
      rintro _ w15 ⟨rfl, E32⟩; have hs10 := E32.size; refine Wo rfl (opv_not rfl) ?_; refine Wo rfl (opv_pick_f (v := .bool _) rfl rfl) ?_; refine Wo_nil ?_; refine W_cond rfl (fun h3 => ?_) (fun h3 => ?_); contradiction; refine W_skip ?_
      refine W_seq ?_; refine W_seq ?_; refine W_region rfl ?_; refine Wo (v := .agg _) rfl (opv_load2 Try.isAgg25 Try.sizeOf25 rfl (hB1.ext (E31.trans E32))) ?_
      refine Wo_call rfl (opc1 (a := .agg _) Try.call16 rfl) (k0 _ _ _ ((Mono.mono (E31.trans E32) (OwnedB.read hO1))) ((Mono.mono (E31.trans E32) (OwnedB.read hQ1)))) ?_; rintro _ w16 ⟨rfl, E33⟩; have hs11 := E33.size
      refine Wo rfl (opv_not rfl) ?_; refine Wo_nil ?_; refine W_cond rfl (fun h4 => ?_) (fun h4 => ?_); contradiction; refine W_skip ?_; refine W_seq ?_; refine W_seq ?_; refine W_region rfl ?_
      refine Wo rfl (opv_assign (v := .int _ _) rfl) ?_; refine Wo_nil ?_; refine W_block ?_
    refine W_loop [2, 8, 48, 49, 50, 51, 52, 53, 54, 55, 56, 57, 58, 59, 60, 61, 62, 63, 64, 65, 66, 67, 68, 69, 70] (fun (k : Nat) => [(8, .int .i64 (k : Int))]) (fun k w' => Ext w16 w' ∧ k ≤ 20) (fun x => 20 - x) 0 (by repeat (first | exact trivial | refine And.intro rfl ?_)) ?_ ?_
    · exact ⟨Ext.refl _, Nat.zero_le _⟩
    rintro k ρj w17 ⟨E17', hk⟩
    have heldS : w17 = w17 := rfl
    by_cases hkl : k < 20
    · have k3' := k3 k hkl
      have k4' := k4 k hkl
      have k5' := k5 k hkl
      have k6' := k6 k hkl
      clear k3 k4 k5 k6
      focus
        have szE17' := E17'.size; have szE33 := E33.size; have szE32 := E32.size; have szE31 := E31.size; have szE30 := E30.size; have szE29 := E29.size; have szE28 := E28.size; have szE27 := E27.size; have szE26 := E26.size
        have szE25 := E25.size; have szE24 := E24.size; have szE23 := E23.size; have szE22 := E22.size; have szE21 := E21.size; have szE20 := E20.size; have szE19 := E19.size; have szE18 := E18.size; have szE17 := E17.size
        have szE16 := E16.size; have szE15 := E15.size; have szE14 := E14.size; have szE13 := E13.size; have szE12 := E12.size; have szE11 := E11.size; have szE10 := E10.size; have szE9 := E9.size; have szE8 := E8.size; have szE7 := E7.size
        have szE6 := E6.size; have szE5 := E5.size; have szE4 := E4.size; have szE3 := E3.size; have szE2 := E2.size; have szE1 := E1.size; refine W_seq ?_; refine W_seq ?_; refine W_region rfl ?_
        refine Wo rfl (opv_move (v := .int _ _) rfl) ?_; refine Wo rfl (opv_lss rfl rfl) ?_; refine Wo_nil ?_; refine W_cond_dec rfl (fun h5 => ?_) (fun h5 => ?_); refine W_skip ?_; refine W_seq ?_; refine W_block ?_; refine W_seq ?_
        refine W_draw mixed (by kernel_rfl) rfl ?_; refine Wq_o (v := .agg _) rfl (fun w' hw' => opv_load2 Try.isAgg25 Try.sizeOf25 rfl ((hB2.ext (((E31.trans E32).trans E33).trans E17')).ext hw')) ?_
        refine Wq_o rfl (fun _ _ => opv_move (v := .int _ _) rfl) ?_
        refine Wq_call rfl (fun _ _ => opc2 (a := .agg _) (b := .int _ _) Try.call33 rfl rfl) (fun w' hw' => (k3' _ _ _ ((Mono.mono ((((E31.trans E32).trans E33).trans E17').trans hw') (OwnedB.read hO2))) ((Mono.mono ((((E31.trans E32).trans E33).trans E17').trans hw') (OwnedB.read hQ2))))) ?_
        refine Wq_o (v := .agg _) rfl (fun w' hw' => opv_load2 Try.isAgg25 Try.sizeOf25 rfl ((hB1.ext (((E31.trans E32).trans E33).trans E17')).ext hw')) ?_; refine Wq_o rfl (fun _ _ => opv_move (v := .int _ _) rfl) ?_
        refine Wq_o rfl (fun _ _ => opv_mul rfl rfl (by omega)) ?_
        refine Wq_call rfl (fun _ _ => opc2 (a := .agg _) (b := .int _ _) Try.call33 rfl rfl) (fun w' hw' => (k5' _ _ _ ((Mono.mono ((((E31.trans E32).trans E33).trans E17').trans hw') (OwnedB.read hO1))) ((Mono.mono ((((E31.trans E32).trans E33).trans E17').trans hw') (OwnedB.read hQ1))))) ?_
        refine Wq_o rfl (fun _ _ => opv_neq rfl rfl) ?_; refine Wq_split_ndec rfl (fun _ _ => opv_move (v := .bool _) rfl) (fun h6 => ?_) (fun h6 => ?_); contradiction
        refine Wq_o (v := .agg _) rfl (fun w' hw' => opv_load2 Try.isAgg25 Try.sizeOf25 rfl ((hB3.ext (((E31.trans E32).trans E33).trans E17')).ext hw')) ?_; refine Wq_o rfl (fun _ _ => opv_move (v := .int _ _) rfl) ?_
        refine Wq_call rfl (fun _ _ => opc2 (a := .agg _) (b := .int _ _) Try.call33 rfl rfl) (fun w' hw' => (k4' _ _ _ ((Mono.mono ((((E31.trans E32).trans E33).trans E17').trans hw') (OwnedB.read hR1))) ((Mono.mono ((((E31.trans E32).trans E33).trans E17').trans hw') (OwnedB.read hS1))))) ?_
        refine Wq_o (v := .agg _) rfl (fun w' hw' => opv_load2 Try.isAgg25 Try.sizeOf25 rfl ((hB1.ext (((E31.trans E32).trans E33).trans E17')).ext hw')) ?_; refine Wq_o rfl (fun _ _ => opv_move (v := .int _ _) rfl) ?_
        refine Wq_o rfl (fun _ _ => opv_mul rfl rfl (by omega)) ?_; refine Wq_o rfl (fun _ _ => opv_add rfl rfl (by omega)) ?_
        refine Wq_call rfl (fun _ _ => opc2 (a := .agg _) (b := .int _ _) Try.call33 rfl rfl) (fun w' hw' => (k6' _ _ _ ((Mono.mono ((((E31.trans E32).trans E33).trans E17').trans hw') (OwnedB.read hO1))) ((Mono.mono ((((E31.trans E32).trans E33).trans E17').trans hw') (OwnedB.read hQ1))))) ?_
        refine Wq_o rfl (fun _ _ => opv_neq rfl rfl) ?_; refine Wq_o rfl (fun _ _ => opv_pick_f (v := .bool _) rfl rfl) ?_; refine Wq_nil (fun w18 E34 => ?_); have hs12 := E34.size; refine W_cond_ndec rfl (fun h7 => ?_) (fun h7 => ?_)
        contradiction; refine W_skip ?_; refine W_region rfl ?_; refine Wo rfl (opv_move (v := .int _ _) rfl) ?_; refine Wo rfl (opv_add rfl rfl (by omega)) ?_; refine Wo rfl (opv_assign (v := .int _ _) rfl) ?_; refine Wo_nil ?_
        rotate_left; (exfalso; omega)
      refine ⟨(k + 1), by repeat (first | exact trivial | refine And.intro rfl ?_), by repeat (first | with_reducible exact Same.refl | refine Same.upd rfl ?_ | refine Same.upds rfl ?_ | refine Same.mix rfl ?_), ?_, ?_⟩
      · exact ⟨E17'.trans (by assumption), by omega⟩
      · omega
    · obtain rfl : k = 20 := by omega
      clear k3 k4 k5 k6
      cases pb
      · focus
          have szE17' := E17'.size; have szE33 := E33.size; have szE32 := E32.size; have szE31 := E31.size; have szE30 := E30.size; have szE29 := E29.size; have szE28 := E28.size; have szE27 := E27.size; have szE26 := E26.size
          have szE25 := E25.size; have szE24 := E24.size; have szE23 := E23.size; have szE22 := E22.size; have szE21 := E21.size; have szE20 := E20.size; have szE19 := E19.size; have szE18 := E18.size; have szE17 := E17.size
          have szE16 := E16.size; have szE15 := E15.size; have szE14 := E14.size; have szE13 := E13.size; have szE12 := E12.size; have szE11 := E11.size; have szE10 := E10.size; have szE9 := E9.size; have szE8 := E8.size; have szE7 := E7.size
          have szE6 := E6.size; have szE5 := E5.size; have szE4 := E4.size; have szE3 := E3.size; have szE2 := E2.size; have szE1 := E1.size; refine W_seq ?_; refine W_seq ?_; refine W_region rfl ?_
          refine Wo rfl (opv_move (v := .int _ _) rfl) ?_; refine Wo rfl (opv_lss rfl rfl) ?_; refine Wo_nil ?_; refine W_cond_dec rfl (fun h5 => ?_) (fun h5 => ?_); contradiction; refine W_exit ?_; refine exitX_same ?_; refine W_seq ?_
          refine W_region rfl ?_; refine Wo (v := .agg _) rfl (opv_load2 Try.isAgg25 Try.sizeOf25 rfl (hB2.ext (((E31.trans E32).trans E33).trans E17'))) ?_
          refine Wo (v := .agg _) rfl (opv_load2 Try.isAgg25 Try.sizeOf25 rfl (hB3.ext (((E31.trans E32).trans E33).trans E17'))) ?_
          refine Wo_call rfl (opc2 (a := .agg _) (b := .agg _) Try.call36 rfl rfl) (k7 _ _ _ _ _ ((Mono.mono (((E31.trans E32).trans E33).trans E17') (OwnedB.read hO2))) ((Mono.mono (((E31.trans E32).trans E33).trans E17') (OwnedB.read hQ2))) ((Mono.mono (((E31.trans E32).trans E33).trans E17') (OwnedB.read hR1))) ((Mono.mono (((E31.trans E32).trans E33).trans E17') (OwnedB.read hS1)))) ?_
          rintro _ w18 ⟨u4, q4, rfl, E34, hO4, hQ4, hd3⟩; have icu4 := OwnedB.isC (Owned.toB hO4); have cpu4 := OwnedB.capOk (Owned.toB hO4); have icq4 := OwnedB.isC (Owned.toB hQ4); have cpq4 := OwnedB.capOk (Owned.toB hQ4)
          have hs12 := E34.size; refine Wo rfl (opv_move (v := .tuple _) rfl) ?_; refine Wo rfl (opv_extract (v := .agg _) rfl rfl) ?_; refine Wo rfl (opv_extract (v := .bool _) rfl rfl) ?_; refine Wo_alloc2 rfl flat25 ?_
          rintro b6 w19 hb6 E35 hB6; have hlb6 := hB6.lt; have hs13 := E35.size
          refine Wo_st2 rfl Try.sizeOf25 rfl rfl (by first | rfl | assumption) (by first | rfl | assumption) hB6 (by omega) ((((((E25.trans E31).trans E32).trans E33).trans E17').trans E34).trans E35) ?_; rintro w20 E36 hB6 K6 hz6
          have E37 := ((((((E26.trans E31).trans E32).trans E33).trans E17').trans E34).trans E35).wroteAt ((((((E25.trans E31).trans E32).trans E33).trans E17').trans E34).trans E35) E36 K6 hz6 (by omega); have szE37 := E37.size
          have E38 := ((((((E27.trans E31).trans E32).trans E33).trans E17').trans E34).trans E35).wroteAt ((((((E25.trans E31).trans E32).trans E33).trans E17').trans E34).trans E35) E36 K6 hz6 (by omega); have szE38 := E38.size
          have E39 := ((((((E28.trans E31).trans E32).trans E33).trans E17').trans E34).trans E35).wroteAt ((((((E25.trans E31).trans E32).trans E33).trans E17').trans E34).trans E35) E36 K6 hz6 (by omega); have szE39 := E39.size
          have E40 := ((((((E29.trans E31).trans E32).trans E33).trans E17').trans E34).trans E35).wroteAt ((((((E25.trans E31).trans E32).trans E33).trans E17').trans E34).trans E35) E36 K6 hz6 (by omega); have szE40 := E40.size
          have E41 := ((((((E30.trans E31).trans E32).trans E33).trans E17').trans E34).trans E35).wroteAt ((((((E25.trans E31).trans E32).trans E33).trans E17').trans E34).trans E35) E36 K6 hz6 (by omega); have szE41 := E41.size
          have E42 := (((((E31.trans E32).trans E33).trans E17').trans E34).trans E35).wroteAt ((((((E25.trans E31).trans E32).trans E33).trans E17').trans E34).trans E35) E36 K6 hz6 (by omega); have szE42 := E42.size
          have E43 := ((((E32.trans E33).trans E17').trans E34).trans E35).wroteAt ((((((E25.trans E31).trans E32).trans E33).trans E17').trans E34).trans E35) E36 K6 hz6 (by omega); have szE43 := E43.size
          have E44 := (((E33.trans E17').trans E34).trans E35).wroteAt ((((((E25.trans E31).trans E32).trans E33).trans E17').trans E34).trans E35) E36 K6 hz6 (by omega); have szE44 := E44.size
          have E45 := ((E17'.trans E34).trans E35).wroteAt ((((((E25.trans E31).trans E32).trans E33).trans E17').trans E34).trans E35) E36 K6 hz6 (by omega); have szE45 := E45.size
          have E46 := (E34.trans E35).wroteAt ((((((E25.trans E31).trans E32).trans E33).trans E17').trans E34).trans E35) E36 K6 hz6 (by omega); have szE46 := E46.size
          have E47 := E35.wroteAt ((((((E25.trans E31).trans E32).trans E33).trans E17').trans E34).trans E35) E36 K6 hz6 (by omega); have szE47 := E47.size
          have hB5 := (hB5.ext (((((E31.trans E32).trans E33).trans E17').trans E34).trans E35)).of_heap (K6 _ (by omega)); have hB4 := (hB4.ext (((((E31.trans E32).trans E33).trans E17').trans E34).trans E35)).of_heap (K6 _ (by omega))
          have hB3 := (hB3.ext (((((E31.trans E32).trans E33).trans E17').trans E34).trans E35)).of_heap (K6 _ (by omega)); have hB2 := (hB2.ext (((((E31.trans E32).trans E33).trans E17').trans E34).trans E35)).of_heap (K6 _ (by omega))
          have hO1 := (hO1.ext (((((E31.trans E32).trans E33).trans E17').trans E34).trans E35)).wrote K6 (by omega); have hQ1 := (hQ1.ext (((((E31.trans E32).trans E33).trans E17').trans E34).trans E35)).wrote K6 (by omega)
          have hB1 := (hB1.ext (((((E31.trans E32).trans E33).trans E17').trans E34).trans E35)).of_heap (K6 _ (by omega)); have hO2 := (hO2.ext (((((E31.trans E32).trans E33).trans E17').trans E34).trans E35)).wrote K6 (by omega)
          have hQ2 := (hQ2.ext (((((E31.trans E32).trans E33).trans E17').trans E34).trans E35)).wrote K6 (by omega); have hR1 := (hR1.ext (((((E31.trans E32).trans E33).trans E17').trans E34).trans E35)).wrote K6 (by omega)
          have hS1 := (hS1.ext (((((E31.trans E32).trans E33).trans E17').trans E34).trans E35)).wrote K6 (by omega); have hO3 := (hO3.ext (((((E31.trans E32).trans E33).trans E17').trans E34).trans E35)).wrote K6 (by omega)
          have hQ3 := (hQ3.ext (((((E31.trans E32).trans E33).trans E17').trans E34).trans E35)).wrote K6 (by omega); have hR2 := (hR2.ext (((((E31.trans E32).trans E33).trans E17').trans E34).trans E35)).wrote K6 (by omega)
          have hS2 := (hS2.ext (((((E31.trans E32).trans E33).trans E17').trans E34).trans E35)).wrote K6 (by omega); have hO4 := (hO4.toB.ext E35).wrote K6 (by omega); have hQ4 := (hQ4.toB.ext E35).wrote K6 (by omega)
          refine Wo rfl (opv_assign (v := .bool _) rfl) ?_; refine Wo_nil ?_; refine W_seq ?_; refine W_region rfl ?_; refine Wo rfl (opv_move (v := .bool _) rfl) ?_; refine Wo rfl (opv_not rfl) ?_
          refine Wo_split rfl (opv_move (v := .bool _) rfl) (fun h6 => ?_) (fun h6 => ?_); refine Wo_skip rfl ?_; refine Wo_skip rfl ?_; refine Wo_skip rfl ?_; refine Wo rfl (opv_pick_t (v := .bool _) rfl rfl) ?_
          refine Wo rfl (opv_assign (v := .bool _) rfl) ?_; refine Wo_nil ?_; refine W_ret ?_; exact ⟨rfl, E36⟩; contradiction
      · focus
          have szE17' := E17'.size; have szE33 := E33.size; have szE32 := E32.size; have szE31 := E31.size; have szE30 := E30.size; have szE29 := E29.size; have szE28 := E28.size; have szE27 := E27.size; have szE26 := E26.size
          have szE25 := E25.size; have szE24 := E24.size; have szE23 := E23.size; have szE22 := E22.size; have szE21 := E21.size; have szE20 := E20.size; have szE19 := E19.size; have szE18 := E18.size; have szE17 := E17.size
          have szE16 := E16.size; have szE15 := E15.size; have szE14 := E14.size; have szE13 := E13.size; have szE12 := E12.size; have szE11 := E11.size; have szE10 := E10.size; have szE9 := E9.size; have szE8 := E8.size; have szE7 := E7.size
          have szE6 := E6.size; have szE5 := E5.size; have szE4 := E4.size; have szE3 := E3.size; have szE2 := E2.size; have szE1 := E1.size; refine W_seq ?_; refine W_seq ?_; refine W_region rfl ?_
          refine Wo rfl (opv_move (v := .int _ _) rfl) ?_; refine Wo rfl (opv_lss rfl rfl) ?_; refine Wo_nil ?_; refine W_cond_dec rfl (fun h5 => ?_) (fun h5 => ?_); contradiction; refine W_exit ?_; refine exitX_same ?_; refine W_seq ?_
          refine W_region rfl ?_; refine Wo (v := .agg _) rfl (opv_load2 Try.isAgg25 Try.sizeOf25 rfl (hB2.ext (((E31.trans E32).trans E33).trans E17'))) ?_
          refine Wo (v := .agg _) rfl (opv_load2 Try.isAgg25 Try.sizeOf25 rfl (hB3.ext (((E31.trans E32).trans E33).trans E17'))) ?_
          refine Wo_call rfl (opc2 (a := .agg _) (b := .agg _) Try.call36 rfl rfl) (k7 _ _ _ _ _ ((Mono.mono (((E31.trans E32).trans E33).trans E17') (OwnedB.read hO2))) ((Mono.mono (((E31.trans E32).trans E33).trans E17') (OwnedB.read hQ2))) ((Mono.mono (((E31.trans E32).trans E33).trans E17') (OwnedB.read hR1))) ((Mono.mono (((E31.trans E32).trans E33).trans E17') (OwnedB.read hS1)))) ?_
          rintro _ w18 ⟨u4, q4, rfl, E34, hO4, hQ4, hd3⟩; have icu4 := OwnedB.isC (Owned.toB hO4); have cpu4 := OwnedB.capOk (Owned.toB hO4); have icq4 := OwnedB.isC (Owned.toB hQ4); have cpq4 := OwnedB.capOk (Owned.toB hQ4)
          have hs12 := E34.size; refine Wo rfl (opv_move (v := .tuple _) rfl) ?_; refine Wo rfl (opv_extract (v := .agg _) rfl rfl) ?_; refine Wo rfl (opv_extract (v := .bool _) rfl rfl) ?_; refine Wo_alloc2 rfl flat25 ?_
          rintro b6 w19 hb6 E35 hB6; have hlb6 := hB6.lt; have hs13 := E35.size
          refine Wo_st2 rfl Try.sizeOf25 rfl rfl (by first | rfl | assumption) (by first | rfl | assumption) hB6 (by omega) ((((((E25.trans E31).trans E32).trans E33).trans E17').trans E34).trans E35) ?_; rintro w20 E36 hB6 K6 hz6
          have E37 := ((((((E26.trans E31).trans E32).trans E33).trans E17').trans E34).trans E35).wroteAt ((((((E25.trans E31).trans E32).trans E33).trans E17').trans E34).trans E35) E36 K6 hz6 (by omega); have szE37 := E37.size
          have E38 := ((((((E27.trans E31).trans E32).trans E33).trans E17').trans E34).trans E35).wroteAt ((((((E25.trans E31).trans E32).trans E33).trans E17').trans E34).trans E35) E36 K6 hz6 (by omega); have szE38 := E38.size
          have E39 := ((((((E28.trans E31).trans E32).trans E33).trans E17').trans E34).trans E35).wroteAt ((((((E25.trans E31).trans E32).trans E33).trans E17').trans E34).trans E35) E36 K6 hz6 (by omega); have szE39 := E39.size
          have E40 := ((((((E29.trans E31).trans E32).trans E33).trans E17').trans E34).trans E35).wroteAt ((((((E25.trans E31).trans E32).trans E33).trans E17').trans E34).trans E35) E36 K6 hz6 (by omega); have szE40 := E40.size
          have E41 := ((((((E30.trans E31).trans E32).trans E33).trans E17').trans E34).trans E35).wroteAt ((((((E25.trans E31).trans E32).trans E33).trans E17').trans E34).trans E35) E36 K6 hz6 (by omega); have szE41 := E41.size
          have E42 := (((((E31.trans E32).trans E33).trans E17').trans E34).trans E35).wroteAt ((((((E25.trans E31).trans E32).trans E33).trans E17').trans E34).trans E35) E36 K6 hz6 (by omega); have szE42 := E42.size
          have E43 := ((((E32.trans E33).trans E17').trans E34).trans E35).wroteAt ((((((E25.trans E31).trans E32).trans E33).trans E17').trans E34).trans E35) E36 K6 hz6 (by omega); have szE43 := E43.size
          have E44 := (((E33.trans E17').trans E34).trans E35).wroteAt ((((((E25.trans E31).trans E32).trans E33).trans E17').trans E34).trans E35) E36 K6 hz6 (by omega); have szE44 := E44.size
          have E45 := ((E17'.trans E34).trans E35).wroteAt ((((((E25.trans E31).trans E32).trans E33).trans E17').trans E34).trans E35) E36 K6 hz6 (by omega); have szE45 := E45.size
          have E46 := (E34.trans E35).wroteAt ((((((E25.trans E31).trans E32).trans E33).trans E17').trans E34).trans E35) E36 K6 hz6 (by omega); have szE46 := E46.size
          have E47 := E35.wroteAt ((((((E25.trans E31).trans E32).trans E33).trans E17').trans E34).trans E35) E36 K6 hz6 (by omega); have szE47 := E47.size
          have hB5 := (hB5.ext (((((E31.trans E32).trans E33).trans E17').trans E34).trans E35)).of_heap (K6 _ (by omega)); have hB4 := (hB4.ext (((((E31.trans E32).trans E33).trans E17').trans E34).trans E35)).of_heap (K6 _ (by omega))
          have hB3 := (hB3.ext (((((E31.trans E32).trans E33).trans E17').trans E34).trans E35)).of_heap (K6 _ (by omega)); have hB2 := (hB2.ext (((((E31.trans E32).trans E33).trans E17').trans E34).trans E35)).of_heap (K6 _ (by omega))
          have hO1 := (hO1.ext (((((E31.trans E32).trans E33).trans E17').trans E34).trans E35)).wrote K6 (by omega); have hQ1 := (hQ1.ext (((((E31.trans E32).trans E33).trans E17').trans E34).trans E35)).wrote K6 (by omega)
          have hB1 := (hB1.ext (((((E31.trans E32).trans E33).trans E17').trans E34).trans E35)).of_heap (K6 _ (by omega)); have hO2 := (hO2.ext (((((E31.trans E32).trans E33).trans E17').trans E34).trans E35)).wrote K6 (by omega)
          have hQ2 := (hQ2.ext (((((E31.trans E32).trans E33).trans E17').trans E34).trans E35)).wrote K6 (by omega); have hR1 := (hR1.ext (((((E31.trans E32).trans E33).trans E17').trans E34).trans E35)).wrote K6 (by omega)
          have hS1 := (hS1.ext (((((E31.trans E32).trans E33).trans E17').trans E34).trans E35)).wrote K6 (by omega); have hO3 := (hO3.ext (((((E31.trans E32).trans E33).trans E17').trans E34).trans E35)).wrote K6 (by omega)
          have hQ3 := (hQ3.ext (((((E31.trans E32).trans E33).trans E17').trans E34).trans E35)).wrote K6 (by omega); have hR2 := (hR2.ext (((((E31.trans E32).trans E33).trans E17').trans E34).trans E35)).wrote K6 (by omega)
          have hS2 := (hS2.ext (((((E31.trans E32).trans E33).trans E17').trans E34).trans E35)).wrote K6 (by omega); have hO4 := (hO4.toB.ext E35).wrote K6 (by omega); have hQ4 := (hQ4.toB.ext E35).wrote K6 (by omega)
          refine Wo rfl (opv_assign (v := .bool _) rfl) ?_; refine Wo_nil ?_; refine W_seq ?_; refine W_region rfl ?_; refine Wo rfl (opv_move (v := .bool _) rfl) ?_; refine Wo rfl (opv_not rfl) ?_
          refine Wo_split rfl (opv_move (v := .bool _) rfl) (fun h6 => ?_) (fun h6 => ?_); contradiction; refine Wo (v := .agg _) rfl (opv_load2 Try.isAgg25 Try.sizeOf25 rfl hB6) ?_
          refine Wo (v := .agg _) rfl (opv_load2 Try.isAgg25 Try.sizeOf25 rfl hB1) ?_
          refine Wo_call rfl (opc2 (a := .agg _) (b := .agg _) Try.call14 rfl rfl) (k8 _ _ _ _ _ ((OwnedB.read hO4)) ((OwnedB.read hQ4)) ((OwnedB.read hO1)) ((OwnedB.read hQ1))) ?_; rintro _ w21 ⟨rfl, E48⟩; have hs14 := E48.size
          refine Wo rfl (opv_pick_f (v := .bool _) rfl rfl) ?_; refine Wo rfl (opv_assign (v := .bool _) rfl) ?_; refine Wo_nil ?_; refine W_ret ?_; exact ⟨rfl, (E36.trans E48)⟩
  · have eV : ∀ c, evV x1 y1 c = ([], []) := fun c => if_neg hs
    have k0 := hok false (decide_eq_false hs)
    have k1 : ∀ (w : World) (u1 u2 : Value), Ints w u1 x1 → Ints w u2 y1 → Does Try.prog 28 [.agg #[u1, u2]] w (RetS22 w 3 [] [] [] []) := fun w u1 u2 h1 h2 => by
      have := impl_EveryOther_ok w u1 u2 _ _ h1 h2 (by omega) (by omega)
      rw [eV, eV] at this; exact this
    have k2 : ∀ (w : World) (u1 u2 : Value), Ints w u1 x1 → Ints w u2 y1 → Does Try.prog 27 [.agg #[u1, u2]] w (RetS22 w 3 [] [] [] []) := fun w u1 u2 h1 h2 => by
      have := spec_EveryOther_ok w u1 u2 _ _ h1 h2 (by omega) (by omega)
      rw [eV, eV] at this; exact this
    have k3 : ∀ (w : World) (u1 u2 : Value), Ints w u1 [] → Ints w u2 [] → Does Try.prog 32 [.agg #[u1, u2]] w (Ret w (.bool true)) := fun w u1 u2 h1 h2 => noStream_ok w u1 u2 [] [] h1 h2
    focus
      have szE4 := E4.size; have szE3 := E3.size; have szE2 := E2.size; have szE1 := E1.size; refine W_region rfl ?_; refine Wo (v := .agg _) rfl (opv_load2 Try.isAgg25 Try.sizeOf25 rfl hB1) ?_
      refine Wo_call rfl (opc1 (a := .agg _) Try.call28 rfl) (k1 _ _ _ (r1) (r2)) ?_; rintro _ w4 ⟨u2, q2, r3, s1, m1, rfl, E5, hO2, hQ2, hd1, hR1, hS1, he1, hm1, hm1'⟩; have icu2 := OwnedB.isC hO2; have cpu2 := OwnedB.capOk hO2
      have icq2 := OwnedB.isC hQ2; have cpq2 := OwnedB.capOk hQ2; have icr3 := OwnedB.isC (Owned.toB hR1); have cpr3 := OwnedB.capOk (Owned.toB hR1); have ics1 := OwnedB.isC (Owned.toB hS1); have cps1 := OwnedB.capOk (Owned.toB hS1)
      have hs3 := E5.size; refine Wo rfl (opv_move (v := .tuple _) rfl) ?_; refine Wo rfl (opv_extract (v := .agg _) rfl rfl) ?_; refine Wo rfl (opv_extract (v := .agg _) rfl rfl) ?_; refine Wo_alloc2 rfl flat25 ?_
      rintro b2 w5 hb2 E6 hB2; have hlb2 := hB2.lt; have hs4 := E6.size; refine Wo_alloc2 rfl flat25 ?_; rintro b3 w6 hb3 E7 hB3; have hlb3 := hB3.lt; have hs5 := E7.size
      refine Wo_st2 rfl Try.sizeOf25 rfl rfl (by first | rfl | assumption) (by first | rfl | assumption) (hB2.ext E7) (by omega) (((E3.trans E5).trans E6).trans E7) ?_; rintro w7 E8 hB2 K2 hz2
      have E9 := (((E4.trans E5).trans E6).trans E7).wroteAt (((E3.trans E5).trans E6).trans E7) E8 K2 hz2 (by omega); have szE9 := E9.size
      have E10 := ((E5.trans E6).trans E7).wroteAt (((E3.trans E5).trans E6).trans E7) E8 K2 hz2 (by omega); have szE10 := E10.size; have E11 := (E6.trans E7).wroteAt (((E3.trans E5).trans E6).trans E7) E8 K2 hz2 (by omega)
      have szE11 := E11.size; have hO1 := (hO1.toB.ext (((E4.trans E5).trans E6).trans E7)).wrote K2 (by omega); have hQ1 := (hQ1.toB.ext (((E4.trans E5).trans E6).trans E7)).wrote K2 (by omega)
      have hB1 := (hB1.ext ((E5.trans E6).trans E7)).of_heap (K2 _ (by omega)); have hO2 := (hO2.ext (E6.trans E7)).wrote K2 (by omega); have hQ2 := (hQ2.ext (E6.trans E7)).wrote K2 (by omega)
      have hR1 := (hR1.toB.ext (E6.trans E7)).wrote K2 (by omega); have hS1 := (hS1.toB.ext (E6.trans E7)).wrote K2 (by omega); have hB3 := hB3.of_heap (K2 _ (by omega))
      refine Wo_st2 rfl Try.sizeOf25 rfl rfl (by first | rfl | assumption) (by first | rfl | assumption) hB3 (by omega) E8 ?_; rintro w8 E12 hB3 K3 hz3; have E13 := E9.wroteAt E8 E12 K3 hz3 (by omega); have szE13 := E13.size
      have E14 := E10.wroteAt E8 E12 K3 hz3 (by omega); have szE14 := E14.size; have E15 := E11.wroteAt E8 E12 K3 hz3 (by omega); have szE15 := E15.size; have hB2 := hB2.of_heap (K3 _ (by omega)); have hO1 := hO1.wrote K3 (by omega)
      have hQ1 := hQ1.wrote K3 (by omega); have hB1 := hB1.of_heap (K3 _ (by omega)); have hO2 := hO2.wrote K3 (by omega); have hQ2 := hQ2.wrote K3 (by omega); have hR1 := hR1.wrote K3 (by omega); have hS1 := hS1.wrote K3 (by omega)
      refine Wo_nil ?_; refine W_seq ?_; refine W_region rfl ?_; refine Wo (v := .agg _) rfl (opv_load2 Try.isAgg25 Try.sizeOf25 rfl hB1) ?_
      refine Wo_call rfl (opc1 (a := .agg _) Try.call27 rfl) (k2 _ _ _ ((OwnedB.read hO1)) ((OwnedB.read hQ1))) ?_; rintro _ w9 ⟨u3, q3, r4, s2, m2, rfl, E16, hO3, hQ3, hd2, hR2, hS2, he2, hm2, hm2'⟩; have icu3 := OwnedB.isC hO3
      have cpu3 := OwnedB.capOk hO3; have icq3 := OwnedB.isC hQ3; have cpq3 := OwnedB.capOk hQ3; have icr4 := OwnedB.isC (Owned.toB hR2); have cpr4 := OwnedB.capOk (Owned.toB hR2); have ics2 := OwnedB.isC (Owned.toB hS2)
      have cps2 := OwnedB.capOk (Owned.toB hS2); have hs6 := E16.size; refine Wo rfl (opv_move (v := .tuple _) rfl) ?_; refine Wo rfl (opv_extract (v := .agg _) rfl rfl) ?_; refine Wo rfl (opv_extract (v := .agg _) rfl rfl) ?_
      refine Wo_alloc2 rfl flat25 ?_; rintro b4 w10 hb4 E17 hB4; have hlb4 := hB4.lt; have hs7 := E17.size; refine Wo_alloc2 rfl flat25 ?_; rintro b5 w11 hb5 E18 hB5; have hlb5 := hB5.lt; have hs8 := E18.size
      refine Wo_st2 rfl Try.sizeOf25 rfl rfl (by first | rfl | assumption) (by first | rfl | assumption) (hB4.ext E18) (by omega) (((E12.trans E16).trans E17).trans E18) ?_; rintro w12 E19 hB4 K4 hz4
      have E20 := (((E13.trans E16).trans E17).trans E18).wroteAt (((E12.trans E16).trans E17).trans E18) E19 K4 hz4 (by omega); have szE20 := E20.size
      have E21 := (((E14.trans E16).trans E17).trans E18).wroteAt (((E12.trans E16).trans E17).trans E18) E19 K4 hz4 (by omega); have szE21 := E21.size
      have E22 := (((E15.trans E16).trans E17).trans E18).wroteAt (((E12.trans E16).trans E17).trans E18) E19 K4 hz4 (by omega); have szE22 := E22.size
      have E23 := ((E16.trans E17).trans E18).wroteAt (((E12.trans E16).trans E17).trans E18) E19 K4 hz4 (by omega); have szE23 := E23.size; have E24 := (E17.trans E18).wroteAt (((E12.trans E16).trans E17).trans E18) E19 K4 hz4 (by omega)
      have szE24 := E24.size; have hB3 := (hB3.ext ((E16.trans E17).trans E18)).of_heap (K4 _ (by omega)); have hB2 := (hB2.ext ((E16.trans E17).trans E18)).of_heap (K4 _ (by omega))
      have hO1 := (hO1.ext ((E16.trans E17).trans E18)).wrote K4 (by omega); have hQ1 := (hQ1.ext ((E16.trans E17).trans E18)).wrote K4 (by omega); have hB1 := (hB1.ext ((E16.trans E17).trans E18)).of_heap (K4 _ (by omega))
      have hO2 := (hO2.ext ((E16.trans E17).trans E18)).wrote K4 (by omega); have hQ2 := (hQ2.ext ((E16.trans E17).trans E18)).wrote K4 (by omega); have hR1 := (hR1.ext ((E16.trans E17).trans E18)).wrote K4 (by omega)
      have hS1 := (hS1.ext ((E16.trans E17).trans E18)).wrote K4 (by omega); have hO3 := (hO3.ext (E17.trans E18)).wrote K4 (by omega); have hQ3 := (hQ3.ext (E17.trans E18)).wrote K4 (by omega)
      have hR2 := (hR2.toB.ext (E17.trans E18)).wrote K4 (by omega); have hS2 := (hS2.toB.ext (E17.trans E18)).wrote K4 (by omega); have hB5 := hB5.of_heap (K4 _ (by omega))
      refine Wo_st2 rfl Try.sizeOf25 rfl rfl (by first | rfl | assumption) (by first | rfl | assumption) hB5 (by omega) E19 ?_; rintro w13 E25 hB5 K5 hz5; have E26 := E20.wroteAt E19 E25 K5 hz5 (by omega); have szE26 := E26.size
      have E27 := E21.wroteAt E19 E25 K5 hz5 (by omega); have szE27 := E27.size; have E28 := E22.wroteAt E19 E25 K5 hz5 (by omega); have szE28 := E28.size; have E29 := E23.wroteAt E19 E25 K5 hz5 (by omega); have szE29 := E29.size
      have E30 := E24.wroteAt E19 E25 K5 hz5 (by omega); have szE30 := E30.size; have hB4 := hB4.of_heap (K5 _ (by omega)); have hB3 := hB3.of_heap (K5 _ (by omega)); have hB2 := hB2.of_heap (K5 _ (by omega))
      have hO1 := hO1.wrote K5 (by omega); have hQ1 := hQ1.wrote K5 (by omega); have hB1 := hB1.of_heap (K5 _ (by omega)); have hO2 := hO2.wrote K5 (by omega); have hQ2 := hQ2.wrote K5 (by omega); have hR1 := hR1.wrote K5 (by omega)
      have hS1 := hS1.wrote K5 (by omega); have hO3 := hO3.wrote K5 (by omega); have hQ3 := hQ3.wrote K5 (by omega); have hR2 := hR2.wrote K5 (by omega); have hS2 := hS2.wrote K5 (by omega); refine Wo_nil ?_; refine W_seq ?_
      refine W_seq ?_; refine W_region rfl ?_; refine Wo (v := .agg _) rfl (opv_load2 Try.isAgg25 Try.sizeOf25 rfl hB2) ?_; refine Wo (v := .agg _) rfl (opv_load2 Try.isAgg25 Try.sizeOf25 rfl hB4) ?_
      refine Wo_call rfl (opc2 (a := .agg _) (b := .agg _) Try.call18 rfl rfl) (same_str _ _ _ _ _ _ _ ((OwnedB.read hO2)) ((OwnedB.read hQ2)) ((OwnedB.read hO3)) ((OwnedB.read hQ3))) ?_; rintro _ w14 ⟨rfl, E31⟩; have hs9 := E31.size
      refine Wo rfl (opv_not rfl) ?_; refine Wo_split rfl (opv_move (v := .bool _) rfl) (fun h2 => ?_) (fun h2 => ?_); contradiction; refine Wo (v := .agg _) rfl (opv_load2 Try.isAgg25 Try.sizeOf25 rfl (hB3.ext E31)) ?_
      refine Wo (v := .agg _) rfl (opv_load2 Try.isAgg25 Try.sizeOf25 rfl (hB5.ext E31)) ?_
      refine Wo_call rfl (opc2 (a := .agg _) (b := .agg _) Try.call18 rfl rfl) (same_str _ _ _ _ _ _ _ ((Mono.mono E31 (OwnedB.read hR1))) ((Mono.mono E31 (OwnedB.read hS1))) ((Mono.mono E31 (OwnedB.read hR2))) ((Mono.mono E31 (OwnedB.read hS2)))) ?_
      rintro _ w15 ⟨rfl, E32⟩; have hs10 := E32.size; refine Wo rfl (opv_not rfl) ?_; refine Wo rfl (opv_pick_f (v := .bool _) rfl rfl) ?_; refine Wo_nil ?_; refine W_cond rfl (fun h3 => ?_) (fun h3 => ?_); contradiction; refine W_skip ?_
      refine W_seq ?_; refine W_seq ?_; refine W_region rfl ?_; refine Wo (v := .agg _) rfl (opv_load2 Try.isAgg25 Try.sizeOf25 rfl (hB1.ext (E31.trans E32))) ?_
      refine Wo_call rfl (opc1 (a := .agg _) Try.call16 rfl) (k0 _ _ _ ((Mono.mono (E31.trans E32) (OwnedB.read hO1))) ((Mono.mono (E31.trans E32) (OwnedB.read hQ1)))) ?_; rintro _ w16 ⟨rfl, E33⟩; have hs11 := E33.size
      refine Wo rfl (opv_not rfl) ?_; refine Wo_nil ?_; refine W_cond rfl (fun h4 => ?_) (fun h4 => ?_); refine W_seq ?_; refine W_region rfl ?_
      refine Wo (v := .agg _) rfl (opv_load2 Try.isAgg25 Try.sizeOf25 rfl (hB2.ext ((E31.trans E32).trans E33))) ?_
      refine Wo_call rfl (opc1 (a := .agg _) Try.call32 rfl) (k3 _ _ _ ((Mono.mono ((E31.trans E32).trans E33) (OwnedB.read hO2))) ((Mono.mono ((E31.trans E32).trans E33) (OwnedB.read hQ2)))) ?_; rintro _ w17 ⟨rfl, E34⟩
      have hs12 := E34.size; refine Wo rfl (opv_move (v := .bool _) rfl) ?_; refine Wo (v := .agg _) rfl (opv_load2 Try.isAgg25 Try.sizeOf25 rfl (hB3.ext (((E31.trans E32).trans E33).trans E34))) ?_
      refine Wo_call rfl (opc1 (a := .agg _) Try.call32 rfl) (k3 _ _ _ ((Mono.mono (((E31.trans E32).trans E33).trans E34) (OwnedB.read hR1))) ((Mono.mono (((E31.trans E32).trans E33).trans E34) (OwnedB.read hS1)))) ?_
      rintro _ w18 ⟨rfl, E35⟩; have hs13 := E35.size; refine Wo rfl (opv_pick_t (v := .bool _) rfl rfl) ?_; refine Wo rfl (opv_move (v := .bool _) rfl) ?_; refine Wo_call rfl (opc0 Try.call17) (alive_ok _) ?_; rintro _ w19 ⟨rfl, E36⟩
      have hs14 := E36.size; refine Wo rfl (opv_pick_t (v := .bool _) rfl rfl) ?_; refine Wo rfl (opv_assign (v := .bool _) rfl) ?_; refine Wo_nil ?_; refine W_ret ?_
      exact ⟨rfl, ((((((E25.trans E31).trans E32).trans E33).trans E34).trans E35).trans E36)⟩; contradiction

end Go.Proofs.Ytlalfmialbolhaa
