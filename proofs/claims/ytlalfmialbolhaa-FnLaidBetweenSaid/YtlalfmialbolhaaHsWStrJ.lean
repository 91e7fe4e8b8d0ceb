/- Walks: streams that are the same, and their law. -/
import Derived.Test.YtlalfmialbolhaaHsWStrH
namespace Go.Proofs.Ytlalfmialbolhaa
open Go.Hs
set_option maxRecDepth 10000
set_option maxHeartbeats 4000000
set_option linter.unusedVariables false
set_option linter.unusedSimpArgs false

theorem sh_iff {A B A' B' : List Int} (hs : Stm A B) (hs' : Stm A' B') : (shL (bat A B) = shL (bat A' B') ∧ shR (bat A B) = shR (bat A' B')) ↔ bat A B = bat A' B' := by
  constructor
  · rintro ⟨h1, h2⟩
    rw [← hs.short_bat, ← hs'.short_bat, h1, h2]
  · intro h; rw [h]; exact ⟨rfl, rfl⟩
theorem impl_SameStreams_ok (w : World) (u1 u2 v1 v2 : Value) (A B A' B' : List Int) (h1 : Ints w u1 A) (h2 : Ints w u2 B) (h3 : Ints w v1 A') (h4 : Ints w v2 B') (hA : A.length ≤ 4000000) (hB : B.length ≤ 4000000) (hA' : A'.length ≤ 4000000) (hB' : B'.length ≤ 4000000) :
    Does Try.prog 14 [.agg #[u1, u2], .agg #[v1, v2]] w (Ret w (.bool (ssV A B A' B'))) := by
  classical
  have hok : ∀ (x : Bool), decide (Stm A B) = x → ∀ (w : World) (u1 u2 : Value), Ints w u1 A → Ints w u2 B → Does Try.prog 54 [.agg #[u1, u2]] w (Ret w (.bool x)) := fun x e w u1 u2 h1 h2 => e ▸ isStream_ok w u1 u2 A B h1 h2 hA hB
  have hok' : ∀ (x : Bool), decide (Stm A' B') = x → ∀ (w : World) (u1 u2 : Value), Ints w u1 A' → Ints w u2 B' → Does Try.prog 54 [.agg #[u1, u2]] w (Ret w (.bool x)) := fun x e w u1 u2 h1 h2 => e ▸ isStream_ok w u1 u2 A' B' h1 h2 hA' hB'
  by_cases hs : Stm A B
  · have k1 := hok true (decide_eq_true hs)
    by_cases hs' : Stm A' B'
    · have k2 := hok' true (decide_eq_true hs')
      have hsl := hs.2.2
      have hsl' := hs'.2.2
      have k3 : ∀ (w : World) (u1 u2 : Value), Ints w u1 A → Ints w u2 B → Does Try.prog 55 [.agg #[u1, u2]] w (RetS2 w 3 (shL (bat A B)) (shR (bat A B))) := fun w u1 u2 h1 h2 => shortOf_ok w u1 u2 A B h1 h2 (by omega) (by omega) (by omega)
      have k4 : ∀ (w : World) (u1 u2 : Value), Ints w u1 A' → Ints w u2 B' → Does Try.prog 55 [.agg #[u1, u2]] w (RetS2 w 3 (shL (bat A' B')) (shR (bat A' B'))) := fun w u1 u2 h1 h2 => shortOf_ok w u1 u2 A' B' h1 h2 (by omega) (by omega) (by omega)
      have hV : ssV A B A' B' = (decide (shL (bat A B) = shL (bat A' B')) && decide (shR (bat A B) = shR (bat A' B'))) := by
        rw [Bool.eq_iff_iff, Bool.and_eq_true, decide_eq_true_iff, decide_eq_true_iff, sh_iff hs hs']
        unfold ssV
        rw [decide_eq_true_iff]
        exact ⟨fun h => h.2.2, fun h => ⟨hs, hs', h⟩⟩
      rw [hV]
      clear hok hok' hV
      generalize shL (bat A B) = X at *
      generalize shR (bat A B) = Y at *
      generalize shL (bat A' B') = Z at *
      generalize shR (bat A' B') = T at *
      refine fn_of_W1 Try.func14 rfl Try.results14 Try.ntmps14 rfl ?_
      have stop3 : True := trivial
      focus
        refine W_seq ?_; refine W_region rfl ?_; refine Wo_box rfl rfl rfl ?_; rintro b1 w1 hb1 E1 hB1; have hlb1 := hB1.lt; have hs1 := E1.size; refine Wo_box rfl rfl rfl ?_; rintro b2 w2 hb2 E2 hB2; have hlb2 := hB2.lt
        have hs2 := E2.size; refine Wo rfl (opv_assign (v := .bool _) rfl) ?_; refine Wo_nil ?_; refine W_seq ?_; refine W_seq ?_; refine W_region rfl ?_; refine Wo (v := .agg _) rfl (opv_load2 Try.isAgg25 Try.sizeOf25 rfl (hB1.ext E2)) ?_
        refine Wo_call rfl (opc1 (a := .agg _) Try.call54 rfl) (k1 _ _ _ ((Mono.mono (E1.trans E2) h1)) ((Mono.mono (E1.trans E2) h2))) ?_; rintro _ w3 ⟨rfl, E3⟩; have hs3 := E3.size; refine Wo rfl (opv_not rfl) ?_
        refine Wo_split rfl (opv_move (v := .bool _) rfl) (fun h5 => ?_) (fun h5 => ?_); contradiction; refine Wo (v := .agg _) rfl (opv_load2 Try.isAgg25 Try.sizeOf25 rfl (hB2.ext E3)) ?_
        refine Wo_call rfl (opc1 (a := .agg _) Try.call54 rfl) (k2 _ _ _ ((Mono.mono ((E1.trans E2).trans E3) h3)) ((Mono.mono ((E1.trans E2).trans E3) h4))) ?_; rintro _ w4 ⟨rfl, E4⟩; have hs4 := E4.size; refine Wo rfl (opv_not rfl) ?_
        refine Wo rfl (opv_pick_f (v := .bool _) rfl rfl) ?_; refine Wo_nil ?_; refine W_cond rfl (fun h6 => ?_) (fun h6 => ?_); contradiction; refine W_skip ?_; refine W_seq ?_
      clear stop3
      have heldS : w4 = w4 := rfl
      refine W_mid [15, 16, 17, 18, 5, 6] (fun ((b6, b7, _) : Nat × Nat × Value × Value × Value × Value) => [(5, .pointer (some ⟨b6, 0, none⟩)), (6, .pointer (some ⟨b7, 0, none⟩))]) (fun (b6, b7, x1, x2, y1, y2) w' => Ext w4 w' ∧ Blk w' b6 [x1, x2] ∧ Blk w' b7 [y1, y2] ∧ Ints w' x1 X ∧ Ints w' x2 Y ∧ Ints w' y1 Z ∧ Ints w' y2 T) ?_ ?_
      · focus
          have szE4 := E4.size; have szE3 := E3.size; have szE2 := E2.size; have szE1 := E1.size; refine W_held (fun w' => Ext w4 w') mixed rfl (by kernel_rfl) ?_; intro w5 E5 K1 hz1; have hs5 := E5.size
          refine Wh_take (v := .agg _) 0 rfl (by kernel_rfl) (by kernel_rfl) rfl (fun w' hw' => opv_load2 Try.isAgg25 Try.sizeOf25 rfl (hB1.ext (((E2.trans E3).trans E4).trans hw'))) E5 ?_
          refine Wh_take (v := .agg _) 2 rfl (by kernel_rfl) (by kernel_rfl) rfl (fun w' hw' => opv_load2 Try.isAgg25 Try.sizeOf25 rfl (hB2.ext ((E3.trans E4).trans hw'))) E5 ?_; refine Wh_all (rs := [1, 4, 5]) (by kernel_rfl) rfl ?_
          refine WhAll_cons rfl ?_ ?_; refine Wo_call rfl (opc1 (a := .agg _) Try.call55 rfl) (k3 _ _ _ ((Mono.mono ((((E1.trans E2).trans E3).trans E4).trans E5) h1)) ((Mono.mono ((((E1.trans E2).trans E3).trans E4).trans E5) h2))) ?_
          rintro _ w6 ⟨u3, q1, rfl, E6, hO1, hQ1, hd1⟩; have icu3 := OwnedB.isC (Owned.toB hO1); have cpu3 := OwnedB.capOk (Owned.toB hO1); have icq1 := OwnedB.isC (Owned.toB hQ1); have cpq1 := OwnedB.capOk (Owned.toB hQ1)
          have hs6 := E6.size; refine Wo_nil ?_; refine ⟨(E5.trans E6), ?_⟩; refine Wh_all (rs := [3, 4, 5]) (by kernel_rfl) rfl ?_; refine WhAll_cons rfl ?_ ?_
          refine Wo_call rfl (opc1 (a := .agg _) Try.call55 rfl) (k4 _ _ _ ((Mono.mono (((((E1.trans E2).trans E3).trans E4).trans E5).trans E6) h3)) ((Mono.mono (((((E1.trans E2).trans E3).trans E4).trans E5).trans E6) h4))) ?_
          rintro _ w7 ⟨u4, q2, rfl, E7, hO2, hQ2, hd2⟩; have icu4 := OwnedB.isC (Owned.toB hO2); have cpu4 := OwnedB.capOk (Owned.toB hO2); have icq2 := OwnedB.isC (Owned.toB hQ2); have cpq2 := OwnedB.capOk (Owned.toB hQ2)
          have hs7 := E7.size; refine Wo_nil ?_; refine ⟨((E5.trans E6).trans E7), ?_⟩; refine Wh_all (rs := [4, 5]) (by kernel_rfl) rfl ?_; refine WhAll_cons rfl ?_ ?_; refine Wo_alloc2 rfl flat25 ?_; rintro b3 w8 hb3 E8 hB3
          have hlb3 := hB3.lt; have hs8 := E8.size; refine Wo_nil ?_; refine ⟨(((E5.trans E6).trans E7).trans E8), ?_⟩; refine Wh_all (rs := [5]) (by kernel_rfl) rfl ?_; refine WhAll_cons rfl ?_ ?_; refine Wo_alloc2 rfl flat25 ?_
          rintro b4 w9 hb4 E9 hB4; have hlb4 := hB4.lt; have hs9 := E9.size; refine Wo_nil ?_; refine ⟨((((E5.trans E6).trans E7).trans E8).trans E9), ?_⟩; refine Wh_all (rs := [6]) (by kernel_rfl) rfl ?_; refine WhAll_cons rfl ?_ ?_
          refine Wo_st2 rfl Try.sizeOf25 rfl rfl (by first | rfl | assumption) (by first | rfl | assumption) (hB3.ext E9) (by omega) ((((((((E1.trans E2).trans E3).trans E4).trans E5).trans E6).trans E7).trans E8).trans E9) ?_
          rintro w10 E10 hB3 K2 hz2
          have E11 := (((((((E2.trans E3).trans E4).trans E5).trans E6).trans E7).trans E8).trans E9).wroteAt ((((((((E1.trans E2).trans E3).trans E4).trans E5).trans E6).trans E7).trans E8).trans E9) E10 K2 hz2 (by omega)
          have szE11 := E11.size; have E12 := ((((((E3.trans E4).trans E5).trans E6).trans E7).trans E8).trans E9).wroteAt ((((((((E1.trans E2).trans E3).trans E4).trans E5).trans E6).trans E7).trans E8).trans E9) E10 K2 hz2 (by omega)
          have szE12 := E12.size; have E13 := (((((E4.trans E5).trans E6).trans E7).trans E8).trans E9).wroteAt ((((((((E1.trans E2).trans E3).trans E4).trans E5).trans E6).trans E7).trans E8).trans E9) E10 K2 hz2 (by omega)
          have szE13 := E13.size; have E14 := ((((E5.trans E6).trans E7).trans E8).trans E9).wroteAt ((((((((E1.trans E2).trans E3).trans E4).trans E5).trans E6).trans E7).trans E8).trans E9) E10 K2 hz2 (by omega); have szE14 := E14.size
          have E15 := (((E6.trans E7).trans E8).trans E9).wroteAt ((((((((E1.trans E2).trans E3).trans E4).trans E5).trans E6).trans E7).trans E8).trans E9) E10 K2 hz2 (by omega); have szE15 := E15.size
          have E16 := ((E7.trans E8).trans E9).wroteAt ((((((((E1.trans E2).trans E3).trans E4).trans E5).trans E6).trans E7).trans E8).trans E9) E10 K2 hz2 (by omega); have szE16 := E16.size
          have E17 := (E8.trans E9).wroteAt ((((((((E1.trans E2).trans E3).trans E4).trans E5).trans E6).trans E7).trans E8).trans E9) E10 K2 hz2 (by omega); have szE17 := E17.size
          have hB1 := (hB1.ext (((((((E2.trans E3).trans E4).trans E5).trans E6).trans E7).trans E8).trans E9)).of_heap (K2 _ (by omega))
          have hB2 := (hB2.ext ((((((E3.trans E4).trans E5).trans E6).trans E7).trans E8).trans E9)).of_heap (K2 _ (by omega)); have hO1 := (hO1.toB.ext ((E7.trans E8).trans E9)).wrote K2 (by omega)
          have hQ1 := (hQ1.toB.ext ((E7.trans E8).trans E9)).wrote K2 (by omega); have hO2 := (hO2.toB.ext (E8.trans E9)).wrote K2 (by omega); have hQ2 := (hQ2.toB.ext (E8.trans E9)).wrote K2 (by omega)
          have hB4 := hB4.of_heap (K2 _ (by omega)); refine Wo_nil ?_; refine ⟨E14, ?_⟩; refine Wh_all (rs := [7]) (by kernel_rfl) rfl ?_; refine WhAll_cons rfl ?_ ?_
          refine Wo_st2 rfl Try.sizeOf25 rfl rfl (by first | rfl | assumption) (by first | rfl | assumption) hB4 (by omega) E10 ?_; rintro w11 E18 hB4 K3 hz3; have E19 := E11.wroteAt E10 E18 K3 hz3 (by omega); have szE19 := E19.size
          have E20 := E12.wroteAt E10 E18 K3 hz3 (by omega); have szE20 := E20.size; have E21 := E13.wroteAt E10 E18 K3 hz3 (by omega); have szE21 := E21.size; have E22 := E14.wroteAt E10 E18 K3 hz3 (by omega); have szE22 := E22.size
          have E23 := E15.wroteAt E10 E18 K3 hz3 (by omega); have szE23 := E23.size; have E24 := E16.wroteAt E10 E18 K3 hz3 (by omega); have szE24 := E24.size; have E25 := E17.wroteAt E10 E18 K3 hz3 (by omega); have szE25 := E25.size
          have hB3 := hB3.of_heap (K3 _ (by omega)); have hB1 := hB1.of_heap (K3 _ (by omega)); have hB2 := hB2.of_heap (K3 _ (by omega)); have hO1 := hO1.wrote K3 (by omega); have hQ1 := hQ1.wrote K3 (by omega)
          have hO2 := hO2.wrote K3 (by omega); have hQ2 := hQ2.wrote K3 (by omega); refine Wo_nil ?_; refine ⟨E22, ?_⟩; refine Wh_done (by kernel_rfl) ?_; rotate_left; exact WhAll_nil; exact WhAll_nil; exact WhAll_nil
          refine WhAll_cons rfl ?_ ?_; refine Wo_alloc2 rfl flat25 ?_; rintro b3 w8 hb3 E8 hB3; have hlb3 := hB3.lt; have hs8 := E8.size; refine Wo_nil ?_; refine ⟨(((E5.trans E6).trans E7).trans E8), ?_⟩
          refine Wh_all (rs := [4]) (by kernel_rfl) rfl ?_; refine WhAll_cons rfl ?_ ?_; refine Wo_alloc2 rfl flat25 ?_; rintro b4 w9 hb4 E9 hB4; have hlb4 := hB4.lt; have hs9 := E9.size; refine Wo_nil ?_
          refine ⟨((((E5.trans E6).trans E7).trans E8).trans E9), ?_⟩; refine Wh_all (rs := [6]) (by kernel_rfl) rfl ?_; refine WhAll_cons rfl ?_ ?_
          refine Wo_st2 rfl Try.sizeOf25 rfl rfl (by first | rfl | assumption) (by first | rfl | assumption) hB4 (by omega) ((((((((E1.trans E2).trans E3).trans E4).trans E5).trans E6).trans E7).trans E8).trans E9) ?_
          rintro w10 E10 hB4 K2 hz2
          have E11 := (((((((E2.trans E3).trans E4).trans E5).trans E6).trans E7).trans E8).trans E9).wroteAt ((((((((E1.trans E2).trans E3).trans E4).trans E5).trans E6).trans E7).trans E8).trans E9) E10 K2 hz2 (by omega)
          have szE11 := E11.size; have E12 := ((((((E3.trans E4).trans E5).trans E6).trans E7).trans E8).trans E9).wroteAt ((((((((E1.trans E2).trans E3).trans E4).trans E5).trans E6).trans E7).trans E8).trans E9) E10 K2 hz2 (by omega)
          have szE12 := E12.size; have E13 := (((((E4.trans E5).trans E6).trans E7).trans E8).trans E9).wroteAt ((((((((E1.trans E2).trans E3).trans E4).trans E5).trans E6).trans E7).trans E8).trans E9) E10 K2 hz2 (by omega)
          have szE13 := E13.size; have E14 := ((((E5.trans E6).trans E7).trans E8).trans E9).wroteAt ((((((((E1.trans E2).trans E3).trans E4).trans E5).trans E6).trans E7).trans E8).trans E9) E10 K2 hz2 (by omega); have szE14 := E14.size
          have E15 := (((E6.trans E7).trans E8).trans E9).wroteAt ((((((((E1.trans E2).trans E3).trans E4).trans E5).trans E6).trans E7).trans E8).trans E9) E10 K2 hz2 (by omega); have szE15 := E15.size
          have E16 := ((E7.trans E8).trans E9).wroteAt ((((((((E1.trans E2).trans E3).trans E4).trans E5).trans E6).trans E7).trans E8).trans E9) E10 K2 hz2 (by omega); have szE16 := E16.size
          have E17 := (E8.trans E9).wroteAt ((((((((E1.trans E2).trans E3).trans E4).trans E5).trans E6).trans E7).trans E8).trans E9) E10 K2 hz2 (by omega); have szE17 := E17.size
          have E18 := E9.wroteAt ((((((((E1.trans E2).trans E3).trans E4).trans E5).trans E6).trans E7).trans E8).trans E9) E10 K2 hz2 (by omega); have szE18 := E18.size
          have hB1 := (hB1.ext (((((((E2.trans E3).trans E4).trans E5).trans E6).trans E7).trans E8).trans E9)).of_heap (K2 _ (by omega))
          have hB2 := (hB2.ext ((((((E3.trans E4).trans E5).trans E6).trans E7).trans E8).trans E9)).of_heap (K2 _ (by omega)); have hO1 := (hO1.toB.ext ((E7.trans E8).trans E9)).wrote K2 (by omega)
          have hQ1 := (hQ1.toB.ext ((E7.trans E8).trans E9)).wrote K2 (by omega); have hO2 := (hO2.toB.ext (E8.trans E9)).wrote K2 (by omega); have hQ2 := (hQ2.toB.ext (E8.trans E9)).wrote K2 (by omega)
          have hB3 := (hB3.ext E9).of_heap (K2 _ (by omega)); refine Wo_nil ?_; refine ⟨E14, ?_⟩; refine Wh_all (rs := [7]) (by kernel_rfl) rfl ?_; refine WhAll_cons rfl ?_ ?_
          refine Wo_st2 rfl Try.sizeOf25 rfl rfl (by first | rfl | assumption) (by first | rfl | assumption) hB3 (by omega) E10 ?_; rintro w11 E19 hB3 K3 hz3; have E20 := E11.wroteAt E10 E19 K3 hz3 (by omega); have szE20 := E20.size
          have E21 := E12.wroteAt E10 E19 K3 hz3 (by omega); have szE21 := E21.size; have E22 := E13.wroteAt E10 E19 K3 hz3 (by omega); have szE22 := E22.size; have E23 := E14.wroteAt E10 E19 K3 hz3 (by omega); have szE23 := E23.size
          have E24 := E15.wroteAt E10 E19 K3 hz3 (by omega); have szE24 := E24.size; have E25 := E16.wroteAt E10 E19 K3 hz3 (by omega); have szE25 := E25.size; have E26 := E17.wroteAt E10 E19 K3 hz3 (by omega); have szE26 := E26.size
          have hB4 := hB4.of_heap (K3 _ (by omega)); have hB1 := hB1.of_heap (K3 _ (by omega)); have hB2 := hB2.of_heap (K3 _ (by omega)); have hO1 := hO1.wrote K3 (by omega); have hQ1 := hQ1.wrote K3 (by omega)
          have hO2 := hO2.wrote K3 (by omega); have hQ2 := hQ2.wrote K3 (by omega); refine Wo_nil ?_; refine ⟨E23, ?_⟩; refine Wh_done (by kernel_rfl) ?_; rotate_left; exact WhAll_nil; exact WhAll_nil; exact WhAll_nil; exact WhAll_nil
          refine WhAll_cons rfl ?_ ?_; refine Wo_alloc2 rfl flat25 ?_; rintro b3 w7 hb3 E7 hB3; have hlb3 := hB3.lt; have hs7 := E7.size; refine Wo_nil ?_; refine ⟨((E5.trans E6).trans E7), ?_⟩
          refine Wh_all (rs := [3, 5]) (by kernel_rfl) rfl ?_; refine WhAll_cons rfl ?_ ?_
          refine Wo_call rfl (opc1 (a := .agg _) Try.call55 rfl) (k4 _ _ _ ((Mono.mono ((((((E1.trans E2).trans E3).trans E4).trans E5).trans E6).trans E7) h3)) ((Mono.mono ((((((E1.trans E2).trans E3).trans E4).trans E5).trans E6).trans E7) h4))) ?_
          rintro _ w8 ⟨u4, q2, rfl, E8, hO2, hQ2, hd2⟩; have icu4 := OwnedB.isC (Owned.toB hO2); have cpu4 := OwnedB.capOk (Owned.toB hO2); have icq2 := OwnedB.isC (Owned.toB hQ2); have cpq2 := OwnedB.capOk (Owned.toB hQ2)
          have hs8 := E8.size; refine Wo_nil ?_; refine ⟨(((E5.trans E6).trans E7).trans E8), ?_⟩; refine Wh_all (rs := [5]) (by kernel_rfl) rfl ?_; refine WhAll_cons rfl ?_ ?_; refine Wo_alloc2 rfl flat25 ?_; rintro b4 w9 hb4 E9 hB4
          have hlb4 := hB4.lt; have hs9 := E9.size; refine Wo_nil ?_; refine ⟨((((E5.trans E6).trans E7).trans E8).trans E9), ?_⟩; refine Wh_all (rs := [6]) (by kernel_rfl) rfl ?_; refine WhAll_cons rfl ?_ ?_
          refine Wo_st2 rfl Try.sizeOf25 rfl rfl (by first | rfl | assumption) (by first | rfl | assumption) (hB3.ext (E8.trans E9)) (by omega) ((((((((E1.trans E2).trans E3).trans E4).trans E5).trans E6).trans E7).trans E8).trans E9) ?_
          rintro w10 E10 hB3 K2 hz2
          have E11 := (((((((E2.trans E3).trans E4).trans E5).trans E6).trans E7).trans E8).trans E9).wroteAt ((((((((E1.trans E2).trans E3).trans E4).trans E5).trans E6).trans E7).trans E8).trans E9) E10 K2 hz2 (by omega)
          have szE11 := E11.size; have E12 := ((((((E3.trans E4).trans E5).trans E6).trans E7).trans E8).trans E9).wroteAt ((((((((E1.trans E2).trans E3).trans E4).trans E5).trans E6).trans E7).trans E8).trans E9) E10 K2 hz2 (by omega)
          have szE12 := E12.size; have E13 := (((((E4.trans E5).trans E6).trans E7).trans E8).trans E9).wroteAt ((((((((E1.trans E2).trans E3).trans E4).trans E5).trans E6).trans E7).trans E8).trans E9) E10 K2 hz2 (by omega)
          have szE13 := E13.size; have E14 := ((((E5.trans E6).trans E7).trans E8).trans E9).wroteAt ((((((((E1.trans E2).trans E3).trans E4).trans E5).trans E6).trans E7).trans E8).trans E9) E10 K2 hz2 (by omega); have szE14 := E14.size
          have E15 := (((E6.trans E7).trans E8).trans E9).wroteAt ((((((((E1.trans E2).trans E3).trans E4).trans E5).trans E6).trans E7).trans E8).trans E9) E10 K2 hz2 (by omega); have szE15 := E15.size
          have E16 := ((E7.trans E8).trans E9).wroteAt ((((((((E1.trans E2).trans E3).trans E4).trans E5).trans E6).trans E7).trans E8).trans E9) E10 K2 hz2 (by omega); have szE16 := E16.size
          have hB1 := (hB1.ext (((((((E2.trans E3).trans E4).trans E5).trans E6).trans E7).trans E8).trans E9)).of_heap (K2 _ (by omega))
          have hB2 := (hB2.ext ((((((E3.trans E4).trans E5).trans E6).trans E7).trans E8).trans E9)).of_heap (K2 _ (by omega)); have hO1 := (hO1.toB.ext ((E7.trans E8).trans E9)).wrote K2 (by omega)
          have hQ1 := (hQ1.toB.ext ((E7.trans E8).trans E9)).wrote K2 (by omega); have hO2 := (hO2.toB.ext E9).wrote K2 (by omega); have hQ2 := (hQ2.toB.ext E9).wrote K2 (by omega); have hB4 := hB4.of_heap (K2 _ (by omega)); refine Wo_nil ?_
          refine ⟨E14, ?_⟩; refine Wh_all (rs := [7]) (by kernel_rfl) rfl ?_; refine WhAll_cons rfl ?_ ?_; refine Wo_st2 rfl Try.sizeOf25 rfl rfl (by first | rfl | assumption) (by first | rfl | assumption) hB4 (by omega) E10 ?_
          rintro w11 E17 hB4 K3 hz3; have E18 := E11.wroteAt E10 E17 K3 hz3 (by omega); have szE18 := E18.size; have E19 := E12.wroteAt E10 E17 K3 hz3 (by omega); have szE19 := E19.size; have E20 := E13.wroteAt E10 E17 K3 hz3 (by omega)
          have szE20 := E20.size; have E21 := E14.wroteAt E10 E17 K3 hz3 (by omega); have szE21 := E21.size; have E22 := E15.wroteAt E10 E17 K3 hz3 (by omega); have szE22 := E22.size; have E23 := E16.wroteAt E10 E17 K3 hz3 (by omega)
          have szE23 := E23.size; have hB3 := hB3.of_heap (K3 _ (by omega)); have hB1 := hB1.of_heap (K3 _ (by omega)); have hB2 := hB2.of_heap (K3 _ (by omega)); have hO1 := hO1.wrote K3 (by omega); have hQ1 := hQ1.wrote K3 (by omega)
          have hO2 := hO2.wrote K3 (by omega); have hQ2 := hQ2.wrote K3 (by omega); refine Wo_nil ?_; refine ⟨E21, ?_⟩; refine Wh_done (by kernel_rfl) ?_; rotate_left; exact WhAll_nil; exact WhAll_nil; exact WhAll_nil
          refine WhAll_cons rfl ?_ ?_; refine Wo_alloc2 rfl flat25 ?_; rintro b4 w8 hb4 E8 hB4; have hlb4 := hB4.lt; have hs8 := E8.size; refine Wo_nil ?_; refine ⟨(((E5.trans E6).trans E7).trans E8), ?_⟩
          refine Wh_all (rs := [3]) (by kernel_rfl) rfl ?_; refine WhAll_cons rfl ?_ ?_
          refine Wo_call rfl (opc1 (a := .agg _) Try.call55 rfl) (k4 _ _ _ ((Mono.mono (((((((E1.trans E2).trans E3).trans E4).trans E5).trans E6).trans E7).trans E8) h3)) ((Mono.mono (((((((E1.trans E2).trans E3).trans E4).trans E5).trans E6).trans E7).trans E8) h4))) ?_
          rintro _ w9 ⟨u4, q2, rfl, E9, hO2, hQ2, hd2⟩; have icu4 := OwnedB.isC (Owned.toB hO2); have cpu4 := OwnedB.capOk (Owned.toB hO2); have icq2 := OwnedB.isC (Owned.toB hQ2); have cpq2 := OwnedB.capOk (Owned.toB hQ2)
          have hs9 := E9.size; refine Wo_nil ?_; refine ⟨((((E5.trans E6).trans E7).trans E8).trans E9), ?_⟩; refine Wh_all (rs := [6]) (by kernel_rfl) rfl ?_; refine WhAll_cons rfl ?_ ?_
          refine Wo_st2 rfl Try.sizeOf25 rfl rfl (by first | rfl | assumption) (by first | rfl | assumption) (hB3.ext (E8.trans E9)) (by omega) ((((((((E1.trans E2).trans E3).trans E4).trans E5).trans E6).trans E7).trans E8).trans E9) ?_
          rintro w10 E10 hB3 K2 hz2
          have E11 := (((((((E2.trans E3).trans E4).trans E5).trans E6).trans E7).trans E8).trans E9).wroteAt ((((((((E1.trans E2).trans E3).trans E4).trans E5).trans E6).trans E7).trans E8).trans E9) E10 K2 hz2 (by omega)
          have szE11 := E11.size; have E12 := ((((((E3.trans E4).trans E5).trans E6).trans E7).trans E8).trans E9).wroteAt ((((((((E1.trans E2).trans E3).trans E4).trans E5).trans E6).trans E7).trans E8).trans E9) E10 K2 hz2 (by omega)
          have szE12 := E12.size; have E13 := (((((E4.trans E5).trans E6).trans E7).trans E8).trans E9).wroteAt ((((((((E1.trans E2).trans E3).trans E4).trans E5).trans E6).trans E7).trans E8).trans E9) E10 K2 hz2 (by omega)
          have szE13 := E13.size; have E14 := ((((E5.trans E6).trans E7).trans E8).trans E9).wroteAt ((((((((E1.trans E2).trans E3).trans E4).trans E5).trans E6).trans E7).trans E8).trans E9) E10 K2 hz2 (by omega); have szE14 := E14.size
          have E15 := (((E6.trans E7).trans E8).trans E9).wroteAt ((((((((E1.trans E2).trans E3).trans E4).trans E5).trans E6).trans E7).trans E8).trans E9) E10 K2 hz2 (by omega); have szE15 := E15.size
          have E16 := ((E7.trans E8).trans E9).wroteAt ((((((((E1.trans E2).trans E3).trans E4).trans E5).trans E6).trans E7).trans E8).trans E9) E10 K2 hz2 (by omega); have szE16 := E16.size
          have hB1 := (hB1.ext (((((((E2.trans E3).trans E4).trans E5).trans E6).trans E7).trans E8).trans E9)).of_heap (K2 _ (by omega))
          have hB2 := (hB2.ext ((((((E3.trans E4).trans E5).trans E6).trans E7).trans E8).trans E9)).of_heap (K2 _ (by omega)); have hO1 := (hO1.toB.ext ((E7.trans E8).trans E9)).wrote K2 (by omega)
          have hQ1 := (hQ1.toB.ext ((E7.trans E8).trans E9)).wrote K2 (by omega); have hB4 := (hB4.ext E9).of_heap (K2 _ (by omega)); have hO2 := hO2.toB.wrote K2 (by omega); have hQ2 := hQ2.toB.wrote K2 (by omega); refine Wo_nil ?_
          refine ⟨E14, ?_⟩; refine Wh_all (rs := [7]) (by kernel_rfl) rfl ?_; refine WhAll_cons rfl ?_ ?_; refine Wo_st2 rfl Try.sizeOf25 rfl rfl (by first | rfl | assumption) (by first | rfl | assumption) hB4 (by omega) E10 ?_
          rintro w11 E17 hB4 K3 hz3; have E18 := E11.wroteAt E10 E17 K3 hz3 (by omega); have szE18 := E18.size; have E19 := E12.wroteAt E10 E17 K3 hz3 (by omega); have szE19 := E19.size; have E20 := E13.wroteAt E10 E17 K3 hz3 (by omega)
          have szE20 := E20.size; have E21 := E14.wroteAt E10 E17 K3 hz3 (by omega); have szE21 := E21.size; have E22 := E15.wroteAt E10 E17 K3 hz3 (by omega); have szE22 := E22.size; have E23 := E16.wroteAt E10 E17 K3 hz3 (by omega)
          have szE23 := E23.size; have hB3 := hB3.of_heap (K3 _ (by omega)); have hB1 := hB1.of_heap (K3 _ (by omega)); have hB2 := hB2.of_heap (K3 _ (by omega)); have hO1 := hO1.wrote K3 (by omega); have hQ1 := hQ1.wrote K3 (by omega)
          have hO2 := hO2.wrote K3 (by omega); have hQ2 := hQ2.wrote K3 (by omega); refine Wo_nil ?_; refine ⟨E21, ?_⟩; refine Wh_done (by kernel_rfl) ?_; rotate_left; exact WhAll_nil; exact WhAll_nil; exact WhAll_nil; exact WhAll_nil
          refine WhAll_cons rfl ?_ ?_; refine Wo_alloc2 rfl flat25 ?_; rintro b3 w7 hb3 E7 hB3; have hlb3 := hB3.lt; have hs7 := E7.size; refine Wo_nil ?_; refine ⟨((E5.trans E6).trans E7), ?_⟩
          refine Wh_all (rs := [3, 4]) (by kernel_rfl) rfl ?_; refine WhAll_cons rfl ?_ ?_
          refine Wo_call rfl (opc1 (a := .agg _) Try.call55 rfl) (k4 _ _ _ ((Mono.mono ((((((E1.trans E2).trans E3).trans E4).trans E5).trans E6).trans E7) h3)) ((Mono.mono ((((((E1.trans E2).trans E3).trans E4).trans E5).trans E6).trans E7) h4))) ?_
          rintro _ w8 ⟨u4, q2, rfl, E8, hO2, hQ2, hd2⟩; have icu4 := OwnedB.isC (Owned.toB hO2); have cpu4 := OwnedB.capOk (Owned.toB hO2); have icq2 := OwnedB.isC (Owned.toB hQ2); have cpq2 := OwnedB.capOk (Owned.toB hQ2)
          have hs8 := E8.size; refine Wo_nil ?_; refine ⟨(((E5.trans E6).trans E7).trans E8), ?_⟩; refine Wh_all (rs := [4]) (by kernel_rfl) rfl ?_; refine WhAll_cons rfl ?_ ?_; refine Wo_alloc2 rfl flat25 ?_; rintro b4 w9 hb4 E9 hB4
          have hlb4 := hB4.lt; have hs9 := E9.size; refine Wo_nil ?_; refine ⟨((((E5.trans E6).trans E7).trans E8).trans E9), ?_⟩; refine Wh_all (rs := [6]) (by kernel_rfl) rfl ?_; refine WhAll_cons rfl ?_ ?_
          refine Wo_st2 rfl Try.sizeOf25 rfl rfl (by first | rfl | assumption) (by first | rfl | assumption) hB4 (by omega) ((((((((E1.trans E2).trans E3).trans E4).trans E5).trans E6).trans E7).trans E8).trans E9) ?_
          rintro w10 E10 hB4 K2 hz2
          have E11 := (((((((E2.trans E3).trans E4).trans E5).trans E6).trans E7).trans E8).trans E9).wroteAt ((((((((E1.trans E2).trans E3).trans E4).trans E5).trans E6).trans E7).trans E8).trans E9) E10 K2 hz2 (by omega)
          have szE11 := E11.size; have E12 := ((((((E3.trans E4).trans E5).trans E6).trans E7).trans E8).trans E9).wroteAt ((((((((E1.trans E2).trans E3).trans E4).trans E5).trans E6).trans E7).trans E8).trans E9) E10 K2 hz2 (by omega)
          have szE12 := E12.size; have E13 := (((((E4.trans E5).trans E6).trans E7).trans E8).trans E9).wroteAt ((((((((E1.trans E2).trans E3).trans E4).trans E5).trans E6).trans E7).trans E8).trans E9) E10 K2 hz2 (by omega)
          have szE13 := E13.size; have E14 := ((((E5.trans E6).trans E7).trans E8).trans E9).wroteAt ((((((((E1.trans E2).trans E3).trans E4).trans E5).trans E6).trans E7).trans E8).trans E9) E10 K2 hz2 (by omega); have szE14 := E14.size
          have E15 := (((E6.trans E7).trans E8).trans E9).wroteAt ((((((((E1.trans E2).trans E3).trans E4).trans E5).trans E6).trans E7).trans E8).trans E9) E10 K2 hz2 (by omega); have szE15 := E15.size
          have E16 := ((E7.trans E8).trans E9).wroteAt ((((((((E1.trans E2).trans E3).trans E4).trans E5).trans E6).trans E7).trans E8).trans E9) E10 K2 hz2 (by omega); have szE16 := E16.size
          have E17 := (E8.trans E9).wroteAt ((((((((E1.trans E2).trans E3).trans E4).trans E5).trans E6).trans E7).trans E8).trans E9) E10 K2 hz2 (by omega); have szE17 := E17.size
          have E18 := E9.wroteAt ((((((((E1.trans E2).trans E3).trans E4).trans E5).trans E6).trans E7).trans E8).trans E9) E10 K2 hz2 (by omega); have szE18 := E18.size
          have hB1 := (hB1.ext (((((((E2.trans E3).trans E4).trans E5).trans E6).trans E7).trans E8).trans E9)).of_heap (K2 _ (by omega))
          have hB2 := (hB2.ext ((((((E3.trans E4).trans E5).trans E6).trans E7).trans E8).trans E9)).of_heap (K2 _ (by omega)); have hO1 := (hO1.toB.ext ((E7.trans E8).trans E9)).wrote K2 (by omega)
          have hQ1 := (hQ1.toB.ext ((E7.trans E8).trans E9)).wrote K2 (by omega); have hB3 := (hB3.ext (E8.trans E9)).of_heap (K2 _ (by omega)); have hO2 := (hO2.toB.ext E9).wrote K2 (by omega)
          have hQ2 := (hQ2.toB.ext E9).wrote K2 (by omega); refine Wo_nil ?_; refine ⟨E14, ?_⟩; refine Wh_all (rs := [7]) (by kernel_rfl) rfl ?_; refine WhAll_cons rfl ?_ ?_
          refine Wo_st2 rfl Try.sizeOf25 rfl rfl (by first | rfl | assumption) (by first | rfl | assumption) hB3 (by omega) E10 ?_; rintro w11 E19 hB3 K3 hz3; have E20 := E11.wroteAt E10 E19 K3 hz3 (by omega); have szE20 := E20.size
          have E21 := E12.wroteAt E10 E19 K3 hz3 (by omega); have szE21 := E21.size; have E22 := E13.wroteAt E10 E19 K3 hz3 (by omega); have szE22 := E22.size; have E23 := E14.wroteAt E10 E19 K3 hz3 (by omega); have szE23 := E23.size
          have E24 := E15.wroteAt E10 E19 K3 hz3 (by omega); have szE24 := E24.size; have E25 := E16.wroteAt E10 E19 K3 hz3 (by omega); have szE25 := E25.size; have hB4 := hB4.of_heap (K3 _ (by omega))
          have hB1 := hB1.of_heap (K3 _ (by omega)); have hB2 := hB2.of_heap (K3 _ (by omega)); have hO1 := hO1.wrote K3 (by omega); have hQ1 := hQ1.wrote K3 (by omega); have hO2 := hO2.wrote K3 (by omega); have hQ2 := hQ2.wrote K3 (by omega)
          refine Wo_nil ?_; refine ⟨E23, ?_⟩; refine Wh_done (by kernel_rfl) ?_; rotate_left; exact WhAll_nil; exact WhAll_nil; exact WhAll_nil; refine WhAll_cons rfl ?_ ?_; refine Wo_alloc2 rfl flat25 ?_; rintro b4 w8 hb4 E8 hB4
          have hlb4 := hB4.lt; have hs8 := E8.size; refine Wo_nil ?_; refine ⟨(((E5.trans E6).trans E7).trans E8), ?_⟩; refine Wh_all (rs := [3]) (by kernel_rfl) rfl ?_; refine WhAll_cons rfl ?_ ?_
          refine Wo_call rfl (opc1 (a := .agg _) Try.call55 rfl) (k4 _ _ _ ((Mono.mono (((((((E1.trans E2).trans E3).trans E4).trans E5).trans E6).trans E7).trans E8) h3)) ((Mono.mono (((((((E1.trans E2).trans E3).trans E4).trans E5).trans E6).trans E7).trans E8) h4))) ?_
          rintro _ w9 ⟨u4, q2, rfl, E9, hO2, hQ2, hd2⟩; have icu4 := OwnedB.isC (Owned.toB hO2); have cpu4 := OwnedB.capOk (Owned.toB hO2); have icq2 := OwnedB.isC (Owned.toB hQ2); have cpq2 := OwnedB.capOk (Owned.toB hQ2)
          have hs9 := E9.size; refine Wo_nil ?_; refine ⟨((((E5.trans E6).trans E7).trans E8).trans E9), ?_⟩; refine Wh_all (rs := [6]) (by kernel_rfl) rfl ?_; refine WhAll_cons rfl ?_ ?_
          refine Wo_st2 rfl Try.sizeOf25 rfl rfl (by first | rfl | assumption) (by first | rfl | assumption) (hB4.ext E9) (by omega) ((((((((E1.trans E2).trans E3).trans E4).trans E5).trans E6).trans E7).trans E8).trans E9) ?_
          rintro w10 E10 hB4 K2 hz2
          have E11 := (((((((E2.trans E3).trans E4).trans E5).trans E6).trans E7).trans E8).trans E9).wroteAt ((((((((E1.trans E2).trans E3).trans E4).trans E5).trans E6).trans E7).trans E8).trans E9) E10 K2 hz2 (by omega)
          have szE11 := E11.size; have E12 := ((((((E3.trans E4).trans E5).trans E6).trans E7).trans E8).trans E9).wroteAt ((((((((E1.trans E2).trans E3).trans E4).trans E5).trans E6).trans E7).trans E8).trans E9) E10 K2 hz2 (by omega)
          have szE12 := E12.size; have E13 := (((((E4.trans E5).trans E6).trans E7).trans E8).trans E9).wroteAt ((((((((E1.trans E2).trans E3).trans E4).trans E5).trans E6).trans E7).trans E8).trans E9) E10 K2 hz2 (by omega)
          have szE13 := E13.size; have E14 := ((((E5.trans E6).trans E7).trans E8).trans E9).wroteAt ((((((((E1.trans E2).trans E3).trans E4).trans E5).trans E6).trans E7).trans E8).trans E9) E10 K2 hz2 (by omega); have szE14 := E14.size
          have E15 := (((E6.trans E7).trans E8).trans E9).wroteAt ((((((((E1.trans E2).trans E3).trans E4).trans E5).trans E6).trans E7).trans E8).trans E9) E10 K2 hz2 (by omega); have szE15 := E15.size
          have E16 := ((E7.trans E8).trans E9).wroteAt ((((((((E1.trans E2).trans E3).trans E4).trans E5).trans E6).trans E7).trans E8).trans E9) E10 K2 hz2 (by omega); have szE16 := E16.size
          have E17 := (E8.trans E9).wroteAt ((((((((E1.trans E2).trans E3).trans E4).trans E5).trans E6).trans E7).trans E8).trans E9) E10 K2 hz2 (by omega); have szE17 := E17.size
          have hB1 := (hB1.ext (((((((E2.trans E3).trans E4).trans E5).trans E6).trans E7).trans E8).trans E9)).of_heap (K2 _ (by omega))
          have hB2 := (hB2.ext ((((((E3.trans E4).trans E5).trans E6).trans E7).trans E8).trans E9)).of_heap (K2 _ (by omega)); have hO1 := (hO1.toB.ext ((E7.trans E8).trans E9)).wrote K2 (by omega)
          have hQ1 := (hQ1.toB.ext ((E7.trans E8).trans E9)).wrote K2 (by omega); have hB3 := (hB3.ext (E8.trans E9)).of_heap (K2 _ (by omega)); have hO2 := hO2.toB.wrote K2 (by omega); have hQ2 := hQ2.toB.wrote K2 (by omega)
          refine Wo_nil ?_; refine ⟨E14, ?_⟩; refine Wh_all (rs := [7]) (by kernel_rfl) rfl ?_; refine WhAll_cons rfl ?_ ?_
          refine Wo_st2 rfl Try.sizeOf25 rfl rfl (by first | rfl | assumption) (by first | rfl | assumption) hB3 (by omega) E10 ?_; rintro w11 E18 hB3 K3 hz3; have E19 := E11.wroteAt E10 E18 K3 hz3 (by omega); have szE19 := E19.size
          have E20 := E12.wroteAt E10 E18 K3 hz3 (by omega); have szE20 := E20.size; have E21 := E13.wroteAt E10 E18 K3 hz3 (by omega); have szE21 := E21.size; have E22 := E14.wroteAt E10 E18 K3 hz3 (by omega); have szE22 := E22.size
          have E23 := E15.wroteAt E10 E18 K3 hz3 (by omega); have szE23 := E23.size; have E24 := E16.wroteAt E10 E18 K3 hz3 (by omega); have szE24 := E24.size; have hB4 := hB4.of_heap (K3 _ (by omega))
          have hB1 := hB1.of_heap (K3 _ (by omega)); have hB2 := hB2.of_heap (K3 _ (by omega)); have hO1 := hO1.wrote K3 (by omega); have hQ1 := hQ1.wrote K3 (by omega); have hO2 := hO2.wrote K3 (by omega); have hQ2 := hQ2.wrote K3 (by omega)
          refine Wo_nil ?_; refine ⟨E22, ?_⟩; refine Wh_done (by kernel_rfl) ?_; rotate_left; exact WhAll_nil; exact WhAll_nil; exact WhAll_nil; exact WhAll_nil; exact WhAll_nil; refine WhAll_cons rfl ?_ ?_; refine Wo_alloc2 rfl flat25 ?_
          rintro b3 w6 hb3 E6 hB3; have hlb3 := hB3.lt; have hs6 := E6.size; refine Wo_nil ?_; refine ⟨(E5.trans E6), ?_⟩; refine Wh_all (rs := [1, 5]) (by kernel_rfl) rfl ?_; refine WhAll_cons rfl ?_ ?_
          refine Wo_call rfl (opc1 (a := .agg _) Try.call55 rfl) (k3 _ _ _ ((Mono.mono (((((E1.trans E2).trans E3).trans E4).trans E5).trans E6) h1)) ((Mono.mono (((((E1.trans E2).trans E3).trans E4).trans E5).trans E6) h2))) ?_
          rintro _ w7 ⟨u3, q1, rfl, E7, hO1, hQ1, hd1⟩; have icu3 := OwnedB.isC (Owned.toB hO1); have cpu3 := OwnedB.capOk (Owned.toB hO1); have icq1 := OwnedB.isC (Owned.toB hQ1); have cpq1 := OwnedB.capOk (Owned.toB hQ1)
          have hs7 := E7.size; refine Wo_nil ?_; refine ⟨((E5.trans E6).trans E7), ?_⟩; refine Wh_all (rs := [3, 5]) (by kernel_rfl) rfl ?_; refine WhAll_cons rfl ?_ ?_
          refine Wo_call rfl (opc1 (a := .agg _) Try.call55 rfl) (k4 _ _ _ ((Mono.mono ((((((E1.trans E2).trans E3).trans E4).trans E5).trans E6).trans E7) h3)) ((Mono.mono ((((((E1.trans E2).trans E3).trans E4).trans E5).trans E6).trans E7) h4))) ?_
          rintro _ w8 ⟨u4, q2, rfl, E8, hO2, hQ2, hd2⟩; have icu4 := OwnedB.isC (Owned.toB hO2); have cpu4 := OwnedB.capOk (Owned.toB hO2); have icq2 := OwnedB.isC (Owned.toB hQ2); have cpq2 := OwnedB.capOk (Owned.toB hQ2)
          have hs8 := E8.size; refine Wo_nil ?_; refine ⟨(((E5.trans E6).trans E7).trans E8), ?_⟩; refine Wh_all (rs := [5]) (by kernel_rfl) rfl ?_; refine WhAll_cons rfl ?_ ?_; refine Wo_alloc2 rfl flat25 ?_; rintro b4 w9 hb4 E9 hB4
          have hlb4 := hB4.lt; have hs9 := E9.size; refine Wo_nil ?_; refine ⟨((((E5.trans E6).trans E7).trans E8).trans E9), ?_⟩; refine Wh_all (rs := [6]) (by kernel_rfl) rfl ?_; refine WhAll_cons rfl ?_ ?_
          refine Wo_st2 rfl Try.sizeOf25 rfl rfl (by first | rfl | assumption) (by first | rfl | assumption) (hB3.ext ((E7.trans E8).trans E9)) (by omega) ((((((((E1.trans E2).trans E3).trans E4).trans E5).trans E6).trans E7).trans E8).trans E9) ?_
          rintro w10 E10 hB3 K2 hz2
          have E11 := (((((((E2.trans E3).trans E4).trans E5).trans E6).trans E7).trans E8).trans E9).wroteAt ((((((((E1.trans E2).trans E3).trans E4).trans E5).trans E6).trans E7).trans E8).trans E9) E10 K2 hz2 (by omega)
          have szE11 := E11.size; have E12 := ((((((E3.trans E4).trans E5).trans E6).trans E7).trans E8).trans E9).wroteAt ((((((((E1.trans E2).trans E3).trans E4).trans E5).trans E6).trans E7).trans E8).trans E9) E10 K2 hz2 (by omega)
          have szE12 := E12.size; have E13 := (((((E4.trans E5).trans E6).trans E7).trans E8).trans E9).wroteAt ((((((((E1.trans E2).trans E3).trans E4).trans E5).trans E6).trans E7).trans E8).trans E9) E10 K2 hz2 (by omega)
          have szE13 := E13.size; have E14 := ((((E5.trans E6).trans E7).trans E8).trans E9).wroteAt ((((((((E1.trans E2).trans E3).trans E4).trans E5).trans E6).trans E7).trans E8).trans E9) E10 K2 hz2 (by omega); have szE14 := E14.size
          have E15 := (((E6.trans E7).trans E8).trans E9).wroteAt ((((((((E1.trans E2).trans E3).trans E4).trans E5).trans E6).trans E7).trans E8).trans E9) E10 K2 hz2 (by omega); have szE15 := E15.size
          have hB1 := (hB1.ext (((((((E2.trans E3).trans E4).trans E5).trans E6).trans E7).trans E8).trans E9)).of_heap (K2 _ (by omega))
          have hB2 := (hB2.ext ((((((E3.trans E4).trans E5).trans E6).trans E7).trans E8).trans E9)).of_heap (K2 _ (by omega)); have hO1 := (hO1.toB.ext (E8.trans E9)).wrote K2 (by omega)
          have hQ1 := (hQ1.toB.ext (E8.trans E9)).wrote K2 (by omega); have hO2 := (hO2.toB.ext E9).wrote K2 (by omega); have hQ2 := (hQ2.toB.ext E9).wrote K2 (by omega); have hB4 := hB4.of_heap (K2 _ (by omega)); refine Wo_nil ?_
          refine ⟨E14, ?_⟩; refine Wh_all (rs := [7]) (by kernel_rfl) rfl ?_; refine WhAll_cons rfl ?_ ?_; refine Wo_st2 rfl Try.sizeOf25 rfl rfl (by first | rfl | assumption) (by first | rfl | assumption) hB4 (by omega) E10 ?_
          rintro w11 E16 hB4 K3 hz3; have E17 := E11.wroteAt E10 E16 K3 hz3 (by omega); have szE17 := E17.size; have E18 := E12.wroteAt E10 E16 K3 hz3 (by omega); have szE18 := E18.size; have E19 := E13.wroteAt E10 E16 K3 hz3 (by omega)
          have szE19 := E19.size; have E20 := E14.wroteAt E10 E16 K3 hz3 (by omega); have szE20 := E20.size; have E21 := E15.wroteAt E10 E16 K3 hz3 (by omega); have szE21 := E21.size; have hB3 := hB3.of_heap (K3 _ (by omega))
          have hB1 := hB1.of_heap (K3 _ (by omega)); have hB2 := hB2.of_heap (K3 _ (by omega)); have hO1 := hO1.wrote K3 (by omega); have hQ1 := hQ1.wrote K3 (by omega); have hO2 := hO2.wrote K3 (by omega); have hQ2 := hQ2.wrote K3 (by omega)
          refine Wo_nil ?_; refine ⟨E20, ?_⟩; refine Wh_done (by kernel_rfl) ?_; rotate_left; exact WhAll_nil; exact WhAll_nil; exact WhAll_nil; refine WhAll_cons rfl ?_ ?_; refine Wo_alloc2 rfl flat25 ?_; rintro b4 w8 hb4 E8 hB4
          have hlb4 := hB4.lt; have hs8 := E8.size; refine Wo_nil ?_; refine ⟨(((E5.trans E6).trans E7).trans E8), ?_⟩; refine Wh_all (rs := [3]) (by kernel_rfl) rfl ?_; refine WhAll_cons rfl ?_ ?_
          refine Wo_call rfl (opc1 (a := .agg _) Try.call55 rfl) (k4 _ _ _ ((Mono.mono (((((((E1.trans E2).trans E3).trans E4).trans E5).trans E6).trans E7).trans E8) h3)) ((Mono.mono (((((((E1.trans E2).trans E3).trans E4).trans E5).trans E6).trans E7).trans E8) h4))) ?_
          rintro _ w9 ⟨u4, q2, rfl, E9, hO2, hQ2, hd2⟩; have icu4 := OwnedB.isC (Owned.toB hO2); have cpu4 := OwnedB.capOk (Owned.toB hO2); have icq2 := OwnedB.isC (Owned.toB hQ2); have cpq2 := OwnedB.capOk (Owned.toB hQ2)
          have hs9 := E9.size; refine Wo_nil ?_; refine ⟨((((E5.trans E6).trans E7).trans E8).trans E9), ?_⟩; refine Wh_all (rs := [6]) (by kernel_rfl) rfl ?_; refine WhAll_cons rfl ?_ ?_
          refine Wo_st2 rfl Try.sizeOf25 rfl rfl (by first | rfl | assumption) (by first | rfl | assumption) (hB3.ext ((E7.trans E8).trans E9)) (by omega) ((((((((E1.trans E2).trans E3).trans E4).trans E5).trans E6).trans E7).trans E8).trans E9) ?_
          rintro w10 E10 hB3 K2 hz2
          have E11 := (((((((E2.trans E3).trans E4).trans E5).trans E6).trans E7).trans E8).trans E9).wroteAt ((((((((E1.trans E2).trans E3).trans E4).trans E5).trans E6).trans E7).trans E8).trans E9) E10 K2 hz2 (by omega)
          have szE11 := E11.size; have E12 := ((((((E3.trans E4).trans E5).trans E6).trans E7).trans E8).trans E9).wroteAt ((((((((E1.trans E2).trans E3).trans E4).trans E5).trans E6).trans E7).trans E8).trans E9) E10 K2 hz2 (by omega)
          have szE12 := E12.size; have E13 := (((((E4.trans E5).trans E6).trans E7).trans E8).trans E9).wroteAt ((((((((E1.trans E2).trans E3).trans E4).trans E5).trans E6).trans E7).trans E8).trans E9) E10 K2 hz2 (by omega)
          have szE13 := E13.size; have E14 := ((((E5.trans E6).trans E7).trans E8).trans E9).wroteAt ((((((((E1.trans E2).trans E3).trans E4).trans E5).trans E6).trans E7).trans E8).trans E9) E10 K2 hz2 (by omega); have szE14 := E14.size
          have E15 := (((E6.trans E7).trans E8).trans E9).wroteAt ((((((((E1.trans E2).trans E3).trans E4).trans E5).trans E6).trans E7).trans E8).trans E9) E10 K2 hz2 (by omega); have szE15 := E15.size
          have hB1 := (hB1.ext (((((((E2.trans E3).trans E4).trans E5).trans E6).trans E7).trans E8).trans E9)).of_heap (K2 _ (by omega))
          have hB2 := (hB2.ext ((((((E3.trans E4).trans E5).trans E6).trans E7).trans E8).trans E9)).of_heap (K2 _ (by omega)); have hO1 := (hO1.toB.ext (E8.trans E9)).wrote K2 (by omega)
          have hQ1 := (hQ1.toB.ext (E8.trans E9)).wrote K2 (by omega); have hB4 := (hB4.ext E9).of_heap (K2 _ (by omega)); have hO2 := hO2.toB.wrote K2 (by omega); have hQ2 := hQ2.toB.wrote K2 (by omega); refine Wo_nil ?_; refine ⟨E14, ?_⟩
          refine Wh_all (rs := [7]) (by kernel_rfl) rfl ?_; refine WhAll_cons rfl ?_ ?_; refine Wo_st2 rfl Try.sizeOf25 rfl rfl (by first | rfl | assumption) (by first | rfl | assumption) hB4 (by omega) E10 ?_; rintro w11 E16 hB4 K3 hz3
          have E17 := E11.wroteAt E10 E16 K3 hz3 (by omega); have szE17 := E17.size; have E18 := E12.wroteAt E10 E16 K3 hz3 (by omega); have szE18 := E18.size; have E19 := E13.wroteAt E10 E16 K3 hz3 (by omega); have szE19 := E19.size
          have E20 := E14.wroteAt E10 E16 K3 hz3 (by omega); have szE20 := E20.size; have E21 := E15.wroteAt E10 E16 K3 hz3 (by omega); have szE21 := E21.size; have hB3 := hB3.of_heap (K3 _ (by omega))
          have hB1 := hB1.of_heap (K3 _ (by omega)); have hB2 := hB2.of_heap (K3 _ (by omega)); have hO1 := hO1.wrote K3 (by omega); have hQ1 := hQ1.wrote K3 (by omega); have hO2 := hO2.wrote K3 (by omega); have hQ2 := hQ2.wrote K3 (by omega)
          refine Wo_nil ?_; refine ⟨E20, ?_⟩; refine Wh_done (by kernel_rfl) ?_; rotate_left; exact WhAll_nil; exact WhAll_nil; exact WhAll_nil; exact WhAll_nil; refine WhAll_cons rfl ?_ ?_; refine Wo_alloc2 rfl flat25 ?_
          rintro b4 w7 hb4 E7 hB4; have hlb4 := hB4.lt; have hs7 := E7.size; refine Wo_nil ?_; refine ⟨((E5.trans E6).trans E7), ?_⟩; refine Wh_all (rs := [1]) (by kernel_rfl) rfl ?_; refine WhAll_cons rfl ?_ ?_
          refine Wo_call rfl (opc1 (a := .agg _) Try.call55 rfl) (k3 _ _ _ ((Mono.mono ((((((E1.trans E2).trans E3).trans E4).trans E5).trans E6).trans E7) h1)) ((Mono.mono ((((((E1.trans E2).trans E3).trans E4).trans E5).trans E6).trans E7) h2))) ?_
          rintro _ w8 ⟨u3, q1, rfl, E8, hO1, hQ1, hd1⟩; have icu3 := OwnedB.isC (Owned.toB hO1); have cpu3 := OwnedB.capOk (Owned.toB hO1); have icq1 := OwnedB.isC (Owned.toB hQ1); have cpq1 := OwnedB.capOk (Owned.toB hQ1)
          have hs8 := E8.size; refine Wo_nil ?_; refine ⟨(((E5.trans E6).trans E7).trans E8), ?_⟩; refine Wh_all (rs := [3]) (by kernel_rfl) rfl ?_; refine WhAll_cons rfl ?_ ?_
          refine Wo_call rfl (opc1 (a := .agg _) Try.call55 rfl) (k4 _ _ _ ((Mono.mono (((((((E1.trans E2).trans E3).trans E4).trans E5).trans E6).trans E7).trans E8) h3)) ((Mono.mono (((((((E1.trans E2).trans E3).trans E4).trans E5).trans E6).trans E7).trans E8) h4))) ?_
          rintro _ w9 ⟨u4, q2, rfl, E9, hO2, hQ2, hd2⟩; have icu4 := OwnedB.isC (Owned.toB hO2); have cpu4 := OwnedB.capOk (Owned.toB hO2); have icq2 := OwnedB.isC (Owned.toB hQ2); have cpq2 := OwnedB.capOk (Owned.toB hQ2)
          have hs9 := E9.size; refine Wo_nil ?_; refine ⟨((((E5.trans E6).trans E7).trans E8).trans E9), ?_⟩; refine Wh_all (rs := [6]) (by kernel_rfl) rfl ?_; refine WhAll_cons rfl ?_ ?_
          refine Wo_st2 rfl Try.sizeOf25 rfl rfl (by first | rfl | assumption) (by first | rfl | assumption) (hB3.ext ((E7.trans E8).trans E9)) (by omega) ((((((((E1.trans E2).trans E3).trans E4).trans E5).trans E6).trans E7).trans E8).trans E9) ?_
          rintro w10 E10 hB3 K2 hz2
          have E11 := (((((((E2.trans E3).trans E4).trans E5).trans E6).trans E7).trans E8).trans E9).wroteAt ((((((((E1.trans E2).trans E3).trans E4).trans E5).trans E6).trans E7).trans E8).trans E9) E10 K2 hz2 (by omega)
          have szE11 := E11.size; have E12 := ((((((E3.trans E4).trans E5).trans E6).trans E7).trans E8).trans E9).wroteAt ((((((((E1.trans E2).trans E3).trans E4).trans E5).trans E6).trans E7).trans E8).trans E9) E10 K2 hz2 (by omega)
          have szE12 := E12.size; have E13 := (((((E4.trans E5).trans E6).trans E7).trans E8).trans E9).wroteAt ((((((((E1.trans E2).trans E3).trans E4).trans E5).trans E6).trans E7).trans E8).trans E9) E10 K2 hz2 (by omega)
          have szE13 := E13.size; have E14 := ((((E5.trans E6).trans E7).trans E8).trans E9).wroteAt ((((((((E1.trans E2).trans E3).trans E4).trans E5).trans E6).trans E7).trans E8).trans E9) E10 K2 hz2 (by omega); have szE14 := E14.size
          have E15 := (((E6.trans E7).trans E8).trans E9).wroteAt ((((((((E1.trans E2).trans E3).trans E4).trans E5).trans E6).trans E7).trans E8).trans E9) E10 K2 hz2 (by omega); have szE15 := E15.size
          have hB1 := (hB1.ext (((((((E2.trans E3).trans E4).trans E5).trans E6).trans E7).trans E8).trans E9)).of_heap (K2 _ (by omega))
          have hB2 := (hB2.ext ((((((E3.trans E4).trans E5).trans E6).trans E7).trans E8).trans E9)).of_heap (K2 _ (by omega)); have hB4 := (hB4.ext (E8.trans E9)).of_heap (K2 _ (by omega)); have hO1 := (hO1.toB.ext E9).wrote K2 (by omega)
          have hQ1 := (hQ1.toB.ext E9).wrote K2 (by omega); have hO2 := hO2.toB.wrote K2 (by omega); have hQ2 := hQ2.toB.wrote K2 (by omega); refine Wo_nil ?_; refine ⟨E14, ?_⟩; refine Wh_all (rs := [7]) (by kernel_rfl) rfl ?_
          refine WhAll_cons rfl ?_ ?_; refine Wo_st2 rfl Try.sizeOf25 rfl rfl (by first | rfl | assumption) (by first | rfl | assumption) hB4 (by omega) E10 ?_; rintro w11 E16 hB4 K3 hz3; have E17 := E11.wroteAt E10 E16 K3 hz3 (by omega)
          have szE17 := E17.size; have E18 := E12.wroteAt E10 E16 K3 hz3 (by omega); have szE18 := E18.size; have E19 := E13.wroteAt E10 E16 K3 hz3 (by omega); have szE19 := E19.size; have E20 := E14.wroteAt E10 E16 K3 hz3 (by omega)
          have szE20 := E20.size; have E21 := E15.wroteAt E10 E16 K3 hz3 (by omega); have szE21 := E21.size; have hB3 := hB3.of_heap (K3 _ (by omega)); have hB1 := hB1.of_heap (K3 _ (by omega)); have hB2 := hB2.of_heap (K3 _ (by omega))
          have hO1 := hO1.wrote K3 (by omega); have hQ1 := hQ1.wrote K3 (by omega); have hO2 := hO2.wrote K3 (by omega); have hQ2 := hQ2.wrote K3 (by omega); refine Wo_nil ?_; refine ⟨E20, ?_⟩; refine Wh_done (by kernel_rfl) ?_; rotate_left
          exact WhAll_nil; exact WhAll_nil; exact WhAll_nil; exact WhAll_nil; exact WhAll_nil; refine WhAll_cons rfl ?_ ?_; refine Wo_alloc2 rfl flat25 ?_; rintro b3 w6 hb3 E6 hB3; have hlb3 := hB3.lt; have hs6 := E6.size; refine Wo_nil ?_
          refine ⟨(E5.trans E6), ?_⟩; refine Wh_all (rs := [1, 4]) (by kernel_rfl) rfl ?_; refine WhAll_cons rfl ?_ ?_
          refine Wo_call rfl (opc1 (a := .agg _) Try.call55 rfl) (k3 _ _ _ ((Mono.mono (((((E1.trans E2).trans E3).trans E4).trans E5).trans E6) h1)) ((Mono.mono (((((E1.trans E2).trans E3).trans E4).trans E5).trans E6) h2))) ?_
          rintro _ w7 ⟨u3, q1, rfl, E7, hO1, hQ1, hd1⟩; have icu3 := OwnedB.isC (Owned.toB hO1); have cpu3 := OwnedB.capOk (Owned.toB hO1); have icq1 := OwnedB.isC (Owned.toB hQ1); have cpq1 := OwnedB.capOk (Owned.toB hQ1)
          have hs7 := E7.size; refine Wo_nil ?_; refine ⟨((E5.trans E6).trans E7), ?_⟩; refine Wh_all (rs := [3, 4]) (by kernel_rfl) rfl ?_; refine WhAll_cons rfl ?_ ?_
          refine Wo_call rfl (opc1 (a := .agg _) Try.call55 rfl) (k4 _ _ _ ((Mono.mono ((((((E1.trans E2).trans E3).trans E4).trans E5).trans E6).trans E7) h3)) ((Mono.mono ((((((E1.trans E2).trans E3).trans E4).trans E5).trans E6).trans E7) h4))) ?_
          rintro _ w8 ⟨u4, q2, rfl, E8, hO2, hQ2, hd2⟩; have icu4 := OwnedB.isC (Owned.toB hO2); have cpu4 := OwnedB.capOk (Owned.toB hO2); have icq2 := OwnedB.isC (Owned.toB hQ2); have cpq2 := OwnedB.capOk (Owned.toB hQ2)
          have hs8 := E8.size; refine Wo_nil ?_; refine ⟨(((E5.trans E6).trans E7).trans E8), ?_⟩; refine Wh_all (rs := [4]) (by kernel_rfl) rfl ?_; refine WhAll_cons rfl ?_ ?_; refine Wo_alloc2 rfl flat25 ?_; rintro b4 w9 hb4 E9 hB4
          have hlb4 := hB4.lt; have hs9 := E9.size; refine Wo_nil ?_; refine ⟨((((E5.trans E6).trans E7).trans E8).trans E9), ?_⟩; refine Wh_all (rs := [6]) (by kernel_rfl) rfl ?_; refine WhAll_cons rfl ?_ ?_
          refine Wo_st2 rfl Try.sizeOf25 rfl rfl (by first | rfl | assumption) (by first | rfl | assumption) hB4 (by omega) ((((((((E1.trans E2).trans E3).trans E4).trans E5).trans E6).trans E7).trans E8).trans E9) ?_
          rintro w10 E10 hB4 K2 hz2
          have E11 := (((((((E2.trans E3).trans E4).trans E5).trans E6).trans E7).trans E8).trans E9).wroteAt ((((((((E1.trans E2).trans E3).trans E4).trans E5).trans E6).trans E7).trans E8).trans E9) E10 K2 hz2 (by omega)
          have szE11 := E11.size; have E12 := ((((((E3.trans E4).trans E5).trans E6).trans E7).trans E8).trans E9).wroteAt ((((((((E1.trans E2).trans E3).trans E4).trans E5).trans E6).trans E7).trans E8).trans E9) E10 K2 hz2 (by omega)
          have szE12 := E12.size; have E13 := (((((E4.trans E5).trans E6).trans E7).trans E8).trans E9).wroteAt ((((((((E1.trans E2).trans E3).trans E4).trans E5).trans E6).trans E7).trans E8).trans E9) E10 K2 hz2 (by omega)
          have szE13 := E13.size; have E14 := ((((E5.trans E6).trans E7).trans E8).trans E9).wroteAt ((((((((E1.trans E2).trans E3).trans E4).trans E5).trans E6).trans E7).trans E8).trans E9) E10 K2 hz2 (by omega); have szE14 := E14.size
          have E15 := (((E6.trans E7).trans E8).trans E9).wroteAt ((((((((E1.trans E2).trans E3).trans E4).trans E5).trans E6).trans E7).trans E8).trans E9) E10 K2 hz2 (by omega); have szE15 := E15.size
          have E16 := ((E7.trans E8).trans E9).wroteAt ((((((((E1.trans E2).trans E3).trans E4).trans E5).trans E6).trans E7).trans E8).trans E9) E10 K2 hz2 (by omega); have szE16 := E16.size
          have E17 := (E8.trans E9).wroteAt ((((((((E1.trans E2).trans E3).trans E4).trans E5).trans E6).trans E7).trans E8).trans E9) E10 K2 hz2 (by omega); have szE17 := E17.size
          have E18 := E9.wroteAt ((((((((E1.trans E2).trans E3).trans E4).trans E5).trans E6).trans E7).trans E8).trans E9) E10 K2 hz2 (by omega); have szE18 := E18.size
          have hB1 := (hB1.ext (((((((E2.trans E3).trans E4).trans E5).trans E6).trans E7).trans E8).trans E9)).of_heap (K2 _ (by omega))
          have hB2 := (hB2.ext ((((((E3.trans E4).trans E5).trans E6).trans E7).trans E8).trans E9)).of_heap (K2 _ (by omega)); have hB3 := (hB3.ext ((E7.trans E8).trans E9)).of_heap (K2 _ (by omega))
          have hO1 := (hO1.toB.ext (E8.trans E9)).wrote K2 (by omega); have hQ1 := (hQ1.toB.ext (E8.trans E9)).wrote K2 (by omega); have hO2 := (hO2.toB.ext E9).wrote K2 (by omega); have hQ2 := (hQ2.toB.ext E9).wrote K2 (by omega)
          refine Wo_nil ?_; refine ⟨E14, ?_⟩; refine Wh_all (rs := [7]) (by kernel_rfl) rfl ?_; refine WhAll_cons rfl ?_ ?_
          refine Wo_st2 rfl Try.sizeOf25 rfl rfl (by first | rfl | assumption) (by first | rfl | assumption) hB3 (by omega) E10 ?_; rintro w11 E19 hB3 K3 hz3; have E20 := E11.wroteAt E10 E19 K3 hz3 (by omega); have szE20 := E20.size
          have E21 := E12.wroteAt E10 E19 K3 hz3 (by omega); have szE21 := E21.size; have E22 := E13.wroteAt E10 E19 K3 hz3 (by omega); have szE22 := E22.size; have E23 := E14.wroteAt E10 E19 K3 hz3 (by omega); have szE23 := E23.size
          have E24 := E15.wroteAt E10 E19 K3 hz3 (by omega); have szE24 := E24.size; have hB4 := hB4.of_heap (K3 _ (by omega)); have hB1 := hB1.of_heap (K3 _ (by omega)); have hB2 := hB2.of_heap (K3 _ (by omega))
          have hO1 := hO1.wrote K3 (by omega); have hQ1 := hQ1.wrote K3 (by omega); have hO2 := hO2.wrote K3 (by omega); have hQ2 := hQ2.wrote K3 (by omega); refine Wo_nil ?_; refine ⟨E23, ?_⟩; refine Wh_done (by kernel_rfl) ?_; rotate_left
          exact WhAll_nil; exact WhAll_nil; exact WhAll_nil; refine WhAll_cons rfl ?_ ?_; refine Wo_alloc2 rfl flat25 ?_; rintro b4 w8 hb4 E8 hB4; have hlb4 := hB4.lt; have hs8 := E8.size; refine Wo_nil ?_
          refine ⟨(((E5.trans E6).trans E7).trans E8), ?_⟩; refine Wh_all (rs := [3]) (by kernel_rfl) rfl ?_; refine WhAll_cons rfl ?_ ?_
          refine Wo_call rfl (opc1 (a := .agg _) Try.call55 rfl) (k4 _ _ _ ((Mono.mono (((((((E1.trans E2).trans E3).trans E4).trans E5).trans E6).trans E7).trans E8) h3)) ((Mono.mono (((((((E1.trans E2).trans E3).trans E4).trans E5).trans E6).trans E7).trans E8) h4))) ?_
          rintro _ w9 ⟨u4, q2, rfl, E9, hO2, hQ2, hd2⟩; have icu4 := OwnedB.isC (Owned.toB hO2); have cpu4 := OwnedB.capOk (Owned.toB hO2); have icq2 := OwnedB.isC (Owned.toB hQ2); have cpq2 := OwnedB.capOk (Owned.toB hQ2)
          have hs9 := E9.size; refine Wo_nil ?_; refine ⟨((((E5.trans E6).trans E7).trans E8).trans E9), ?_⟩; refine Wh_all (rs := [6]) (by kernel_rfl) rfl ?_; refine WhAll_cons rfl ?_ ?_
          refine Wo_st2 rfl Try.sizeOf25 rfl rfl (by first | rfl | assumption) (by first | rfl | assumption) (hB4.ext E9) (by omega) ((((((((E1.trans E2).trans E3).trans E4).trans E5).trans E6).trans E7).trans E8).trans E9) ?_
          rintro w10 E10 hB4 K2 hz2
          have E11 := (((((((E2.trans E3).trans E4).trans E5).trans E6).trans E7).trans E8).trans E9).wroteAt ((((((((E1.trans E2).trans E3).trans E4).trans E5).trans E6).trans E7).trans E8).trans E9) E10 K2 hz2 (by omega)
          have szE11 := E11.size; have E12 := ((((((E3.trans E4).trans E5).trans E6).trans E7).trans E8).trans E9).wroteAt ((((((((E1.trans E2).trans E3).trans E4).trans E5).trans E6).trans E7).trans E8).trans E9) E10 K2 hz2 (by omega)
          have szE12 := E12.size; have E13 := (((((E4.trans E5).trans E6).trans E7).trans E8).trans E9).wroteAt ((((((((E1.trans E2).trans E3).trans E4).trans E5).trans E6).trans E7).trans E8).trans E9) E10 K2 hz2 (by omega)
          have szE13 := E13.size; have E14 := ((((E5.trans E6).trans E7).trans E8).trans E9).wroteAt ((((((((E1.trans E2).trans E3).trans E4).trans E5).trans E6).trans E7).trans E8).trans E9) E10 K2 hz2 (by omega); have szE14 := E14.size
          have E15 := (((E6.trans E7).trans E8).trans E9).wroteAt ((((((((E1.trans E2).trans E3).trans E4).trans E5).trans E6).trans E7).trans E8).trans E9) E10 K2 hz2 (by omega); have szE15 := E15.size
          have E16 := ((E7.trans E8).trans E9).wroteAt ((((((((E1.trans E2).trans E3).trans E4).trans E5).trans E6).trans E7).trans E8).trans E9) E10 K2 hz2 (by omega); have szE16 := E16.size
          have E17 := (E8.trans E9).wroteAt ((((((((E1.trans E2).trans E3).trans E4).trans E5).trans E6).trans E7).trans E8).trans E9) E10 K2 hz2 (by omega); have szE17 := E17.size
          have hB1 := (hB1.ext (((((((E2.trans E3).trans E4).trans E5).trans E6).trans E7).trans E8).trans E9)).of_heap (K2 _ (by omega))
          have hB2 := (hB2.ext ((((((E3.trans E4).trans E5).trans E6).trans E7).trans E8).trans E9)).of_heap (K2 _ (by omega)); have hB3 := (hB3.ext ((E7.trans E8).trans E9)).of_heap (K2 _ (by omega))
          have hO1 := (hO1.toB.ext (E8.trans E9)).wrote K2 (by omega); have hQ1 := (hQ1.toB.ext (E8.trans E9)).wrote K2 (by omega); have hO2 := hO2.toB.wrote K2 (by omega); have hQ2 := hQ2.toB.wrote K2 (by omega); refine Wo_nil ?_
          refine ⟨E14, ?_⟩; refine Wh_all (rs := [7]) (by kernel_rfl) rfl ?_; refine WhAll_cons rfl ?_ ?_; refine Wo_st2 rfl Try.sizeOf25 rfl rfl (by first | rfl | assumption) (by first | rfl | assumption) hB3 (by omega) E10 ?_
          rintro w11 E18 hB3 K3 hz3; have E19 := E11.wroteAt E10 E18 K3 hz3 (by omega); have szE19 := E19.size; have E20 := E12.wroteAt E10 E18 K3 hz3 (by omega); have szE20 := E20.size; have E21 := E13.wroteAt E10 E18 K3 hz3 (by omega)
          have szE21 := E21.size; have E22 := E14.wroteAt E10 E18 K3 hz3 (by omega); have szE22 := E22.size; have E23 := E15.wroteAt E10 E18 K3 hz3 (by omega); have szE23 := E23.size; have hB4 := hB4.of_heap (K3 _ (by omega))
          have hB1 := hB1.of_heap (K3 _ (by omega)); have hB2 := hB2.of_heap (K3 _ (by omega)); have hO1 := hO1.wrote K3 (by omega); have hQ1 := hQ1.wrote K3 (by omega); have hO2 := hO2.wrote K3 (by omega); have hQ2 := hQ2.wrote K3 (by omega)
          refine Wo_nil ?_; refine ⟨E22, ?_⟩; refine Wh_done (by kernel_rfl) ?_; rotate_left; exact WhAll_nil; exact WhAll_nil; exact WhAll_nil; exact WhAll_nil; refine WhAll_cons rfl ?_ ?_; refine Wo_alloc2 rfl flat25 ?_
          rintro b4 w7 hb4 E7 hB4; have hlb4 := hB4.lt; have hs7 := E7.size; refine Wo_nil ?_; refine ⟨((E5.trans E6).trans E7), ?_⟩; refine Wh_all (rs := [1]) (by kernel_rfl) rfl ?_; refine WhAll_cons rfl ?_ ?_
          refine Wo_call rfl (opc1 (a := .agg _) Try.call55 rfl) (k3 _ _ _ ((Mono.mono ((((((E1.trans E2).trans E3).trans E4).trans E5).trans E6).trans E7) h1)) ((Mono.mono ((((((E1.trans E2).trans E3).trans E4).trans E5).trans E6).trans E7) h2))) ?_
          rintro _ w8 ⟨u3, q1, rfl, E8, hO1, hQ1, hd1⟩; have icu3 := OwnedB.isC (Owned.toB hO1); have cpu3 := OwnedB.capOk (Owned.toB hO1); have icq1 := OwnedB.isC (Owned.toB hQ1); have cpq1 := OwnedB.capOk (Owned.toB hQ1)
          have hs8 := E8.size; refine Wo_nil ?_; refine ⟨(((E5.trans E6).trans E7).trans E8), ?_⟩; refine Wh_all (rs := [3]) (by kernel_rfl) rfl ?_; refine WhAll_cons rfl ?_ ?_
          refine Wo_call rfl (opc1 (a := .agg _) Try.call55 rfl) (k4 _ _ _ ((Mono.mono (((((((E1.trans E2).trans E3).trans E4).trans E5).trans E6).trans E7).trans E8) h3)) ((Mono.mono (((((((E1.trans E2).trans E3).trans E4).trans E5).trans E6).trans E7).trans E8) h4))) ?_
          rintro _ w9 ⟨u4, q2, rfl, E9, hO2, hQ2, hd2⟩; have icu4 := OwnedB.isC (Owned.toB hO2); have cpu4 := OwnedB.capOk (Owned.toB hO2); have icq2 := OwnedB.isC (Owned.toB hQ2); have cpq2 := OwnedB.capOk (Owned.toB hQ2)
          have hs9 := E9.size; refine Wo_nil ?_; refine ⟨((((E5.trans E6).trans E7).trans E8).trans E9), ?_⟩; refine Wh_all (rs := [6]) (by kernel_rfl) rfl ?_; refine WhAll_cons rfl ?_ ?_
          refine Wo_st2 rfl Try.sizeOf25 rfl rfl (by first | rfl | assumption) (by first | rfl | assumption) (hB4.ext (E8.trans E9)) (by omega) ((((((((E1.trans E2).trans E3).trans E4).trans E5).trans E6).trans E7).trans E8).trans E9) ?_
          rintro w10 E10 hB4 K2 hz2
          have E11 := (((((((E2.trans E3).trans E4).trans E5).trans E6).trans E7).trans E8).trans E9).wroteAt ((((((((E1.trans E2).trans E3).trans E4).trans E5).trans E6).trans E7).trans E8).trans E9) E10 K2 hz2 (by omega)
          have szE11 := E11.size; have E12 := ((((((E3.trans E4).trans E5).trans E6).trans E7).trans E8).trans E9).wroteAt ((((((((E1.trans E2).trans E3).trans E4).trans E5).trans E6).trans E7).trans E8).trans E9) E10 K2 hz2 (by omega)
          have szE12 := E12.size; have E13 := (((((E4.trans E5).trans E6).trans E7).trans E8).trans E9).wroteAt ((((((((E1.trans E2).trans E3).trans E4).trans E5).trans E6).trans E7).trans E8).trans E9) E10 K2 hz2 (by omega)
          have szE13 := E13.size; have E14 := ((((E5.trans E6).trans E7).trans E8).trans E9).wroteAt ((((((((E1.trans E2).trans E3).trans E4).trans E5).trans E6).trans E7).trans E8).trans E9) E10 K2 hz2 (by omega); have szE14 := E14.size
          have E15 := (((E6.trans E7).trans E8).trans E9).wroteAt ((((((((E1.trans E2).trans E3).trans E4).trans E5).trans E6).trans E7).trans E8).trans E9) E10 K2 hz2 (by omega); have szE15 := E15.size
          have E16 := ((E7.trans E8).trans E9).wroteAt ((((((((E1.trans E2).trans E3).trans E4).trans E5).trans E6).trans E7).trans E8).trans E9) E10 K2 hz2 (by omega); have szE16 := E16.size
          have hB1 := (hB1.ext (((((((E2.trans E3).trans E4).trans E5).trans E6).trans E7).trans E8).trans E9)).of_heap (K2 _ (by omega))
          have hB2 := (hB2.ext ((((((E3.trans E4).trans E5).trans E6).trans E7).trans E8).trans E9)).of_heap (K2 _ (by omega)); have hB3 := (hB3.ext ((E7.trans E8).trans E9)).of_heap (K2 _ (by omega))
          have hO1 := (hO1.toB.ext E9).wrote K2 (by omega); have hQ1 := (hQ1.toB.ext E9).wrote K2 (by omega); have hO2 := hO2.toB.wrote K2 (by omega); have hQ2 := hQ2.toB.wrote K2 (by omega); refine Wo_nil ?_; refine ⟨E14, ?_⟩
          refine Wh_all (rs := [7]) (by kernel_rfl) rfl ?_; refine WhAll_cons rfl ?_ ?_; refine Wo_st2 rfl Try.sizeOf25 rfl rfl (by first | rfl | assumption) (by first | rfl | assumption) hB3 (by omega) E10 ?_; rintro w11 E17 hB3 K3 hz3
          have E18 := E11.wroteAt E10 E17 K3 hz3 (by omega); have szE18 := E18.size; have E19 := E12.wroteAt E10 E17 K3 hz3 (by omega); have szE19 := E19.size; have E20 := E13.wroteAt E10 E17 K3 hz3 (by omega); have szE20 := E20.size
          have E21 := E14.wroteAt E10 E17 K3 hz3 (by omega); have szE21 := E21.size; have E22 := E15.wroteAt E10 E17 K3 hz3 (by omega); have szE22 := E22.size; have hB4 := hB4.of_heap (K3 _ (by omega))
          have hB1 := hB1.of_heap (K3 _ (by omega)); have hB2 := hB2.of_heap (K3 _ (by omega)); have hO1 := hO1.wrote K3 (by omega); have hQ1 := hQ1.wrote K3 (by omega); have hO2 := hO2.wrote K3 (by omega); have hQ2 := hQ2.wrote K3 (by omega)
          refine Wo_nil ?_; refine ⟨E21, ?_⟩; refine Wh_done (by kernel_rfl) ?_; rotate_left; exact WhAll_nil; exact WhAll_nil; exact WhAll_nil; exact WhAll_nil; exact WhAll_nil; exact WhAll_nil
        all_goals
          first
          | refine ⟨(b3, b4, u3, q1, u4, q2), ⟨rfl, rfl, trivial⟩, by repeat (first | with_reducible exact Same.refl | refine Same.upd rfl ?_ | refine Same.upds rfl ?_ | refine Same.mix rfl ?_), ?_⟩
          | refine ⟨(b4, b3, u3, q1, u4, q2), ⟨rfl, rfl, trivial⟩, by repeat (first | with_reducible exact Same.refl | refine Same.upd rfl ?_ | refine Same.upds rfl ?_ | refine Same.mix rfl ?_), ?_⟩
          exact ⟨by assumption, by assumption, by assumption, hO1.read, hQ1.read, hO2.read, hQ2.read⟩
      clear heldS k3 k4
      rintro ⟨b6, b7, x1, x2, y1, y2⟩ ρy w20 ⟨E20, hB6, hB7, i1, i2, i3, i4⟩
      focus
        have szE20 := E20.size; have szE4 := E4.size; have szE3 := E3.size; have szE2 := E2.size; have szE1 := E1.size; refine W_seq ?_; refine W_region rfl ?_; refine Wo rfl (opv_fieldAddr Try.underlying25 rfl rfl Try.sizeOf23 rfl) ?_
        refine Wo (v := x1) rfl (opv_load Try.isAgg23 rfl (hB6.cell rfl)) ?_; refine Wo rfl (opv_fieldAddr Try.underlying25 rfl rfl Try.sizeOf23 rfl) ?_; refine Wo (v := y1) rfl (opv_load Try.isAgg23 rfl (hB7.cell rfl)) ?_
        refine Wo_call rfl (opc2 (a := x1) (b := y1) Try.call56 rfl rfl) (Equal_ok _ _ _ _ _ (i1) (i3)) ?_; rintro _ w5 ⟨rfl, E5⟩; have hs5 := E5.size; refine Wo_split_dec rfl (opv_move (v := .bool _) rfl) (fun h7 => ?_) (fun h7 => ?_)
        refine Wo rfl (opv_fieldAddr Try.underlying25 rfl rfl Try.sizeOf23 rfl) ?_; refine Wo (v := x2) rfl (opv_load Try.isAgg23 rfl ((hB6.ext E5).cell rfl)) ?_; refine Wo rfl (opv_fieldAddr Try.underlying25 rfl rfl Try.sizeOf23 rfl) ?_
        refine Wo (v := y2) rfl (opv_load Try.isAgg23 rfl ((hB7.ext E5).cell rfl)) ?_; refine Wo_call rfl (opc2 (a := x2) (b := y2) Try.call56 rfl rfl) (Equal_ok _ _ _ _ _ ((Mono.mono E5 i2)) ((Mono.mono E5 i4))) ?_; rintro _ w6 ⟨rfl, E6⟩
        have hs6 := E6.size; refine Wo rfl (opv_pick_t (v := .bool _) rfl rfl) ?_; refine Wo rfl (opv_assign (v := .bool _) rfl) ?_; refine Wo_nil ?_; refine W_ret ?_; refine at_ret (v := .bool _) rfl ?_
        refine ⟨congrArg Value.bool ?_, ((((((E1.trans E2).trans E3).trans E4).trans E20).trans E5).trans E6)⟩; rotate_left; refine Wo_skip rfl ?_; refine Wo_skip rfl ?_; refine Wo_skip rfl ?_; refine Wo_skip rfl ?_; refine Wo_skip rfl ?_
        refine Wo rfl (opv_pick_f (v := .bool _) rfl rfl) ?_; refine Wo rfl (opv_assign (v := .bool _) rfl) ?_; refine Wo_nil ?_; refine W_ret ?_; refine at_ret (v := .bool _) rfl ?_
        refine ⟨congrArg Value.bool ?_, (((((E1.trans E2).trans E3).trans E4).trans E20).trans E5)⟩; rotate_left
      all_goals simp_all
    · have k2 := hok' false (decide_eq_false hs')
      have e0 : ssV A B A' B' = false := decide_eq_false (fun h => hs' h.2.1)
      rw [e0]
      clear hok hok'
      refine fn_of_W1 Try.func14 rfl Try.results14 Try.ntmps14 rfl ?_
      focus
        refine W_seq ?_; refine W_region rfl ?_; refine Wo_box rfl rfl rfl ?_; rintro b1 w1 hb1 E1 hB1; have hlb1 := hB1.lt; have hs1 := E1.size; refine Wo_box rfl rfl rfl ?_; rintro b2 w2 hb2 E2 hB2; have hlb2 := hB2.lt
        have hs2 := E2.size; refine Wo rfl (opv_assign (v := .bool _) rfl) ?_; refine Wo_nil ?_; refine W_seq ?_; refine W_seq ?_; refine W_region rfl ?_; refine Wo (v := .agg _) rfl (opv_load2 Try.isAgg25 Try.sizeOf25 rfl (hB1.ext E2)) ?_
        refine Wo_call rfl (opc1 (a := .agg _) Try.call54 rfl) (k1 _ _ _ ((Mono.mono (E1.trans E2) h1)) ((Mono.mono (E1.trans E2) h2))) ?_; rintro _ w3 ⟨rfl, E3⟩; have hs3 := E3.size; refine Wo rfl (opv_not rfl) ?_
        refine Wo_split rfl (opv_move (v := .bool _) rfl) (fun h5 => ?_) (fun h5 => ?_); contradiction; refine Wo (v := .agg _) rfl (opv_load2 Try.isAgg25 Try.sizeOf25 rfl (hB2.ext E3)) ?_
        refine Wo_call rfl (opc1 (a := .agg _) Try.call54 rfl) (k2 _ _ _ ((Mono.mono ((E1.trans E2).trans E3) h3)) ((Mono.mono ((E1.trans E2).trans E3) h4))) ?_; rintro _ w4 ⟨rfl, E4⟩; have hs4 := E4.size; refine Wo rfl (opv_not rfl) ?_
        refine Wo rfl (opv_pick_f (v := .bool _) rfl rfl) ?_; refine Wo_nil ?_; refine W_cond rfl (fun h6 => ?_) (fun h6 => ?_); refine W_seq ?_; refine W_region rfl ?_; refine Wo rfl (opv_assign (v := .bool _) rfl) ?_; refine Wo_nil ?_
        refine W_ret ?_; exact ⟨rfl, (((E1.trans E2).trans E3).trans E4)⟩; contradiction
  · have k1 := hok false (decide_eq_false hs)
    have e0 : ssV A B A' B' = false := decide_eq_false (fun h => hs h.1)
    rw [e0]
    clear hok hok'
    refine fn_of_W1 Try.func14 rfl Try.results14 Try.ntmps14 rfl ?_
    focus
      refine W_seq ?_; refine W_region rfl ?_; refine Wo_box rfl rfl rfl ?_; rintro b1 w1 hb1 E1 hB1; have hlb1 := hB1.lt; have hs1 := E1.size; refine Wo_box rfl rfl rfl ?_; rintro b2 w2 hb2 E2 hB2; have hlb2 := hB2.lt
      have hs2 := E2.size; refine Wo rfl (opv_assign (v := .bool _) rfl) ?_; refine Wo_nil ?_; refine W_seq ?_; refine W_seq ?_; refine W_region rfl ?_; refine Wo (v := .agg _) rfl (opv_load2 Try.isAgg25 Try.sizeOf25 rfl (hB1.ext E2)) ?_
      refine Wo_call rfl (opc1 (a := .agg _) Try.call54 rfl) (k1 _ _ _ ((Mono.mono (E1.trans E2) h1)) ((Mono.mono (E1.trans E2) h2))) ?_; rintro _ w3 ⟨rfl, E3⟩; have hs3 := E3.size; refine Wo rfl (opv_not rfl) ?_
      refine Wo_split rfl (opv_move (v := .bool _) rfl) (fun h5 => ?_) (fun h5 => ?_); refine Wo_skip rfl ?_; refine Wo_skip rfl ?_; refine Wo_skip rfl ?_; refine Wo rfl (opv_pick_t (v := .bool _) rfl rfl) ?_; refine Wo_nil ?_
      refine W_cond_true rfl ?_; refine W_seq ?_; refine W_region rfl ?_; refine Wo rfl (opv_assign (v := .bool _) rfl) ?_; refine Wo_nil ?_; refine W_ret ?_; exact ⟨rfl, ((E1.trans E2).trans E3)⟩; contradiction

theorem rst_stm {A B : List Int} (h : Stm A B) (n : Nat) : Stm (shL (shf (bat A B) n)) (shR (shf (bat A B) n)) ∧ bat (shL (shf (bat A B) n)) (shR (shf (bat A B) n)) = shf (bat A B) n := by
  have hp := per_shf h.per n
  obtain ⟨b, q, hs⟩ := IsSh.ex hp
  obtain ⟨e1, e2⟩ := hs.eq
  have h3 := hs.2 _ _ hp
  have hl := h.2.2
  unfold shL shR
  rw [e1, e2]
  exact ⟨stm_win (fun k => h.bit _) hs.1.1 (by omega), bat_win hs.1⟩
theorem FnSameStreams_walk (w : World) (v : Value) (xs : List UInt8) (h : Bytes w v xs) (hc : CapOk v) : Does Try.prog 3 [v] w (Ret w (.bool true)) := by
  classical
  have hle := h.le
  refine fn_of_W1 Try.func3 rfl Try.results3 Try.ntmps3 rfl ?_
  have stop4 : True := trivial
  focus
    refine W_seq ?_; refine W_region rfl ?_; refine Wo rfl (opv_assign (v := .bool _) rfl) ?_; refine Wo_nil ?_; refine W_seq ?_; refine W_seq ?_; refine W_region rfl ?_; refine Wo rfl (opv_move (v := v) rfl) ?_
    refine Wo rfl (opv_len Try.underlying22 rfl h) ?_; refine Wo rfl (opv_gtr rfl rfl) ?_; refine Wo_nil ?_; refine W_cond_dec rfl (fun h1 => ?_) (fun h1 => ?_); refine W_seq ?_; refine W_region rfl ?_
    refine Wo rfl (opv_assign (v := .bool _) rfl) ?_; refine Wo_nil ?_; refine W_ret ?_; exact ⟨rfl, (Ext.refl _)⟩; refine W_skip ?_; refine W_seq ?_; refine W_region rfl ?_; refine Wo rfl (opv_move (v := v) rfl) ?_
    refine Wo_call rfl (opc1 (a := v) Try.call13 rfl) (DrawSameStreams_ok _ _ _ (h) (by assumption)) ?_; rintro _ w1 ⟨u1, q1, r1, s1, x1, y1, x'1, y'1, rfl, E1, hO1, hQ1, hR1, hS1, hy1, hy1'⟩; have icu1 := OwnedB.isC (Owned.toB hO1)
    have cpu1 := OwnedB.capOk (Owned.toB hO1); have icq1 := OwnedB.isC (Owned.toB hQ1); have cpq1 := OwnedB.capOk (Owned.toB hQ1); have icr1 := OwnedB.isC (Owned.toB hR1); have cpr1 := OwnedB.capOk (Owned.toB hR1)
    have ics1 := OwnedB.isC (Owned.toB hS1); have cps1 := OwnedB.capOk (Owned.toB hS1); have hs1 := E1.size; refine Wo rfl (opv_move (v := .tuple _) rfl) ?_; refine Wo rfl (opv_extract (v := .agg _) rfl rfl) ?_
    refine Wo rfl (opv_extract (v := .agg _) rfl rfl) ?_; refine Wo_alloc2 rfl flat25 ?_; rintro b1 w2 hb1 E2 hB1; have hlb1 := hB1.lt; have hs2 := E2.size; refine Wo_alloc2 rfl flat25 ?_; rintro b2 w3 hb2 E3 hB2; have hlb2 := hB2.lt
    have hs3 := E3.size; refine Wo_st2 rfl Try.sizeOf25 rfl rfl (by first | rfl | assumption) (by first | rfl | assumption) (hB1.ext E3) (by omega) ((E1.trans E2).trans E3) ?_; rintro w4 E4 hB1 K1 hz1
    have E5 := (E2.trans E3).wroteAt ((E1.trans E2).trans E3) E4 K1 hz1 (by omega); have szE5 := E5.size; have hO1 := (hO1.toB.ext (E2.trans E3)).wrote K1 (by omega); have hQ1 := (hQ1.toB.ext (E2.trans E3)).wrote K1 (by omega)
    have hR1 := (hR1.toB.ext (E2.trans E3)).wrote K1 (by omega); have hS1 := (hS1.toB.ext (E2.trans E3)).wrote K1 (by omega); have hB2 := hB2.of_heap (K1 _ (by omega))
    refine Wo_st2 rfl Try.sizeOf25 rfl rfl (by first | rfl | assumption) (by first | rfl | assumption) hB2 (by omega) E4 ?_; rintro w5 E6 hB2 K2 hz2; have E7 := E5.wroteAt E4 E6 K2 hz2 (by omega); have szE7 := E7.size
    have hB1 := hB1.of_heap (K2 _ (by omega)); have hO1 := hO1.wrote K2 (by omega); have hQ1 := hQ1.wrote K2 (by omega); have hR1 := hR1.wrote K2 (by omega); have hS1 := hS1.wrote K2 (by omega); refine Wo_nil ?_; refine W_seq ?_
  clear stop4
  obtain ⟨hA, hB⟩ := hy1
  obtain ⟨hA', hB'⟩ := hy1'
  have r1 := hO1.read
  have r2 := hQ1.read
  have r3 := hR1.read
  have r4 := hS1.read
  clear hO1 hQ1 hR1 hS1
  have hI : ∀ x, ssV x1 y1 x'1 y'1 = x → (∀ (w : World) (u1 u2 v1 v2 : Value), Ints w u1 x1 → Ints w u2 y1 → Ints w v1 x'1 → Ints w v2 y'1 → Does Try.prog 14 [.agg #[u1, u2], .agg #[v1, v2]] w (Ret w (.bool x))) ∧ (∀ (w : World) (u1 u2 v1 v2 : Value), Ints w u1 x1 → Ints w u2 y1 → Ints w v1 x'1 → Ints w v2 y'1 → Does Try.prog 15 [.agg #[u1, u2], .agg #[v1, v2]] w (Ret w (.bool x))) := fun x e => by
    subst e
    exact ⟨fun w u1 u2 v1 v2 h1 h2 h3 h4 => impl_SameStreams_ok w u1 u2 v1 v2 _ _ _ _ h1 h2 h3 h4 (by omega) (by omega) (by omega) (by omega), fun w u1 u2 v1 v2 h1 h2 h3 h4 => spec_SameStreams_ok w u1 u2 v1 v2 _ _ _ _ h1 h2 h3 h4 (by omega) (by omega) (by omega) (by omega)⟩
  have hok : ∀ (x : Bool), decide (Stm x1 y1) = x → ∀ (w : World) (u1 u2 : Value), Ints w u1 x1 → Ints w u2 y1 → Does Try.prog 16 [.agg #[u1, u2]] w (Ret w (.bool x)) := fun x e w u1 u2 h1 h2 => e ▸ StreamOk_ok w u1 u2 _ _ h1 h2 (by omega) (by omega)
  have hok' : ∀ (x : Bool), decide (Stm x'1 y'1) = x → ∀ (w : World) (u1 u2 : Value), Ints w u1 x'1 → Ints w u2 y'1 → Does Try.prog 16 [.agg #[u1, u2]] w (Ret w (.bool x)) := fun x e w u1 u2 h1 h2 => e ▸ StreamOk_ok w u1 u2 _ _ h1 h2 (by omega) (by omega)
  by_cases hs : Stm x1 y1
  · have k3 := hok true (decide_eq_true hs)
    by_cases hs' : Stm x'1 y'1
    · have k4 := hok' true (decide_eq_true hs')
      have hsh : ∀ (w : World) (u1 u2 : Value), Ints w u1 x1 → Ints w u2 y1 → Does Try.prog 19 [.agg #[u1, u2]] w (RetS2 w 3 (shL (bat x1 y1)) (shR (bat x1 y1))) := fun w u1 u2 h1 h2 => by
        have := impl_ShortOf_ok w u1 u2 _ _ h1 h2 (by omega) (by omega)
        rw [show shV x1 y1 = (shL (bat x1 y1), shR (bat x1 y1)) from if_pos hs] at this
        exact this
      have hsh' : ∀ (w : World) (u1 u2 : Value), Ints w u1 x'1 → Ints w u2 y'1 → Does Try.prog 19 [.agg #[u1, u2]] w (RetS2 w 3 (shL (bat x'1 y'1)) (shR (bat x'1 y'1))) := fun w u1 u2 h1 h2 => by
        have := impl_ShortOf_ok w u1 u2 _ _ h1 h2 (by omega) (by omega)
        rw [show shV x'1 y'1 = (shL (bat x'1 y'1), shR (bat x'1 y'1)) from if_pos hs'] at this
        exact this
      by_cases hf : bat x1 y1 = bat x'1 y'1
      · obtain ⟨k1, k2⟩ := hI true (decide_eq_true ⟨hs, hs', hf⟩)
        obtain ⟨hS, _⟩ := rst_stm hs 1
        have hS2 := hS.2.2
        have k7 : ∀ (w : World) (u1 u2 : Value), Ints w u1 x1 → Ints w u2 y1 → Does Try.prog 20 [.agg #[u1, u2], .int .i64 1] w (RetS2 w 3 (shL (shf (bat x1 y1) 1)) (shR (shf (bat x1 y1) 1))) := fun w u1 u2 h1 h2 => by
          have := impl_RestOf_ok w u1 u2 _ _ h1 h2 (by omega) (by omega) 1
          rw [show rstV x1 y1 1 = (shL (shf (bat x1 y1) 1), shR (shf (bat x1 y1) 1)) from if_pos ⟨hs, by omega, by omega⟩] at this
          exact this
        have k8 : ∀ (w : World) (u1 u2 : Value), Ints w u1 x'1 → Ints w u2 y'1 → Does Try.prog 20 [.agg #[u1, u2], .int .i64 1] w (RetS2 w 3 (shL (shf (bat x1 y1) 1)) (shR (shf (bat x1 y1) 1))) := fun w u1 u2 h1 h2 => by
          have := impl_RestOf_ok w u1 u2 _ _ h1 h2 (by omega) (by omega) 1
          rw [show rstV x'1 y'1 1 = (shL (shf (bat x1 y1) 1), shR (shf (bat x1 y1) 1)) by rw [hf]; exact if_pos ⟨hs', by omega, by omega⟩] at this
          exact this
        have k9 : ∀ (w : World) (u1 u2 v1 v2 : Value), Ints w u1 (shL (shf (bat x1 y1) 1)) → Ints w u2 (shR (shf (bat x1 y1) 1)) → Ints w v1 (shL (shf (bat x1 y1) 1)) → Ints w v2 (shR (shf (bat x1 y1) 1)) → Does Try.prog 14 [.agg #[u1, u2], .agg #[v1, v2]] w (Ret w (.bool true)) := fun w u1 u2 v1 v2 h1 h2 h3 h4 => by
          have := impl_SameStreams_ok w u1 u2 v1 v2 _ _ _ _ h1 h2 h3 h4 (by omega) (by omega) (by omega) (by omega)
          rw [show ssV (shL (shf (bat x1 y1) 1)) (shR (shf (bat x1 y1) 1)) (shL (shf (bat x1 y1) 1)) (shR (shf (bat x1 y1) 1)) = true from decide_eq_true ⟨hS, hS, rfl⟩] at this
          exact this
        rw [← hf] at hsh'
        clear hI hok hok' hS hS2 hf
        generalize shL (bat x1 y1) = X at *
        generalize shR (bat x1 y1) = Y at *
        generalize shL (shf (bat x1 y1) 1) = Z at *
        generalize shR (shf (bat x1 y1) 1) = T at *
        have stop9 : True := trivial
        focus
          have szE7 := E7.size; have szE6 := E6.size; have szE5 := E5.size; have szE4 := E4.size; have szE3 := E3.size; have szE2 := E2.size; have szE1 := E1.size; refine W_region rfl ?_
          refine Wo (v := .agg _) rfl (opv_load2 Try.isAgg25 Try.sizeOf25 rfl hB1) ?_; refine Wo (v := .agg _) rfl (opv_load2 Try.isAgg25 Try.sizeOf25 rfl hB2) ?_
          refine Wo_call rfl (opc2 (a := .agg _) (b := .agg _) Try.call14 rfl rfl) (k1 _ _ _ _ _ (r1) (r2) (r3) (r4)) ?_; rintro _ w6 ⟨rfl, E8⟩; have hs4 := E8.size; refine Wo rfl (opv_assign (v := .bool _) rfl) ?_; refine Wo_nil ?_
          refine W_seq ?_; refine W_seq ?_; refine W_region rfl ?_; refine Wo rfl (opv_move (v := .bool _) rfl) ?_; refine Wo (v := .agg _) rfl (opv_load2 Try.isAgg25 Try.sizeOf25 rfl (hB1.ext E8)) ?_
          refine Wo (v := .agg _) rfl (opv_load2 Try.isAgg25 Try.sizeOf25 rfl (hB2.ext E8)) ?_
          refine Wo_call rfl (opc2 (a := .agg _) (b := .agg _) Try.call15 rfl rfl) (k2 _ _ _ _ _ ((Mono.mono E8 r1)) ((Mono.mono E8 r2)) ((Mono.mono E8 r3)) ((Mono.mono E8 r4))) ?_; rintro _ w7 ⟨rfl, E9⟩; have hs5 := E9.size
          refine Wo rfl (opv_neq_bool Try.underlying4 rfl rfl) ?_; refine Wo_nil ?_; refine W_cond_ndec rfl (fun h2 => ?_) (fun h2 => ?_); contradiction; refine W_skip ?_; refine W_seq ?_; refine W_seq ?_; refine W_region rfl ?_
          refine Wo (v := .agg _) rfl (opv_load2 Try.isAgg25 Try.sizeOf25 rfl (hB1.ext (E8.trans E9))) ?_; refine Wo_call rfl (opc1 (a := .agg _) Try.call16 rfl) (k3 _ _ _ ((Mono.mono (E8.trans E9) r1)) ((Mono.mono (E8.trans E9) r2))) ?_
          rintro _ w8 ⟨rfl, E10⟩; have hs6 := E10.size; refine Wo rfl (opv_not rfl) ?_; refine Wo_split rfl (opv_move (v := .bool _) rfl) (fun h3 => ?_) (fun h3 => ?_); contradiction
          refine Wo (v := .agg _) rfl (opv_load2 Try.isAgg25 Try.sizeOf25 rfl (hB2.ext ((E8.trans E9).trans E10))) ?_
          refine Wo_call rfl (opc1 (a := .agg _) Try.call16 rfl) (k4 _ _ _ ((Mono.mono ((E8.trans E9).trans E10) r3)) ((Mono.mono ((E8.trans E9).trans E10) r4))) ?_; rintro _ w9 ⟨rfl, E11⟩; have hs7 := E11.size; refine Wo rfl (opv_not rfl) ?_
          refine Wo rfl (opv_pick_f (v := .bool _) rfl rfl) ?_; refine Wo_nil ?_; refine W_cond rfl (fun h4 => ?_) (fun h4 => ?_); contradiction; refine W_skip ?_; refine W_seq ?_
        clear stop9
        have heldS : w5 = w5 := rfl
        focus
          have szE11 := E11.size; have szE10 := E10.size; have szE9 := E9.size; have szE8 := E8.size; have szE7 := E7.size; have szE6 := E6.size; have szE5 := E5.size; have szE4 := E4.size; have szE3 := E3.size; have szE2 := E2.size
          have szE1 := E1.size; refine W_held (fun w' => Ext w5 w') mixed rfl (by kernel_rfl) ?_; intro w10 E12 K3 hz3; have hs8 := E12.size
          refine Wh_take 0 rfl (by kernel_rfl) (by kernel_rfl) rfl (fun _ _ => opv_move (v := .bool _) rfl) ((((E8.trans E9).trans E10).trans E11).trans E12) ?_
          refine Wh_take (v := .agg _) 1 rfl (by kernel_rfl) (by kernel_rfl) rfl (fun w' hw' => opv_load2 Try.isAgg25 Try.sizeOf25 rfl (hB1.ext hw')) ((((E8.trans E9).trans E10).trans E11).trans E12) ?_
          refine Wh_take (v := .agg _) 3 rfl (by kernel_rfl) (by kernel_rfl) rfl (fun w' hw' => opv_load2 Try.isAgg25 Try.sizeOf25 rfl (hB2.ext hw')) ((((E8.trans E9).trans E10).trans E11).trans E12) ?_
          refine Wh_all (rs := [2]) (by kernel_rfl) rfl ?_; refine WhAll_cons rfl ?_ ?_
          refine Wo_call rfl (opc1 (a := .agg _) Try.call19 rfl) (hsh _ _ _ ((Mono.mono ((((E8.trans E9).trans E10).trans E11).trans E12) r1)) ((Mono.mono ((((E8.trans E9).trans E10).trans E11).trans E12) r2))) ?_
          rintro _ w11 ⟨u2, q2, rfl, E13, hO2, hQ2, hd1⟩; have icu2 := OwnedB.isC (Owned.toB hO2); have cpu2 := OwnedB.capOk (Owned.toB hO2); have icq2 := OwnedB.isC (Owned.toB hQ2); have cpq2 := OwnedB.capOk (Owned.toB hQ2)
          have hs9 := E13.size; refine Wo_nil ?_; refine ⟨(((((E8.trans E9).trans E10).trans E11).trans E12).trans E13), ?_⟩; refine Wh_all (rs := [4]) (by kernel_rfl) rfl ?_; refine WhAll_cons rfl ?_ ?_
          refine Wo_call rfl (opc1 (a := .agg _) Try.call19 rfl) (hsh' _ _ _ ((Mono.mono (((((E8.trans E9).trans E10).trans E11).trans E12).trans E13) r3)) ((Mono.mono (((((E8.trans E9).trans E10).trans E11).trans E12).trans E13) r4))) ?_
          rintro _ w12 ⟨u3, q3, rfl, E14, hO3, hQ3, hd2⟩; have icu3 := OwnedB.isC (Owned.toB hO3); have cpu3 := OwnedB.capOk (Owned.toB hO3); have icq3 := OwnedB.isC (Owned.toB hQ3); have cpq3 := OwnedB.capOk (Owned.toB hQ3)
          have hs10 := E14.size; refine Wo_nil ?_; refine ⟨((((((E8.trans E9).trans E10).trans E11).trans E12).trans E13).trans E14), ?_⟩; refine Wh_all (rs := [5]) (by kernel_rfl) rfl ?_; refine WhAll_cons rfl ?_ ?_
          refine Wo_call rfl (opc2 (a := .agg _) (b := .agg _) Try.call18 rfl rfl) (same_str _ _ _ _ _ _ _ ((Mono.mono E14 (Owned.read hO2))) ((Mono.mono E14 (Owned.read hQ2))) ((Owned.read hO3)) ((Owned.read hQ3))) ?_
          rintro _ w13 ⟨rfl, E15⟩; have hs11 := E15.size; refine Wo_nil ?_; refine ⟨(((((((E8.trans E9).trans E10).trans E11).trans E12).trans E13).trans E14).trans E15), ?_⟩
          refine Wh_take 6 rfl (by kernel_rfl) (by kernel_rfl) rfl (fun _ _ => opv_eql_bool Try.underlying4 rfl rfl) (((((((E8.trans E9).trans E10).trans E11).trans E12).trans E13).trans E14).trans E15) ?_
          refine Wh_take 7 rfl (by kernel_rfl) (by kernel_rfl) rfl (fun _ _ => opv_move (v := .bool _) rfl) (((((((E8.trans E9).trans E10).trans E11).trans E12).trans E13).trans E14).trans E15) ?_
          refine Wh_take 8 rfl (by kernel_rfl) (by kernel_rfl) rfl (fun _ _ => opv_move (v := .bool _) rfl) (((((((E8.trans E9).trans E10).trans E11).trans E12).trans E13).trans E14).trans E15) ?_
          refine Wh_take 9 rfl (by kernel_rfl) (by kernel_rfl) rfl (fun _ _ => opv_not rfl) (((((((E8.trans E9).trans E10).trans E11).trans E12).trans E13).trans E14).trans E15) ?_
          refine Wh_take 10 rfl (by kernel_rfl) (by kernel_rfl) rfl (fun _ _ => opv_move (v := .bool _) rfl) (((((((E8.trans E9).trans E10).trans E11).trans E12).trans E13).trans E14).trans E15) ?_
          refine Wh_take (v := .agg _) 11 rfl (by kernel_rfl) (by kernel_rfl) rfl (fun w' hw' => opv_load2 Try.isAgg25 Try.sizeOf25 rfl (hB1.ext hw')) (((((((E8.trans E9).trans E10).trans E11).trans E12).trans E13).trans E14).trans E15) ?_
          refine Wh_take (v := .agg _) 13 rfl (by kernel_rfl) (by kernel_rfl) rfl (fun w' hw' => opv_load2 Try.isAgg25 Try.sizeOf25 rfl (hB2.ext hw')) (((((((E8.trans E9).trans E10).trans E11).trans E12).trans E13).trans E14).trans E15) ?_
          refine Wh_all (rs := [12]) (by kernel_rfl) rfl ?_; refine WhAll_cons rfl ?_ ?_
          refine Wo_call rfl (opc2 (a := .agg _) (b := .int _ _) Try.call20 rfl rfl) (k7 _ _ _ ((Mono.mono (((((((E8.trans E9).trans E10).trans E11).trans E12).trans E13).trans E14).trans E15) r1)) ((Mono.mono (((((((E8.trans E9).trans E10).trans E11).trans E12).trans E13).trans E14).trans E15) r2))) ?_
          rintro _ w14 ⟨u4, q4, rfl, E16, hO4, hQ4, hd3⟩; have icu4 := OwnedB.isC (Owned.toB hO4); have cpu4 := OwnedB.capOk (Owned.toB hO4); have icq4 := OwnedB.isC (Owned.toB hQ4); have cpq4 := OwnedB.capOk (Owned.toB hQ4)
          have hs12 := E16.size; refine Wo_nil ?_; refine ⟨((((((((E8.trans E9).trans E10).trans E11).trans E12).trans E13).trans E14).trans E15).trans E16), ?_⟩; refine Wh_all (rs := [14]) (by kernel_rfl) rfl ?_; refine WhAll_cons rfl ?_ ?_
          refine Wo_call rfl (opc2 (a := .agg _) (b := .int _ _) Try.call20 rfl rfl) (k8 _ _ _ ((Mono.mono ((((((((E8.trans E9).trans E10).trans E11).trans E12).trans E13).trans E14).trans E15).trans E16) r3)) ((Mono.mono ((((((((E8.trans E9).trans E10).trans E11).trans E12).trans E13).trans E14).trans E15).trans E16) r4))) ?_
          rintro _ w15 ⟨u5, q5, rfl, E17, hO5, hQ5, hd4⟩; have icu5 := OwnedB.isC (Owned.toB hO5); have cpu5 := OwnedB.capOk (Owned.toB hO5); have icq5 := OwnedB.isC (Owned.toB hQ5); have cpq5 := OwnedB.capOk (Owned.toB hQ5)
          have hs13 := E17.size; refine Wo_nil ?_; refine ⟨(((((((((E8.trans E9).trans E10).trans E11).trans E12).trans E13).trans E14).trans E15).trans E16).trans E17), ?_⟩; refine Wh_all (rs := [15]) (by kernel_rfl) rfl ?_
          refine WhAll_cons rfl ?_ ?_; refine Wo_call rfl (opc2 (a := .agg _) (b := .agg _) Try.call14 rfl rfl) (k9 _ _ _ _ _ ((Mono.mono E17 (Owned.read hO4))) ((Mono.mono E17 (Owned.read hQ4))) ((Owned.read hO5)) ((Owned.read hQ5))) ?_
          rintro _ w16 ⟨rfl, E18⟩; have hs14 := E18.size; refine Wo_nil ?_; refine ⟨((((((((((E8.trans E9).trans E10).trans E11).trans E12).trans E13).trans E14).trans E15).trans E16).trans E17).trans E18), ?_⟩
          refine Wh_take 16 rfl (by kernel_rfl) (by kernel_rfl) rfl (fun _ _ => opv_pick_f (v := .bool _) rfl rfl) ((((((((((E8.trans E9).trans E10).trans E11).trans E12).trans E13).trans E14).trans E15).trans E16).trans E17).trans E18) ?_
          refine Wh_take 17 rfl (by kernel_rfl) (by kernel_rfl) rfl (fun _ _ => opv_pick_t (v := .bool _) rfl rfl) ((((((((((E8.trans E9).trans E10).trans E11).trans E12).trans E13).trans E14).trans E15).trans E16).trans E17).trans E18) ?_
          refine Wh_take 18 rfl (by kernel_rfl) (by kernel_rfl) rfl (fun _ _ => opv_move (v := .bool _) rfl) ((((((((((E8.trans E9).trans E10).trans E11).trans E12).trans E13).trans E14).trans E15).trans E16).trans E17).trans E18) ?_
          refine Wh_all (rs := [19]) (by kernel_rfl) rfl ?_; refine WhAll_cons rfl ?_ ?_; refine Wo_call rfl (opc0 Try.call17) (alive_ok _) ?_; rintro _ w17 ⟨rfl, E19⟩; have hs15 := E19.size; refine Wo_nil ?_
          refine ⟨(((((((((((E8.trans E9).trans E10).trans E11).trans E12).trans E13).trans E14).trans E15).trans E16).trans E17).trans E18).trans E19), ?_⟩
          refine Wh_take 20 rfl (by kernel_rfl) (by kernel_rfl) rfl (fun _ _ => opv_pick_t (v := .bool _) rfl rfl) (((((((((((E8.trans E9).trans E10).trans E11).trans E12).trans E13).trans E14).trans E15).trans E16).trans E17).trans E18).trans E19) ?_
          refine Wh_take 21 rfl (by kernel_rfl) (by kernel_rfl) rfl (fun _ _ => opv_assign (v := .bool _) rfl) (((((((((((E8.trans E9).trans E10).trans E11).trans E12).trans E13).trans E14).trans E15).trans E16).trans E17).trans E18).trans E19) ?_
          refine Wh_done (by kernel_rfl) ?_; refine W_ret ?_; exact ⟨rfl, ((((((((((((E6.trans E8).trans E9).trans E10).trans E11).trans E12).trans E13).trans E14).trans E15).trans E16).trans E17).trans E18).trans E19)⟩; exact WhAll_nil
          exact WhAll_nil; exact WhAll_nil; exact WhAll_nil; exact WhAll_nil; exact WhAll_nil; exact WhAll_nil
      · obtain ⟨k1, k2⟩ := hI false (decide_eq_false (fun h => hf h.2.2))
        have hne := fun h => hf ((sh_iff hs hs').1 h)
        have k7 : ∀ (w : World) (u1 u2 v1 v2 : Value), Ints w u1 (shL (bat x1 y1)) → Ints w u2 (shR (bat x1 y1)) → Ints w v1 (shL (bat x'1 y'1)) → Ints w v2 (shR (bat x'1 y'1)) → Does Try.prog 18 [.agg #[u1, u2], .agg #[v1, v2]] w (Ret w (.bool false)) := fun w u1 u2 v1 v2 h1 h2 h3 h4 => by
          have := sameStream_ok w u1 u2 v1 v2 _ _ _ _ h1 h2 h3 h4
          rw [show (decide (shL (bat x1 y1) = shL (bat x'1 y'1)) && decide (shR (bat x1 y1) = shR (bat x'1 y'1))) = false by
            rw [Bool.eq_false_iff]
            intro h
            rw [Bool.and_eq_true, decide_eq_true_iff, decide_eq_true_iff] at h
            exact hne h] at this
          exact this
        clear hI hok hok' hf hne
        generalize shL (bat x1 y1) = X at *
        generalize shR (bat x1 y1) = Y at *
        generalize shL (bat x'1 y'1) = Z at *
        generalize shR (bat x'1 y'1) = T at *
        have stop9 : True := trivial
        focus
          have szE7 := E7.size; have szE6 := E6.size; have szE5 := E5.size; have szE4 := E4.size; have szE3 := E3.size; have szE2 := E2.size; have szE1 := E1.size; refine W_region rfl ?_
          refine Wo (v := .agg _) rfl (opv_load2 Try.isAgg25 Try.sizeOf25 rfl hB1) ?_; refine Wo (v := .agg _) rfl (opv_load2 Try.isAgg25 Try.sizeOf25 rfl hB2) ?_
          refine Wo_call rfl (opc2 (a := .agg _) (b := .agg _) Try.call14 rfl rfl) (k1 _ _ _ _ _ (r1) (r2) (r3) (r4)) ?_; rintro _ w6 ⟨rfl, E8⟩; have hs4 := E8.size; refine Wo rfl (opv_assign (v := .bool _) rfl) ?_; refine Wo_nil ?_
          refine W_seq ?_; refine W_seq ?_; refine W_region rfl ?_; refine Wo rfl (opv_move (v := .bool _) rfl) ?_; refine Wo (v := .agg _) rfl (opv_load2 Try.isAgg25 Try.sizeOf25 rfl (hB1.ext E8)) ?_
          refine Wo (v := .agg _) rfl (opv_load2 Try.isAgg25 Try.sizeOf25 rfl (hB2.ext E8)) ?_
          refine Wo_call rfl (opc2 (a := .agg _) (b := .agg _) Try.call15 rfl rfl) (k2 _ _ _ _ _ ((Mono.mono E8 r1)) ((Mono.mono E8 r2)) ((Mono.mono E8 r3)) ((Mono.mono E8 r4))) ?_; rintro _ w7 ⟨rfl, E9⟩; have hs5 := E9.size
          refine Wo rfl (opv_neq_bool Try.underlying4 rfl rfl) ?_; refine Wo_nil ?_; refine W_cond_ndec rfl (fun h2 => ?_) (fun h2 => ?_); contradiction; refine W_skip ?_; refine W_seq ?_; refine W_seq ?_; refine W_region rfl ?_
          refine Wo (v := .agg _) rfl (opv_load2 Try.isAgg25 Try.sizeOf25 rfl (hB1.ext (E8.trans E9))) ?_; refine Wo_call rfl (opc1 (a := .agg _) Try.call16 rfl) (k3 _ _ _ ((Mono.mono (E8.trans E9) r1)) ((Mono.mono (E8.trans E9) r2))) ?_
          rintro _ w8 ⟨rfl, E10⟩; have hs6 := E10.size; refine Wo rfl (opv_not rfl) ?_; refine Wo_split rfl (opv_move (v := .bool _) rfl) (fun h3 => ?_) (fun h3 => ?_); contradiction
          refine Wo (v := .agg _) rfl (opv_load2 Try.isAgg25 Try.sizeOf25 rfl (hB2.ext ((E8.trans E9).trans E10))) ?_
          refine Wo_call rfl (opc1 (a := .agg _) Try.call16 rfl) (k4 _ _ _ ((Mono.mono ((E8.trans E9).trans E10) r3)) ((Mono.mono ((E8.trans E9).trans E10) r4))) ?_; rintro _ w9 ⟨rfl, E11⟩; have hs7 := E11.size; refine Wo rfl (opv_not rfl) ?_
          refine Wo rfl (opv_pick_f (v := .bool _) rfl rfl) ?_; refine Wo_nil ?_; refine W_cond rfl (fun h4 => ?_) (fun h4 => ?_); contradiction; refine W_skip ?_; refine W_seq ?_
        clear stop9
        have heldS : w5 = w5 := rfl
        focus
          have szE11 := E11.size; have szE10 := E10.size; have szE9 := E9.size; have szE8 := E8.size; have szE7 := E7.size; have szE6 := E6.size; have szE5 := E5.size; have szE4 := E4.size; have szE3 := E3.size; have szE2 := E2.size
          have szE1 := E1.size; refine W_held (fun w' => Ext w5 w') mixed rfl (by kernel_rfl) ?_; intro w10 E12 K3 hz3; have hs8 := E12.size
          refine Wh_take 0 rfl (by kernel_rfl) (by kernel_rfl) rfl (fun _ _ => opv_move (v := .bool _) rfl) ((((E8.trans E9).trans E10).trans E11).trans E12) ?_
          refine Wh_take (v := .agg _) 1 rfl (by kernel_rfl) (by kernel_rfl) rfl (fun w' hw' => opv_load2 Try.isAgg25 Try.sizeOf25 rfl (hB1.ext hw')) ((((E8.trans E9).trans E10).trans E11).trans E12) ?_
          refine Wh_take (v := .agg _) 3 rfl (by kernel_rfl) (by kernel_rfl) rfl (fun w' hw' => opv_load2 Try.isAgg25 Try.sizeOf25 rfl (hB2.ext hw')) ((((E8.trans E9).trans E10).trans E11).trans E12) ?_
          refine Wh_all (rs := [2]) (by kernel_rfl) rfl ?_; refine WhAll_cons rfl ?_ ?_
          refine Wo_call rfl (opc1 (a := .agg _) Try.call19 rfl) (hsh _ _ _ ((Mono.mono ((((E8.trans E9).trans E10).trans E11).trans E12) r1)) ((Mono.mono ((((E8.trans E9).trans E10).trans E11).trans E12) r2))) ?_
          rintro _ w11 ⟨u2, q2, rfl, E13, hO2, hQ2, hd1⟩; have icu2 := OwnedB.isC (Owned.toB hO2); have cpu2 := OwnedB.capOk (Owned.toB hO2); have icq2 := OwnedB.isC (Owned.toB hQ2); have cpq2 := OwnedB.capOk (Owned.toB hQ2)
          have hs9 := E13.size; refine Wo_nil ?_; refine ⟨(((((E8.trans E9).trans E10).trans E11).trans E12).trans E13), ?_⟩; refine Wh_all (rs := [4]) (by kernel_rfl) rfl ?_; refine WhAll_cons rfl ?_ ?_
          refine Wo_call rfl (opc1 (a := .agg _) Try.call19 rfl) (hsh' _ _ _ ((Mono.mono (((((E8.trans E9).trans E10).trans E11).trans E12).trans E13) r3)) ((Mono.mono (((((E8.trans E9).trans E10).trans E11).trans E12).trans E13) r4))) ?_
          rintro _ w12 ⟨u3, q3, rfl, E14, hO3, hQ3, hd2⟩; have icu3 := OwnedB.isC (Owned.toB hO3); have cpu3 := OwnedB.capOk (Owned.toB hO3); have icq3 := OwnedB.isC (Owned.toB hQ3); have cpq3 := OwnedB.capOk (Owned.toB hQ3)
          have hs10 := E14.size; refine Wo_nil ?_; refine ⟨((((((E8.trans E9).trans E10).trans E11).trans E12).trans E13).trans E14), ?_⟩; refine Wh_all (rs := [5]) (by kernel_rfl) rfl ?_; refine WhAll_cons rfl ?_ ?_
          refine Wo_call rfl (opc2 (a := .agg _) (b := .agg _) Try.call18 rfl rfl) (k7 _ _ _ _ _ ((Mono.mono E14 (Owned.read hO2))) ((Mono.mono E14 (Owned.read hQ2))) ((Owned.read hO3)) ((Owned.read hQ3))) ?_; rintro _ w13 ⟨rfl, E15⟩
          have hs11 := E15.size; refine Wo_nil ?_; refine ⟨(((((((E8.trans E9).trans E10).trans E11).trans E12).trans E13).trans E14).trans E15), ?_⟩
          refine Wh_take 6 rfl (by kernel_rfl) (by kernel_rfl) rfl (fun _ _ => opv_eql_bool Try.underlying4 rfl rfl) (((((((E8.trans E9).trans E10).trans E11).trans E12).trans E13).trans E14).trans E15) ?_
          refine Wh_take 7 rfl (by kernel_rfl) (by kernel_rfl) rfl (fun _ _ => opv_move (v := .bool _) rfl) (((((((E8.trans E9).trans E10).trans E11).trans E12).trans E13).trans E14).trans E15) ?_
          refine Wh_take 8 rfl (by kernel_rfl) (by kernel_rfl) rfl (fun _ _ => opv_move (v := .bool _) rfl) (((((((E8.trans E9).trans E10).trans E11).trans E12).trans E13).trans E14).trans E15) ?_
          refine Wh_take 9 rfl (by kernel_rfl) (by kernel_rfl) rfl (fun _ _ => opv_not rfl) (((((((E8.trans E9).trans E10).trans E11).trans E12).trans E13).trans E14).trans E15) ?_
          refine Wh_take 10 rfl (by kernel_rfl) (by kernel_rfl) rfl (fun _ _ => opv_move (v := .bool _) rfl) (((((((E8.trans E9).trans E10).trans E11).trans E12).trans E13).trans E14).trans E15) ?_
          refine Wh_skip 11 rfl (by kernel_rfl) (by kernel_rfl) rfl (((((((E8.trans E9).trans E10).trans E11).trans E12).trans E13).trans E14).trans E15) ?_
          refine Wh_skip 12 rfl (by kernel_rfl) (by kernel_rfl) rfl (((((((E8.trans E9).trans E10).trans E11).trans E12).trans E13).trans E14).trans E15) ?_
          refine Wh_skip 13 rfl (by kernel_rfl) (by kernel_rfl) rfl (((((((E8.trans E9).trans E10).trans E11).trans E12).trans E13).trans E14).trans E15) ?_
          refine Wh_skip 14 rfl (by kernel_rfl) (by kernel_rfl) rfl (((((((E8.trans E9).trans E10).trans E11).trans E12).trans E13).trans E14).trans E15) ?_
          refine Wh_skip 15 rfl (by kernel_rfl) (by kernel_rfl) rfl (((((((E8.trans E9).trans E10).trans E11).trans E12).trans E13).trans E14).trans E15) ?_
          refine Wh_take 16 rfl (by kernel_rfl) (by kernel_rfl) rfl (fun _ _ => opv_pick_t (v := .bool _) rfl rfl) (((((((E8.trans E9).trans E10).trans E11).trans E12).trans E13).trans E14).trans E15) ?_
          refine Wh_take 17 rfl (by kernel_rfl) (by kernel_rfl) rfl (fun _ _ => opv_pick_t (v := .bool _) rfl rfl) (((((((E8.trans E9).trans E10).trans E11).trans E12).trans E13).trans E14).trans E15) ?_
          refine Wh_take 18 rfl (by kernel_rfl) (by kernel_rfl) rfl (fun _ _ => opv_move (v := .bool _) rfl) (((((((E8.trans E9).trans E10).trans E11).trans E12).trans E13).trans E14).trans E15) ?_
          refine Wh_all (rs := [19]) (by kernel_rfl) rfl ?_; refine WhAll_cons rfl ?_ ?_; refine Wo_call rfl (opc0 Try.call17) (alive_ok _) ?_; rintro _ w14 ⟨rfl, E16⟩; have hs12 := E16.size; refine Wo_nil ?_
          refine ⟨((((((((E8.trans E9).trans E10).trans E11).trans E12).trans E13).trans E14).trans E15).trans E16), ?_⟩
          refine Wh_take 20 rfl (by kernel_rfl) (by kernel_rfl) rfl (fun _ _ => opv_pick_t (v := .bool _) rfl rfl) ((((((((E8.trans E9).trans E10).trans E11).trans E12).trans E13).trans E14).trans E15).trans E16) ?_
          refine Wh_take 21 rfl (by kernel_rfl) (by kernel_rfl) rfl (fun _ _ => opv_assign (v := .bool _) rfl) ((((((((E8.trans E9).trans E10).trans E11).trans E12).trans E13).trans E14).trans E15).trans E16) ?_
          refine Wh_done (by kernel_rfl) ?_; refine W_ret ?_; exact ⟨rfl, (((((((((E6.trans E8).trans E9).trans E10).trans E11).trans E12).trans E13).trans E14).trans E15).trans E16)⟩; exact WhAll_nil; exact WhAll_nil; exact WhAll_nil
          exact WhAll_nil
    · have k4 := hok' false (decide_eq_false hs')
      obtain ⟨k1, k2⟩ := hI false (decide_eq_false (fun h => hs' h.2.1))
      clear hI hok hok'
      focus
        have szE7 := E7.size; have szE6 := E6.size; have szE5 := E5.size; have szE4 := E4.size; have szE3 := E3.size; have szE2 := E2.size; have szE1 := E1.size; refine W_region rfl ?_
        refine Wo (v := .agg _) rfl (opv_load2 Try.isAgg25 Try.sizeOf25 rfl hB1) ?_; refine Wo (v := .agg _) rfl (opv_load2 Try.isAgg25 Try.sizeOf25 rfl hB2) ?_
        refine Wo_call rfl (opc2 (a := .agg _) (b := .agg _) Try.call14 rfl rfl) (k1 _ _ _ _ _ (r1) (r2) (r3) (r4)) ?_; rintro _ w6 ⟨rfl, E8⟩; have hs4 := E8.size; refine Wo rfl (opv_assign (v := .bool _) rfl) ?_; refine Wo_nil ?_
        refine W_seq ?_; refine W_seq ?_; refine W_region rfl ?_; refine Wo rfl (opv_move (v := .bool _) rfl) ?_; refine Wo (v := .agg _) rfl (opv_load2 Try.isAgg25 Try.sizeOf25 rfl (hB1.ext E8)) ?_
        refine Wo (v := .agg _) rfl (opv_load2 Try.isAgg25 Try.sizeOf25 rfl (hB2.ext E8)) ?_
        refine Wo_call rfl (opc2 (a := .agg _) (b := .agg _) Try.call15 rfl rfl) (k2 _ _ _ _ _ ((Mono.mono E8 r1)) ((Mono.mono E8 r2)) ((Mono.mono E8 r3)) ((Mono.mono E8 r4))) ?_; rintro _ w7 ⟨rfl, E9⟩; have hs5 := E9.size
        refine Wo rfl (opv_neq_bool Try.underlying4 rfl rfl) ?_; refine Wo_nil ?_; refine W_cond_ndec rfl (fun h2 => ?_) (fun h2 => ?_); contradiction; refine W_skip ?_; refine W_seq ?_; refine W_seq ?_; refine W_region rfl ?_
        refine Wo (v := .agg _) rfl (opv_load2 Try.isAgg25 Try.sizeOf25 rfl (hB1.ext (E8.trans E9))) ?_; refine Wo_call rfl (opc1 (a := .agg _) Try.call16 rfl) (k3 _ _ _ ((Mono.mono (E8.trans E9) r1)) ((Mono.mono (E8.trans E9) r2))) ?_
        rintro _ w8 ⟨rfl, E10⟩; have hs6 := E10.size; refine Wo rfl (opv_not rfl) ?_; refine Wo_split rfl (opv_move (v := .bool _) rfl) (fun h3 => ?_) (fun h3 => ?_); contradiction
        refine Wo (v := .agg _) rfl (opv_load2 Try.isAgg25 Try.sizeOf25 rfl (hB2.ext ((E8.trans E9).trans E10))) ?_
        refine Wo_call rfl (opc1 (a := .agg _) Try.call16 rfl) (k4 _ _ _ ((Mono.mono ((E8.trans E9).trans E10) r3)) ((Mono.mono ((E8.trans E9).trans E10) r4))) ?_; rintro _ w9 ⟨rfl, E11⟩; have hs7 := E11.size; refine Wo rfl (opv_not rfl) ?_
        refine Wo rfl (opv_pick_f (v := .bool _) rfl rfl) ?_; refine Wo_nil ?_; refine W_cond rfl (fun h4 => ?_) (fun h4 => ?_); refine W_seq ?_; refine W_region rfl ?_; refine Wo rfl (opv_move (v := .bool _) rfl) ?_
        refine Wo rfl (opv_not rfl) ?_; refine Wo_split rfl (opv_move (v := .bool _) rfl) (fun h5 => ?_) (fun h5 => ?_); refine Wo_call rfl (opc0 Try.call17) (alive_ok _) ?_; rintro _ w10 ⟨rfl, E12⟩; have hs8 := E12.size
        refine Wo rfl (opv_pick_t (v := .bool _) rfl rfl) ?_; refine Wo rfl (opv_assign (v := .bool _) rfl) ?_; refine Wo_nil ?_; refine W_ret ?_; exact ⟨rfl, (((((E6.trans E8).trans E9).trans E10).trans E11).trans E12)⟩; contradiction
        contradiction
  · have k3 := hok false (decide_eq_false hs)
    obtain ⟨k1, k2⟩ := hI false (decide_eq_false (fun h => hs h.1))
    clear hI hok hok'
    focus
      have szE7 := E7.size; have szE6 := E6.size; have szE5 := E5.size; have szE4 := E4.size; have szE3 := E3.size; have szE2 := E2.size; have szE1 := E1.size; refine W_region rfl ?_
      refine Wo (v := .agg _) rfl (opv_load2 Try.isAgg25 Try.sizeOf25 rfl hB1) ?_; refine Wo (v := .agg _) rfl (opv_load2 Try.isAgg25 Try.sizeOf25 rfl hB2) ?_
      refine Wo_call rfl (opc2 (a := .agg _) (b := .agg _) Try.call14 rfl rfl) (k1 _ _ _ _ _ (r1) (r2) (r3) (r4)) ?_; rintro _ w6 ⟨rfl, E8⟩; have hs4 := E8.size; refine Wo rfl (opv_assign (v := .bool _) rfl) ?_; refine Wo_nil ?_
      refine W_seq ?_; refine W_seq ?_; refine W_region rfl ?_; refine Wo rfl (opv_move (v := .bool _) rfl) ?_; refine Wo (v := .agg _) rfl (opv_load2 Try.isAgg25 Try.sizeOf25 rfl (hB1.ext E8)) ?_
      refine Wo (v := .agg _) rfl (opv_load2 Try.isAgg25 Try.sizeOf25 rfl (hB2.ext E8)) ?_
      refine Wo_call rfl (opc2 (a := .agg _) (b := .agg _) Try.call15 rfl rfl) (k2 _ _ _ _ _ ((Mono.mono E8 r1)) ((Mono.mono E8 r2)) ((Mono.mono E8 r3)) ((Mono.mono E8 r4))) ?_; rintro _ w7 ⟨rfl, E9⟩; have hs5 := E9.size
      refine Wo rfl (opv_neq_bool Try.underlying4 rfl rfl) ?_; refine Wo_nil ?_; refine W_cond_ndec rfl (fun h2 => ?_) (fun h2 => ?_); contradiction; refine W_skip ?_; refine W_seq ?_; refine W_seq ?_; refine W_region rfl ?_
      refine Wo (v := .agg _) rfl (opv_load2 Try.isAgg25 Try.sizeOf25 rfl (hB1.ext (E8.trans E9))) ?_; refine Wo_call rfl (opc1 (a := .agg _) Try.call16 rfl) (k3 _ _ _ ((Mono.mono (E8.trans E9) r1)) ((Mono.mono (E8.trans E9) r2))) ?_
      rintro _ w8 ⟨rfl, E10⟩; have hs6 := E10.size; refine Wo rfl (opv_not rfl) ?_; refine Wo_split rfl (opv_move (v := .bool _) rfl) (fun h3 => ?_) (fun h3 => ?_); refine Wo_skip rfl ?_; refine Wo_skip rfl ?_; refine Wo_skip rfl ?_
      refine Wo rfl (opv_pick_t (v := .bool _) rfl rfl) ?_; refine Wo_nil ?_; refine W_cond_true rfl ?_; refine W_seq ?_; refine W_region rfl ?_; refine Wo rfl (opv_move (v := .bool _) rfl) ?_; refine Wo rfl (opv_not rfl) ?_
      refine Wo_split rfl (opv_move (v := .bool _) rfl) (fun h4 => ?_) (fun h4 => ?_); refine Wo_call rfl (opc0 Try.call17) (alive_ok _) ?_; rintro _ w9 ⟨rfl, E11⟩; have hs7 := E11.size
      refine Wo rfl (opv_pick_t (v := .bool _) rfl rfl) ?_; refine Wo rfl (opv_assign (v := .bool _) rfl) ?_; refine Wo_nil ?_; refine W_ret ?_; exact ⟨rfl, ((((E6.trans E8).trans E9).trans E10).trans E11)⟩; contradiction; contradiction

end Go.Proofs.Ytlalfmialbolhaa
