/- Lemmas for FnStreamDrawn. -/
import Derived.Test.YtlalfmialbolhaaMFnStreamDrawn3
import Derived.Shelf.Lay
import Derived.Ground.NamesProg
import Derived.Shelf.Sort.Plain
import Derived.Shelf.Slices.In.SortNone
import Derived.Sort.OwnSortedInts
namespace Go.Proofs.Ytlalfmialbolhaa
open Go.Hs
set_option maxRecDepth 10000
set_option maxHeartbeats 4000000
set_option linter.unusedVariables false
set_option linter.unusedSimpArgs false

theorem sh_iff {A B A' B' : List Int} (hs : Stm A B) (hs' : Stm A' B') : (shL (bat A B) = shL (bat A' B') ∧ shR (bat A B) = shR (bat A' B')) ↔ bat A B = bat A' B' := by
  constructor
  · rintro ⟨h1, h2⟩
    rw [← hs.short_bat, ← hs'.short_bat, h1, h2]
  · intro h; rw [h]; exact ⟨rfl, rfl⟩
theorem impl_SameStreams_ok (w : World) (u1 u2 v1 v2 : Value) (A B A' B' : List Int) (h1 : Ints w u1 A) (h2 : Ints w u2 B) (h3 : Ints w v1 A') (h4 : Ints w v2 B') (hA : A.length ≤ 4000000) (hB : B.length ≤ 4000000) (hA' : A'.length ≤ 4000000) (hB' : B'.length ≤ 4000000) :
    Does Try.prog 14 [.agg #[u1, u2], .agg #[v1, v2]] w (Ret w (.bool (ssV A B A' B'))) := by
  classical
  have hok : ∀ (x : Bool), decide (Stm A B) = x → ∀ (w : World) (u1 u2 : Value), Ints w u1 A → Ints w u2 B → Does Try.prog 54 [.agg #[u1, u2]] w (Ret w (.bool x)) := fun x e w u1 u2 h1 h2 => e ▸ isStream_ok w u1 u2 A B h1 h2 hA hB
  have hok' : ∀ (x : Bool), decide (Stm A' B') = x → ∀ (w : World) (u1 u2 : Value), Ints w u1 A' → Ints w u2 B' → Does Try.prog 54 [.agg #[u1, u2]] w (Ret w (.bool x)) := fun x e w u1 u2 h1 h2 => e ▸ isStream_ok w u1 u2 A' B' h1 h2 hA' hB'
  by_cases hs : Stm A B
  · have k1 := hok true (decide_eq_true hs)
    by_cases hs' : Stm A' B'
    · have k2 := hok' true (decide_eq_true hs')
      have hsl := hs.2.2
      have hsl' := hs'.2.2
      have k3 : ∀ (w : World) (u1 u2 : Value), Ints w u1 A → Ints w u2 B → Does Try.prog 55 [.agg #[u1, u2]] w (RetS2 w 3 (shL (bat A B)) (shR (bat A B))) := fun w u1 u2 h1 h2 => shortOf_ok w u1 u2 A B h1 h2 (by omega) (by omega) (by omega)
      have k4 : ∀ (w : World) (u1 u2 : Value), Ints w u1 A' → Ints w u2 B' → Does Try.prog 55 [.agg #[u1, u2]] w (RetS2 w 3 (shL (bat A' B')) (shR (bat A' B'))) := fun w u1 u2 h1 h2 => shortOf_ok w u1 u2 A' B' h1 h2 (by omega) (by omega) (by omega)
      have hV : ssV A B A' B' = (decide (shL (bat A B) = shL (bat A' B')) && decide (shR (bat A B) = shR (bat A' B'))) := by
        rw [Bool.eq_iff_iff, Bool.and_eq_true, decide_eq_true_iff, decide_eq_true_iff, sh_iff hs hs']
        unfold ssV
        rw [decide_eq_true_iff]
        exact ⟨fun h => h.2.2, fun h => ⟨hs, hs', h⟩⟩
      rw [hV]
      clear hok hok' hV
      generalize shL (bat A B) = X at *
      generalize shR (bat A B) = Y at *
      generalize shL (bat A' B') = Z at *
      generalize shR (bat A' B') = T at *
      refine fn_of_W1 Try.func14 rfl Try.results14 Try.ntmps14 rfl ?_
      have stop3 : True := trivial
      focus
        refine W_seq ?_; refine W_region rfl ?_; refine Wo_box rfl rfl rfl ?_; rintro b1 w1 hb1 E1 hB1; have hlb1 := hB1.lt; have hs1 := E1.size; refine Wo_box rfl rfl rfl ?_; rintro b2 w2 hb2 E2 hB2; have hlb2 := hB2.lt
        have hs2 := E2.size; refine Wo rfl (opv_assign (v := .bool _) rfl) ?_; refine Wo_nil ?_; refine W_seq ?_; refine W_seq ?_; refine W_region rfl ?_; refine Wo (v := .agg _) rfl (opv_load2 Try.isAgg25 Try.sizeOf25 rfl (hB1.ext E2)) ?_
        refine Wo_call rfl (opc1 (a := .agg _) Try.call54 rfl) (k1 _ _ _ ((Mono.mono (E1.trans E2) h1)) ((Mono.mono (E1.trans E2) h2))) ?_; rintro _ w3 ⟨rfl, E3⟩; have hs3 := E3.size; refine Wo rfl (opv_not rfl) ?_
        refine Wo_split rfl (opv_move (v := .bool _) rfl) (fun h5 => ?_) (fun h5 => ?_); contradiction; refine Wo (v := .agg _) rfl (opv_load2 Try.isAgg25 Try.sizeOf25 rfl (hB2.ext E3)) ?_
        refine Wo_call rfl (opc1 (a := .agg _) Try.call54 rfl) (k2 _ _ _ ((Mono.mono ((E1.trans E2).trans E3) h3)) ((Mono.mono ((E1.trans E2).trans E3) h4))) ?_; rintro _ w4 ⟨rfl, E4⟩; have hs4 := E4.size; refine Wo rfl (opv_not rfl) ?_
        refine Wo rfl (opv_pick_f (v := .bool _) rfl rfl) ?_; refine Wo_nil ?_; refine W_cond rfl (fun h6 => ?_) (fun h6 => ?_); contradiction; refine W_skip ?_; refine W_seq ?_
      clear stop3
      have heldS : w4 = w4 := rfl
      refine W_mid [15, 16, 17, 18, 5, 6] (fun ((b6, b7, _) : Nat × Nat × Value × Value × Value × Value) => [(5, .pointer (some ⟨b6, 0, none⟩)), (6, .pointer (some ⟨b7, 0, none⟩))]) (fun (b6, b7, x1, x2, y1, y2) w' => Ext w4 w' ∧ Blk w' b6 [x1, x2] ∧ Blk w' b7 [y1, y2] ∧ Ints w' x1 X ∧ Ints w' x2 Y ∧ Ints w' y1 Z ∧ Ints w' y2 T) ?_ ?_
      · focus
          have szE4 := E4.size; have szE3 := E3.size; have szE2 := E2.size; have szE1 := E1.size; refine W_held (fun w' => Ext w4 w') mixed rfl (by kernel_rfl) ?_; intro w5 E5 K1 hz1; have hs5 := E5.size
          refine Wh_take (v := .agg _) 0 rfl (by kernel_rfl) (by kernel_rfl) rfl (fun w' hw' => opv_load2 Try.isAgg25 Try.sizeOf25 rfl (hB1.ext (((E2.trans E3).trans E4).trans hw'))) E5 ?_
          refine Wh_take (v := .agg _) 2 rfl (by kernel_rfl) (by kernel_rfl) rfl (fun w' hw' => opv_load2 Try.isAgg25 Try.sizeOf25 rfl (hB2.ext ((E3.trans E4).trans hw'))) E5 ?_; refine Wh_all (rs := [1, 4, 5]) (by kernel_rfl) rfl ?_
          refine WhAll_cons rfl ?_ ?_; refine Wo_call rfl (opc1 (a := .agg _) Try.call55 rfl) (k3 _ _ _ ((Mono.mono ((((E1.trans E2).trans E3).trans E4).trans E5) h1)) ((Mono.mono ((((E1.trans E2).trans E3).trans E4).trans E5) h2))) ?_
          rintro _ w6 ⟨u3, q1, rfl, E6, hO1, hQ1, hd1⟩; have icu3 := OwnedB.isC (Owned.toB hO1); have cpu3 := OwnedB.capOk (Owned.toB hO1); have icq1 := OwnedB.isC (Owned.toB hQ1); have cpq1 := OwnedB.capOk (Owned.toB hQ1)
          have hs6 := E6.size; refine Wo_nil ?_; refine ⟨(E5.trans E6), ?_⟩; refine Wh_all (rs := [3, 4, 5]) (by kernel_rfl) rfl ?_; refine WhAll_cons rfl ?_ ?_
          refine Wo_call rfl (opc1 (a := .agg _) Try.call55 rfl) (k4 _ _ _ ((Mono.mono (((((E1.trans E2).trans E3).trans E4).trans E5).trans E6) h3)) ((Mono.mono (((((E1.trans E2).trans E3).trans E4).trans E5).trans E6) h4))) ?_
          rintro _ w7 ⟨u4, q2, rfl, E7, hO2, hQ2, hd2⟩; have icu4 := OwnedB.isC (Owned.toB hO2); have cpu4 := OwnedB.capOk (Owned.toB hO2); have icq2 := OwnedB.isC (Owned.toB hQ2); have cpq2 := OwnedB.capOk (Owned.toB hQ2)
          have hs7 := E7.size; refine Wo_nil ?_; refine ⟨((E5.trans E6).trans E7), ?_⟩; refine Wh_all (rs := [4, 5]) (by kernel_rfl) rfl ?_; refine WhAll_cons rfl ?_ ?_; refine Wo_alloc2 rfl flat25 ?_; rintro b3 w8 hb3 E8 hB3
          have hlb3 := hB3.lt; have hs8 := E8.size; refine Wo_nil ?_; refine ⟨(((E5.trans E6).trans E7).trans E8), ?_⟩; refine Wh_all (rs := [5]) (by kernel_rfl) rfl ?_; refine WhAll_cons rfl ?_ ?_; refine Wo_alloc2 rfl flat25 ?_
          rintro b4 w9 hb4 E9 hB4; have hlb4 := hB4.lt; have hs9 := E9.size; refine Wo_nil ?_; refine ⟨((((E5.trans E6).trans E7).trans E8).trans E9), ?_⟩; refine Wh_all (rs := [6]) (by kernel_rfl) rfl ?_; refine WhAll_cons rfl ?_ ?_
          refine Wo_st2 rfl Try.sizeOf25 rfl rfl (by first | rfl | assumption) (by first | rfl | assumption) (hB3.ext E9) (by omega) ((((((((E1.trans E2).trans E3).trans E4).trans E5).trans E6).trans E7).trans E8).trans E9) ?_
          rintro w10 E10 hB3 K2 hz2
          have E11 := (((((((E2.trans E3).trans E4).trans E5).trans E6).trans E7).trans E8).trans E9).wroteAt ((((((((E1.trans E2).trans E3).trans E4).trans E5).trans E6).trans E7).trans E8).trans E9) E10 K2 hz2 (by omega)
          have szE11 := E11.size; have E12 := ((((((E3.trans E4).trans E5).trans E6).trans E7).trans E8).trans E9).wroteAt ((((((((E1.trans E2).trans E3).trans E4).trans E5).trans E6).trans E7).trans E8).trans E9) E10 K2 hz2 (by omega)
          have szE12 := E12.size; have E13 := (((((E4.trans E5).trans E6).trans E7).trans E8).trans E9).wroteAt ((((((((E1.trans E2).trans E3).trans E4).trans E5).trans E6).trans E7).trans E8).trans E9) E10 K2 hz2 (by omega)
          have szE13 := E13.size; have E14 := ((((E5.trans E6).trans E7).trans E8).trans E9).wroteAt ((((((((E1.trans E2).trans E3).trans E4).trans E5).trans E6).trans E7).trans E8).trans E9) E10 K2 hz2 (by omega); have szE14 := E14.size
          have E15 := (((E6.trans E7).trans E8).trans E9).wroteAt ((((((((E1.trans E2).trans E3).trans E4).trans E5).trans E6).trans E7).trans E8).trans E9) E10 K2 hz2 (by omega); have szE15 := E15.size
          have E16 := ((E7.trans E8).trans E9).wroteAt ((((((((E1.trans E2).trans E3).trans E4).trans E5).trans E6).trans E7).trans E8).trans E9) E10 K2 hz2 (by omega); have szE16 := E16.size
          have E17 := (E8.trans E9).wroteAt ((((((((E1.trans E2).trans E3).trans E4).trans E5).trans E6).trans E7).trans E8).trans E9) E10 K2 hz2 (by omega); have szE17 := E17.size
          have hB1 := (hB1.ext (((((((E2.trans E3).trans E4).trans E5).trans E6).trans E7).trans E8).trans E9)).of_heap (K2 _ (by omega))
          have hB2 := (hB2.ext ((((((E3.trans E4).trans E5).trans E6).trans E7).trans E8).trans E9)).of_heap (K2 _ (by omega)); have hO1 := (hO1.toB.ext ((E7.trans E8).trans E9)).wrote K2 (by omega)
          have hQ1 := (hQ1.toB.ext ((E7.trans E8).trans E9)).wrote K2 (by omega); have hO2 := (hO2.toB.ext (E8.trans E9)).wrote K2 (by omega); have hQ2 := (hQ2.toB.ext (E8.trans E9)).wrote K2 (by omega)
          have hB4 := hB4.of_heap (K2 _ (by omega)); refine Wo_nil ?_; refine ⟨E14, ?_⟩; refine Wh_all (rs := [7]) (by kernel_rfl) rfl ?_; refine WhAll_cons rfl ?_ ?_
          refine Wo_st2 rfl Try.sizeOf25 rfl rfl (by first | rfl | assumption) (by first | rfl | assumption) hB4 (by omega) E10 ?_; rintro w11 E18 hB4 K3 hz3; have E19 := E11.wroteAt E10 E18 K3 hz3 (by omega); have szE19 := E19.size
          have E20 := E12.wroteAt E10 E18 K3 hz3 (by omega); have szE20 := E20.size; have E21 := E13.wroteAt E10 E18 K3 hz3 (by omega); have szE21 := E21.size; have E22 := E14.wroteAt E10 E18 K3 hz3 (by omega); have szE22 := E22.size
          have E23 := E15.wroteAt E10 E18 K3 hz3 (by omega); have szE23 := E23.size; have E24 := E16.wroteAt E10 E18 K3 hz3 (by omega); have szE24 := E24.size; have E25 := E17.wroteAt E10 E18 K3 hz3 (by omega); have szE25 := E25.size
          have hB3 := hB3.of_heap (K3 _ (by omega)); have hB1 := hB1.of_heap (K3 _ (by omega)); have hB2 := hB2.of_heap (K3 _ (by omega)); have hO1 := hO1.wrote K3 (by omega); have hQ1 := hQ1.wrote K3 (by omega)
          have hO2 := hO2.wrote K3 (by omega); have hQ2 := hQ2.wrote K3 (by omega); refine Wo_nil ?_; refine ⟨E22, ?_⟩; refine Wh_done (by kernel_rfl) ?_; rotate_left; exact WhAll_nil; exact WhAll_nil; exact WhAll_nil
          refine WhAll_cons rfl ?_ ?_; refine Wo_alloc2 rfl flat25 ?_; rintro b3 w8 hb3 E8 hB3; have hlb3 := hB3.lt; have hs8 := E8.size; refine Wo_nil ?_; refine ⟨(((E5.trans E6).trans E7).trans E8), ?_⟩
          refine Wh_all (rs := [4]) (by kernel_rfl) rfl ?_; refine WhAll_cons rfl ?_ ?_; refine Wo_alloc2 rfl flat25 ?_; rintro b4 w9 hb4 E9 hB4; have hlb4 := hB4.lt; have hs9 := E9.size; refine Wo_nil ?_
          refine ⟨((((E5.trans E6).trans E7).trans E8).trans E9), ?_⟩; refine Wh_all (rs := [6]) (by kernel_rfl) rfl ?_; refine WhAll_cons rfl ?_ ?_
          refine Wo_st2 rfl Try.sizeOf25 rfl rfl (by first | rfl | assumption) (by first | rfl | assumption) hB4 (by omega) ((((((((E1.trans E2).trans E3).trans E4).trans E5).trans E6).trans E7).trans E8).trans E9) ?_
          rintro w10 E10 hB4 K2 hz2
          have E11 := (((((((E2.trans E3).trans E4).trans E5).trans E6).trans E7).trans E8).trans E9).wroteAt ((((((((E1.trans E2).trans E3).trans E4).trans E5).trans E6).trans E7).trans E8).trans E9) E10 K2 hz2 (by omega)
          have szE11 := E11.size; have E12 := ((((((E3.trans E4).trans E5).trans E6).trans E7).trans E8).trans E9).wroteAt ((((((((E1.trans E2).trans E3).trans E4).trans E5).trans E6).trans E7).trans E8).trans E9) E10 K2 hz2 (by omega)
          have szE12 := E12.size; have E13 := (((((E4.trans E5).trans E6).trans E7).trans E8).trans E9).wroteAt ((((((((E1.trans E2).trans E3).trans E4).trans E5).trans E6).trans E7).trans E8).trans E9) E10 K2 hz2 (by omega)
          have szE13 := E13.size; have E14 := ((((E5.trans E6).trans E7).trans E8).trans E9).wroteAt ((((((((E1.trans E2).trans E3).trans E4).trans E5).trans E6).trans E7).trans E8).trans E9) E10 K2 hz2 (by omega); have szE14 := E14.size
          have E15 := (((E6.trans E7).trans E8).trans E9).wroteAt ((((((((E1.trans E2).trans E3).trans E4).trans E5).trans E6).trans E7).trans E8).trans E9) E10 K2 hz2 (by omega); have szE15 := E15.size
          have E16 := ((E7.trans E8).trans E9).wroteAt ((((((((E1.trans E2).trans E3).trans E4).trans E5).trans E6).trans E7).trans E8).trans E9) E10 K2 hz2 (by omega); have szE16 := E16.size
          have E17 := (E8.trans E9).wroteAt ((((((((E1.trans E2).trans E3).trans E4).trans E5).trans E6).trans E7).trans E8).trans E9) E10 K2 hz2 (by omega); have szE17 := E17.size
          have E18 := E9.wroteAt ((((((((E1.trans E2).trans E3).trans E4).trans E5).trans E6).trans E7).trans E8).trans E9) E10 K2 hz2 (by omega); have szE18 := E18.size
          have hB1 := (hB1.ext (((((((E2.trans E3).trans E4).trans E5).trans E6).trans E7).trans E8).trans E9)).of_heap (K2 _ (by omega))
          have hB2 := (hB2.ext ((((((E3.trans E4).trans E5).trans E6).trans E7).trans E8).trans E9)).of_heap (K2 _ (by omega)); have hO1 := (hO1.toB.ext ((E7.trans E8).trans E9)).wrote K2 (by omega)
          have hQ1 := (hQ1.toB.ext ((E7.trans E8).trans E9)).wrote K2 (by omega); have hO2 := (hO2.toB.ext (E8.trans E9)).wrote K2 (by omega); have hQ2 := (hQ2.toB.ext (E8.trans E9)).wrote K2 (by omega)
          have hB3 := (hB3.ext E9).of_heap (K2 _ (by omega)); refine Wo_nil ?_; refine ⟨E14, ?_⟩; refine Wh_all (rs := [7]) (by kernel_rfl) rfl ?_; refine WhAll_cons rfl ?_ ?_
          refine Wo_st2 rfl Try.sizeOf25 rfl rfl (by first | rfl | assumption) (by first | rfl | assumption) hB3 (by omega) E10 ?_; rintro w11 E19 hB3 K3 hz3; have E20 := E11.wroteAt E10 E19 K3 hz3 (by omega); have szE20 := E20.size
          have E21 := E12.wroteAt E10 E19 K3 hz3 (by omega); have szE21 := E21.size; have E22 := E13.wroteAt E10 E19 K3 hz3 (by omega); have szE22 := E22.size; have E23 := E14.wroteAt E10 E19 K3 hz3 (by omega); have szE23 := E23.size
          have E24 := E15.wroteAt E10 E19 K3 hz3 (by omega); have szE24 := E24.size; have E25 := E16.wroteAt E10 E19 K3 hz3 (by omega); have szE25 := E25.size; have E26 := E17.wroteAt E10 E19 K3 hz3 (by omega); have szE26 := E26.size
          have hB4 := hB4.of_heap (K3 _ (by omega)); have hB1 := hB1.of_heap (K3 _ (by omega)); have hB2 := hB2.of_heap (K3 _ (by omega)); have hO1 := hO1.wrote K3 (by omega); have hQ1 := hQ1.wrote K3 (by omega)
          have hO2 := hO2.wrote K3 (by omega); have hQ2 := hQ2.wrote K3 (by omega); refine Wo_nil ?_; refine ⟨E23, ?_⟩; refine Wh_done (by kernel_rfl) ?_; rotate_left; exact WhAll_nil; exact WhAll_nil; exact WhAll_nil; exact WhAll_nil
          refine WhAll_cons rfl ?_ ?_; refine Wo_alloc2 rfl flat25 ?_; rintro b3 w7 hb3 E7 hB3; have hlb3 := hB3.lt; have hs7 := E7.size; refine Wo_nil ?_; refine ⟨((E5.trans E6).trans E7), ?_⟩
          refine Wh_all (rs := [3, 5]) (by kernel_rfl) rfl ?_; refine WhAll_cons rfl ?_ ?_
          refine Wo_call rfl (opc1 (a := .agg _) Try.call55 rfl) (k4 _ _ _ ((Mono.mono ((((((E1.trans E2).trans E3).trans E4).trans E5).trans E6).trans E7) h3)) ((Mono.mono ((((((E1.trans E2).trans E3).trans E4).trans E5).trans E6).trans E7) h4))) ?_
          rintro _ w8 ⟨u4, q2, rfl, E8, hO2, hQ2, hd2⟩; have icu4 := OwnedB.isC (Owned.toB hO2); have cpu4 := OwnedB.capOk (Owned.toB hO2); have icq2 := OwnedB.isC (Owned.toB hQ2); have cpq2 := OwnedB.capOk (Owned.toB hQ2)
          have hs8 := E8.size; refine Wo_nil ?_; refine ⟨(((E5.trans E6).trans E7).trans E8), ?_⟩; refine Wh_all (rs := [5]) (by kernel_rfl) rfl ?_; refine WhAll_cons rfl ?_ ?_; refine Wo_alloc2 rfl flat25 ?_; rintro b4 w9 hb4 E9 hB4
          have hlb4 := hB4.lt; have hs9 := E9.size; refine Wo_nil ?_; refine ⟨((((E5.trans E6).trans E7).trans E8).trans E9), ?_⟩; refine Wh_all (rs := [6]) (by kernel_rfl) rfl ?_; refine WhAll_cons rfl ?_ ?_
          refine Wo_st2 rfl Try.sizeOf25 rfl rfl (by first | rfl | assumption) (by first | rfl | assumption) (hB3.ext (E8.trans E9)) (by omega) ((((((((E1.trans E2).trans E3).trans E4).trans E5).trans E6).trans E7).trans E8).trans E9) ?_
          rintro w10 E10 hB3 K2 hz2
          have E11 := (((((((E2.trans E3).trans E4).trans E5).trans E6).trans E7).trans E8).trans E9).wroteAt ((((((((E1.trans E2).trans E3).trans E4).trans E5).trans E6).trans E7).trans E8).trans E9) E10 K2 hz2 (by omega)
          have szE11 := E11.size; have E12 := ((((((E3.trans E4).trans E5).trans E6).trans E7).trans E8).trans E9).wroteAt ((((((((E1.trans E2).trans E3).trans E4).trans E5).trans E6).trans E7).trans E8).trans E9) E10 K2 hz2 (by omega)
          have szE12 := E12.size; have E13 := (((((E4.trans E5).trans E6).trans E7).trans E8).trans E9).wroteAt ((((((((E1.trans E2).trans E3).trans E4).trans E5).trans E6).trans E7).trans E8).trans E9) E10 K2 hz2 (by omega)
          have szE13 := E13.size; have E14 := ((((E5.trans E6).trans E7).trans E8).trans E9).wroteAt ((((((((E1.trans E2).trans E3).trans E4).trans E5).trans E6).trans E7).trans E8).trans E9) E10 K2 hz2 (by omega); have szE14 := E14.size
          have E15 := (((E6.trans E7).trans E8).trans E9).wroteAt ((((((((E1.trans E2).trans E3).trans E4).trans E5).trans E6).trans E7).trans E8).trans E9) E10 K2 hz2 (by omega); have szE15 := E15.size
          have E16 := ((E7.trans E8).trans E9).wroteAt ((((((((E1.trans E2).trans E3).trans E4).trans E5).trans E6).trans E7).trans E8).trans E9) E10 K2 hz2 (by omega); have szE16 := E16.size
          have hB1 := (hB1.ext (((((((E2.trans E3).trans E4).trans E5).trans E6).trans E7).trans E8).trans E9)).of_heap (K2 _ (by omega))
          have hB2 := (hB2.ext ((((((E3.trans E4).trans E5).trans E6).trans E7).trans E8).trans E9)).of_heap (K2 _ (by omega)); have hO1 := (hO1.toB.ext ((E7.trans E8).trans E9)).wrote K2 (by omega)
          have hQ1 := (hQ1.toB.ext ((E7.trans E8).trans E9)).wrote K2 (by omega); have hO2 := (hO2.toB.ext E9).wrote K2 (by omega); have hQ2 := (hQ2.toB.ext E9).wrote K2 (by omega); have hB4 := hB4.of_heap (K2 _ (by omega)); refine Wo_nil ?_
          refine ⟨E14, ?_⟩; refine Wh_all (rs := [7]) (by kernel_rfl) rfl ?_; refine WhAll_cons rfl ?_ ?_; refine Wo_st2 rfl Try.sizeOf25 rfl rfl (by first | rfl | assumption) (by first | rfl | assumption) hB4 (by omega) E10 ?_
          rintro w11 E17 hB4 K3 hz3; have E18 := E11.wroteAt E10 E17 K3 hz3 (by omega); have szE18 := E18.size; have E19 := E12.wroteAt E10 E17 K3 hz3 (by omega); have szE19 := E19.size; have E20 := E13.wroteAt E10 E17 K3 hz3 (by omega)
          have szE20 := E20.size; have E21 := E14.wroteAt E10 E17 K3 hz3 (by omega); have szE21 := E21.size; have E22 := E15.wroteAt E10 E17 K3 hz3 (by omega); have szE22 := E22.size; have E23 := E16.wroteAt E10 E17 K3 hz3 (by omega)
          have szE23 := E23.size; have hB3 := hB3.of_heap (K3 _ (by omega)); have hB1 := hB1.of_heap (K3 _ (by omega)); have hB2 := hB2.of_heap (K3 _ (by omega)); have hO1 := hO1.wrote K3 (by omega); have hQ1 := hQ1.wrote K3 (by omega)
          have hO2 := hO2.wrote K3 (by omega); have hQ2 := hQ2.wrote K3 (by omega); refine Wo_nil ?_; refine ⟨E21, ?_⟩; refine Wh_done (by kernel_rfl) ?_; rotate_left; exact WhAll_nil; exact WhAll_nil; exact WhAll_nil
          refine WhAll_cons rfl ?_ ?_; refine Wo_alloc2 rfl flat25 ?_; rintro b4 w8 hb4 E8 hB4; have hlb4 := hB4.lt; have hs8 := E8.size; refine Wo_nil ?_; refine ⟨(((E5.trans E6).trans E7).trans E8), ?_⟩
          refine Wh_all (rs := [3]) (by kernel_rfl) rfl ?_; refine WhAll_cons rfl ?_ ?_
          refine Wo_call rfl (opc1 (a := .agg _) Try.call55 rfl) (k4 _ _ _ ((Mono.mono (((((((E1.trans E2).trans E3).trans E4).trans E5).trans E6).trans E7).trans E8) h3)) ((Mono.mono (((((((E1.trans E2).trans E3).trans E4).trans E5).trans E6).trans E7).trans E8) h4))) ?_
          rintro _ w9 ⟨u4, q2, rfl, E9, hO2, hQ2, hd2⟩; have icu4 := OwnedB.isC (Owned.toB hO2); have cpu4 := OwnedB.capOk (Owned.toB hO2); have icq2 := OwnedB.isC (Owned.toB hQ2); have cpq2 := OwnedB.capOk (Owned.toB hQ2)
          have hs9 := E9.size; refine Wo_nil ?_; refine ⟨((((E5.trans E6).trans E7).trans E8).trans E9), ?_⟩; refine Wh_all (rs := [6]) (by kernel_rfl) rfl ?_; refine WhAll_cons rfl ?_ ?_
          refine Wo_st2 rfl Try.sizeOf25 rfl rfl (by first | rfl | assumption) (by first | rfl | assumption) (hB3.ext (E8.trans E9)) (by omega) ((((((((E1.trans E2).trans E3).trans E4).trans E5).trans E6).trans E7).trans E8).trans E9) ?_
          rintro w10 E10 hB3 K2 hz2
          have E11 := (((((((E2.trans E3).trans E4).trans E5).trans E6).trans E7).trans E8).trans E9).wroteAt ((((((((E1.trans E2).trans E3).trans E4).trans E5).trans E6).trans E7).trans E8).trans E9) E10 K2 hz2 (by omega)
          have szE11 := E11.size; have E12 := ((((((E3.trans E4).trans E5).trans E6).trans E7).trans E8).trans E9).wroteAt ((((((((E1.trans E2).trans E3).trans E4).trans E5).trans E6).trans E7).trans E8).trans E9) E10 K2 hz2 (by omega)
          have szE12 := E12.size; have E13 := (((((E4.trans E5).trans E6).trans E7).trans E8).trans E9).wroteAt ((((((((E1.trans E2).trans E3).trans E4).trans E5).trans E6).trans E7).trans E8).trans E9) E10 K2 hz2 (by omega)
          have szE13 := E13.size; have E14 := ((((E5.trans E6).trans E7).trans E8).trans E9).wroteAt ((((((((E1.trans E2).trans E3).trans E4).trans E5).trans E6).trans E7).trans E8).trans E9) E10 K2 hz2 (by omega); have szE14 := E14.size
          have E15 := (((E6.trans E7).trans E8).trans E9).wroteAt ((((((((E1.trans E2).trans E3).trans E4).trans E5).trans E6).trans E7).trans E8).trans E9) E10 K2 hz2 (by omega); have szE15 := E15.size
          have E16 := ((E7.trans E8).trans E9).wroteAt ((((((((E1.trans E2).trans E3).trans E4).trans E5).trans E6).trans E7).trans E8).trans E9) E10 K2 hz2 (by omega); have szE16 := E16.size
          have hB1 := (hB1.ext (((((((E2.trans E3).trans E4).trans E5).trans E6).trans E7).trans E8).trans E9)).of_heap (K2 _ (by omega))
          have hB2 := (hB2.ext ((((((E3.trans E4).trans E5).trans E6).trans E7).trans E8).trans E9)).of_heap (K2 _ (by omega)); have hO1 := (hO1.toB.ext ((E7.trans E8).trans E9)).wrote K2 (by omega)
          have hQ1 := (hQ1.toB.ext ((E7.trans E8).trans E9)).wrote K2 (by omega); have hB4 := (hB4.ext E9).of_heap (K2 _ (by omega)); have hO2 := hO2.toB.wrote K2 (by omega); have hQ2 := hQ2.toB.wrote K2 (by omega); refine Wo_nil ?_
          refine ⟨E14, ?_⟩; refine Wh_all (rs := [7]) (by kernel_rfl) rfl ?_; refine WhAll_cons rfl ?_ ?_; refine Wo_st2 rfl Try.sizeOf25 rfl rfl (by first | rfl | assumption) (by first | rfl | assumption) hB4 (by omega) E10 ?_
          rintro w11 E17 hB4 K3 hz3; have E18 := E11.wroteAt E10 E17 K3 hz3 (by omega); have szE18 := E18.size; have E19 := E12.wroteAt E10 E17 K3 hz3 (by omega); have szE19 := E19.size; have E20 := E13.wroteAt E10 E17 K3 hz3 (by omega)
          have szE20 := E20.size; have E21 := E14.wroteAt E10 E17 K3 hz3 (by omega); have szE21 := E21.size; have E22 := E15.wroteAt E10 E17 K3 hz3 (by omega); have szE22 := E22.size; have E23 := E16.wroteAt E10 E17 K3 hz3 (by omega)
          have szE23 := E23.size; have hB3 := hB3.of_heap (K3 _ (by omega)); have hB1 := hB1.of_heap (K3 _ (by omega)); have hB2 := hB2.of_heap (K3 _ (by omega)); have hO1 := hO1.wrote K3 (by omega); have hQ1 := hQ1.wrote K3 (by omega)
          have hO2 := hO2.wrote K3 (by omega); have hQ2 := hQ2.wrote K3 (by omega); refine Wo_nil ?_; refine ⟨E21, ?_⟩; refine Wh_done (by kernel_rfl) ?_; rotate_left; exact WhAll_nil; exact WhAll_nil; exact WhAll_nil; exact WhAll_nil
          refine WhAll_cons rfl ?_ ?_; refine Wo_alloc2 rfl flat25 ?_; rintro b3 w7 hb3 E7 hB3; have hlb3 := hB3.lt; have hs7 := E7.size; refine Wo_nil ?_; refine ⟨((E5.trans E6).trans E7), ?_⟩
          refine Wh_all (rs := [3, 4]) (by kernel_rfl) rfl ?_; refine WhAll_cons rfl ?_ ?_
          refine Wo_call rfl (opc1 (a := .agg _) Try.call55 rfl) (k4 _ _ _ ((Mono.mono ((((((E1.trans E2).trans E3).trans E4).trans E5).trans E6).trans E7) h3)) ((Mono.mono ((((((E1.trans E2).trans E3).trans E4).trans E5).trans E6).trans E7) h4))) ?_
          rintro _ w8 ⟨u4, q2, rfl, E8, hO2, hQ2, hd2⟩; have icu4 := OwnedB.isC (Owned.toB hO2); have cpu4 := OwnedB.capOk (Owned.toB hO2); have icq2 := OwnedB.isC (Owned.toB hQ2); have cpq2 := OwnedB.capOk (Owned.toB hQ2)
          have hs8 := E8.size; refine Wo_nil ?_; refine ⟨(((E5.trans E6).trans E7).trans E8), ?_⟩; refine Wh_all (rs := [4]) (by kernel_rfl) rfl ?_; refine WhAll_cons rfl ?_ ?_; refine Wo_alloc2 rfl flat25 ?_; rintro b4 w9 hb4 E9 hB4
          have hlb4 := hB4.lt; have hs9 := E9.size; refine Wo_nil ?_; refine ⟨((((E5.trans E6).trans E7).trans E8).trans E9), ?_⟩; refine Wh_all (rs := [6]) (by kernel_rfl) rfl ?_; refine WhAll_cons rfl ?_ ?_
          refine Wo_st2 rfl Try.sizeOf25 rfl rfl (by first | rfl | assumption) (by first | rfl | assumption) hB4 (by omega) ((((((((E1.trans E2).trans E3).trans E4).trans E5).trans E6).trans E7).trans E8).trans E9) ?_
          rintro w10 E10 hB4 K2 hz2
          have E11 := (((((((E2.trans E3).trans E4).trans E5).trans E6).trans E7).trans E8).trans E9).wroteAt ((((((((E1.trans E2).trans E3).trans E4).trans E5).trans E6).trans E7).trans E8).trans E9) E10 K2 hz2 (by omega)
          have szE11 := E11.size; have E12 := ((((((E3.trans E4).trans E5).trans E6).trans E7).trans E8).trans E9).wroteAt ((((((((E1.trans E2).trans E3).trans E4).trans E5).trans E6).trans E7).trans E8).trans E9) E10 K2 hz2 (by omega)
          have szE12 := E12.size; have E13 := (((((E4.trans E5).trans E6).trans E7).trans E8).trans E9).wroteAt ((((((((E1.trans E2).trans E3).trans E4).trans E5).trans E6).trans E7).trans E8).trans E9) E10 K2 hz2 (by omega)
          have szE13 := E13.size; have E14 := ((((E5.trans E6).trans E7).trans E8).trans E9).wroteAt ((((((((E1.trans E2).trans E3).trans E4).trans E5).trans E6).trans E7).trans E8).trans E9) E10 K2 hz2 (by omega); have szE14 := E14.size
          have E15 := (((E6.trans E7).trans E8).trans E9).wroteAt ((((((((E1.trans E2).trans E3).trans E4).trans E5).trans E6).trans E7).trans E8).trans E9) E10 K2 hz2 (by omega); have szE15 := E15.size
          have E16 := ((E7.trans E8).trans E9).wroteAt ((((((((E1.trans E2).trans E3).trans E4).trans E5).trans E6).trans E7).trans E8).trans E9) E10 K2 hz2 (by omega); have szE16 := E16.size
          have E17 := (E8.trans E9).wroteAt ((((((((E1.trans E2).trans E3).trans E4).trans E5).trans E6).trans E7).trans E8).trans E9) E10 K2 hz2 (by omega); have szE17 := E17.size
          have E18 := E9.wroteAt ((((((((E1.trans E2).trans E3).trans E4).trans E5).trans E6).trans E7).trans E8).trans E9) E10 K2 hz2 (by omega); have szE18 := E18.size
          have hB1 := (hB1.ext (((((((E2.trans E3).trans E4).trans E5).trans E6).trans E7).trans E8).trans E9)).of_heap (K2 _ (by omega))
          have hB2 := (hB2.ext ((((((E3.trans E4).trans E5).trans E6).trans E7).trans E8).trans E9)).of_heap (K2 _ (by omega)); have hO1 := (hO1.toB.ext ((E7.trans E8).trans E9)).wrote K2 (by omega)
          have hQ1 := (hQ1.toB.ext ((E7.trans E8).trans E9)).wrote K2 (by omega); have hB3 := (hB3.ext (E8.trans E9)).of_heap (K2 _ (by omega)); have hO2 := (hO2.toB.ext E9).wrote K2 (by omega)
          have hQ2 := (hQ2.toB.ext E9).wrote K2 (by omega); refine Wo_nil ?_; refine ⟨E14, ?_⟩; refine Wh_all (rs := [7]) (by kernel_rfl) rfl ?_; refine WhAll_cons rfl ?_ ?_
          refine Wo_st2 rfl Try.sizeOf25 rfl rfl (by first | rfl | assumption) (by first | rfl | assumption) hB3 (by omega) E10 ?_; rintro w11 E19 hB3 K3 hz3; have E20 := E11.wroteAt E10 E19 K3 hz3 (by omega); have szE20 := E20.size
          have E21 := E12.wroteAt E10 E19 K3 hz3 (by omega); have szE21 := E21.size; have E22 := E13.wroteAt E10 E19 K3 hz3 (by omega); have szE22 := E22.size; have E23 := E14.wroteAt E10 E19 K3 hz3 (by omega); have szE23 := E23.size
          have E24 := E15.wroteAt E10 E19 K3 hz3 (by omega); have szE24 := E24.size; have E25 := E16.wroteAt E10 E19 K3 hz3 (by omega); have szE25 := E25.size; have hB4 := hB4.of_heap (K3 _ (by omega))
          have hB1 := hB1.of_heap (K3 _ (by omega)); have hB2 := hB2.of_heap (K3 _ (by omega)); have hO1 := hO1.wrote K3 (by omega); have hQ1 := hQ1.wrote K3 (by omega); have hO2 := hO2.wrote K3 (by omega); have hQ2 := hQ2.wrote K3 (by omega)
          refine Wo_nil ?_; refine ⟨E23, ?_⟩; refine Wh_done (by kernel_rfl) ?_; rotate_left; exact WhAll_nil; exact WhAll_nil; exact WhAll_nil; refine WhAll_cons rfl ?_ ?_; refine Wo_alloc2 rfl flat25 ?_; rintro b4 w8 hb4 E8 hB4
          have hlb4 := hB4.lt; have hs8 := E8.size; refine Wo_nil ?_; refine ⟨(((E5.trans E6).trans E7).trans E8), ?_⟩; refine Wh_all (rs := [3]) (by kernel_rfl) rfl ?_; refine WhAll_cons rfl ?_ ?_
          refine Wo_call rfl (opc1 (a := .agg _) Try.call55 rfl) (k4 _ _ _ ((Mono.mono (((((((E1.trans E2).trans E3).trans E4).trans E5).trans E6).trans E7).trans E8) h3)) ((Mono.mono (((((((E1.trans E2).trans E3).trans E4).trans E5).trans E6).trans E7).trans E8) h4))) ?_
          rintro _ w9 ⟨u4, q2, rfl, E9, hO2, hQ2, hd2⟩; have icu4 := OwnedB.isC (Owned.toB hO2); have cpu4 := OwnedB.capOk (Owned.toB hO2); have icq2 := OwnedB.isC (Owned.toB hQ2); have cpq2 := OwnedB.capOk (Owned.toB hQ2)
          have hs9 := E9.size; refine Wo_nil ?_; refine ⟨((((E5.trans E6).trans E7).trans E8).trans E9), ?_⟩; refine Wh_all (rs := [6]) (by kernel_rfl) rfl ?_; refine WhAll_cons rfl ?_ ?_
          refine Wo_st2 rfl Try.sizeOf25 rfl rfl (by first | rfl | assumption) (by first | rfl | assumption) (hB4.ext E9) (by omega) ((((((((E1.trans E2).trans E3).trans E4).trans E5).trans E6).trans E7).trans E8).trans E9) ?_
          rintro w10 E10 hB4 K2 hz2
          have E11 := (((((((E2.trans E3).trans E4).trans E5).trans E6).trans E7).trans E8).trans E9).wroteAt ((((((((E1.trans E2).trans E3).trans E4).trans E5).trans E6).trans E7).trans E8).trans E9) E10 K2 hz2 (by omega)
          have szE11 := E11.size; have E12 := ((((((E3.trans E4).trans E5).trans E6).trans E7).trans E8).trans E9).wroteAt ((((((((E1.trans E2).trans E3).trans E4).trans E5).trans E6).trans E7).trans E8).trans E9) E10 K2 hz2 (by omega)
          have szE12 := E12.size; have E13 := (((((E4.trans E5).trans E6).trans E7).trans E8).trans E9).wroteAt ((((((((E1.trans E2).trans E3).trans E4).trans E5).trans E6).trans E7).trans E8).trans E9) E10 K2 hz2 (by omega)
          have szE13 := E13.size; have E14 := ((((E5.trans E6).trans E7).trans E8).trans E9).wroteAt ((((((((E1.trans E2).trans E3).trans E4).trans E5).trans E6).trans E7).trans E8).trans E9) E10 K2 hz2 (by omega); have szE14 := E14.size
          have E15 := (((E6.trans E7).trans E8).trans E9).wroteAt ((((((((E1.trans E2).trans E3).trans E4).trans E5).trans E6).trans E7).trans E8).trans E9) E10 K2 hz2 (by omega); have szE15 := E15.size
          have E16 := ((E7.trans E8).trans E9).wroteAt ((((((((E1.trans E2).trans E3).trans E4).trans E5).trans E6).trans E7).trans E8).trans E9) E10 K2 hz2 (by omega); have szE16 := E16.size
          have E17 := (E8.trans E9).wroteAt ((((((((E1.trans E2).trans E3).trans E4).trans E5).trans E6).trans E7).trans E8).trans E9) E10 K2 hz2 (by omega); have szE17 := E17.size
          have hB1 := (hB1.ext (((((((E2.trans E3).trans E4).trans E5).trans E6).trans E7).trans E8).trans E9)).of_heap (K2 _ (by omega))
          have hB2 := (hB2.ext ((((((E3.trans E4).trans E5).trans E6).trans E7).trans E8).trans E9)).of_heap (K2 _ (by omega)); have hO1 := (hO1.toB.ext ((E7.trans E8).trans E9)).wrote K2 (by omega)
          have hQ1 := (hQ1.toB.ext ((E7.trans E8).trans E9)).wrote K2 (by omega); have hB3 := (hB3.ext (E8.trans E9)).of_heap (K2 _ (by omega)); have hO2 := hO2.toB.wrote K2 (by omega); have hQ2 := hQ2.toB.wrote K2 (by omega)
          refine Wo_nil ?_; refine ⟨E14, ?_⟩; refine Wh_all (rs := [7]) (by kernel_rfl) rfl ?_; refine WhAll_cons rfl ?_ ?_
          refine Wo_st2 rfl Try.sizeOf25 rfl rfl (by first | rfl | assumption) (by first | rfl | assumption) hB3 (by omega) E10 ?_; rintro w11 E18 hB3 K3 hz3; have E19 := E11.wroteAt E10 E18 K3 hz3 (by omega); have szE19 := E19.size
          have E20 := E12.wroteAt E10 E18 K3 hz3 (by omega); have szE20 := E20.size; have E21 := E13.wroteAt E10 E18 K3 hz3 (by omega); have szE21 := E21.size; have E22 := E14.wroteAt E10 E18 K3 hz3 (by omega); have szE22 := E22.size
          have E23 := E15.wroteAt E10 E18 K3 hz3 (by omega); have szE23 := E23.size; have E24 := E16.wroteAt E10 E18 K3 hz3 (by omega); have szE24 := E24.size; have hB4 := hB4.of_heap (K3 _ (by omega))
          have hB1 := hB1.of_heap (K3 _ (by omega)); have hB2 := hB2.of_heap (K3 _ (by omega)); have hO1 := hO1.wrote K3 (by omega); have hQ1 := hQ1.wrote K3 (by omega); have hO2 := hO2.wrote K3 (by omega); have hQ2 := hQ2.wrote K3 (by omega)
          refine Wo_nil ?_; refine ⟨E22, ?_⟩; refine Wh_done (by kernel_rfl) ?_; rotate_left; exact WhAll_nil; exact WhAll_nil; exact WhAll_nil; exact WhAll_nil; exact WhAll_nil; refine WhAll_cons rfl ?_ ?_; refine Wo_alloc2 rfl flat25 ?_
          rintro b3 w6 hb3 E6 hB3; have hlb3 := hB3.lt; have hs6 := E6.size; refine Wo_nil ?_; refine ⟨(E5.trans E6), ?_⟩; refine Wh_all (rs := [1, 5]) (by kernel_rfl) rfl ?_; refine WhAll_cons rfl ?_ ?_
          refine Wo_call rfl (opc1 (a := .agg _) Try.call55 rfl) (k3 _ _ _ ((Mono.mono (((((E1.trans E2).trans E3).trans E4).trans E5).trans E6) h1)) ((Mono.mono (((((E1.trans E2).trans E3).trans E4).trans E5).trans E6) h2))) ?_
          rintro _ w7 ⟨u3, q1, rfl, E7, hO1, hQ1, hd1⟩; have icu3 := OwnedB.isC (Owned.toB hO1); have cpu3 := OwnedB.capOk (Owned.toB hO1); have icq1 := OwnedB.isC (Owned.toB hQ1); have cpq1 := OwnedB.capOk (Owned.toB hQ1)
          have hs7 := E7.size; refine Wo_nil ?_; refine ⟨((E5.trans E6).trans E7), ?_⟩; refine Wh_all (rs := [3, 5]) (by kernel_rfl) rfl ?_; refine WhAll_cons rfl ?_ ?_
          refine Wo_call rfl (opc1 (a := .agg _) Try.call55 rfl) (k4 _ _ _ ((Mono.mono ((((((E1.trans E2).trans E3).trans E4).trans E5).trans E6).trans E7) h3)) ((Mono.mono ((((((E1.trans E2).trans E3).trans E4).trans E5).trans E6).trans E7) h4))) ?_
          rintro _ w8 ⟨u4, q2, rfl, E8, hO2, hQ2, hd2⟩; have icu4 := OwnedB.isC (Owned.toB hO2); have cpu4 := OwnedB.capOk (Owned.toB hO2); have icq2 := OwnedB.isC (Owned.toB hQ2); have cpq2 := OwnedB.capOk (Owned.toB hQ2)
          have hs8 := E8.size; refine Wo_nil ?_; refine ⟨(((E5.trans E6).trans E7).trans E8), ?_⟩; refine Wh_all (rs := [5]) (by kernel_rfl) rfl ?_; refine WhAll_cons rfl ?_ ?_; refine Wo_alloc2 rfl flat25 ?_; rintro b4 w9 hb4 E9 hB4
          have hlb4 := hB4.lt; have hs9 := E9.size; refine Wo_nil ?_; refine ⟨((((E5.trans E6).trans E7).trans E8).trans E9), ?_⟩; refine Wh_all (rs := [6]) (by kernel_rfl) rfl ?_; refine WhAll_cons rfl ?_ ?_
          refine Wo_st2 rfl Try.sizeOf25 rfl rfl (by first | rfl | assumption) (by first | rfl | assumption) (hB3.ext ((E7.trans E8).trans E9)) (by omega) ((((((((E1.trans E2).trans E3).trans E4).trans E5).trans E6).trans E7).trans E8).trans E9) ?_
          rintro w10 E10 hB3 K2 hz2
          have E11 := (((((((E2.trans E3).trans E4).trans E5).trans E6).trans E7).trans E8).trans E9).wroteAt ((((((((E1.trans E2).trans E3).trans E4).trans E5).trans E6).trans E7).trans E8).trans E9) E10 K2 hz2 (by omega)
          have szE11 := E11.size; have E12 := ((((((E3.trans E4).trans E5).trans E6).trans E7).trans E8).trans E9).wroteAt ((((((((E1.trans E2).trans E3).trans E4).trans E5).trans E6).trans E7).trans E8).trans E9) E10 K2 hz2 (by omega)
          have szE12 := E12.size; have E13 := (((((E4.trans E5).trans E6).trans E7).trans E8).trans E9).wroteAt ((((((((E1.trans E2).trans E3).trans E4).trans E5).trans E6).trans E7).trans E8).trans E9) E10 K2 hz2 (by omega)
          have szE13 := E13.size; have E14 := ((((E5.trans E6).trans E7).trans E8).trans E9).wroteAt ((((((((E1.trans E2).trans E3).trans E4).trans E5).trans E6).trans E7).trans E8).trans E9) E10 K2 hz2 (by omega); have szE14 := E14.size
          have E15 := (((E6.trans E7).trans E8).trans E9).wroteAt ((((((((E1.trans E2).trans E3).trans E4).trans E5).trans E6).trans E7).trans E8).trans E9) E10 K2 hz2 (by omega); have szE15 := E15.size
          have hB1 := (hB1.ext (((((((E2.trans E3).trans E4).trans E5).trans E6).trans E7).trans E8).trans E9)).of_heap (K2 _ (by omega))
          have hB2 := (hB2.ext ((((((E3.trans E4).trans E5).trans E6).trans E7).trans E8).trans E9)).of_heap (K2 _ (by omega)); have hO1 := (hO1.toB.ext (E8.trans E9)).wrote K2 (by omega)
          have hQ1 := (hQ1.toB.ext (E8.trans E9)).wrote K2 (by omega); have hO2 := (hO2.toB.ext E9).wrote K2 (by omega); have hQ2 := (hQ2.toB.ext E9).wrote K2 (by omega); have hB4 := hB4.of_heap (K2 _ (by omega)); refine Wo_nil ?_
          refine ⟨E14, ?_⟩; refine Wh_all (rs := [7]) (by kernel_rfl) rfl ?_; refine WhAll_cons rfl ?_ ?_; refine Wo_st2 rfl Try.sizeOf25 rfl rfl (by first | rfl | assumption) (by first | rfl | assumption) hB4 (by omega) E10 ?_
          rintro w11 E16 hB4 K3 hz3; have E17 := E11.wroteAt E10 E16 K3 hz3 (by omega); have szE17 := E17.size; have E18 := E12.wroteAt E10 E16 K3 hz3 (by omega); have szE18 := E18.size; have E19 := E13.wroteAt E10 E16 K3 hz3 (by omega)
          have szE19 := E19.size; have E20 := E14.wroteAt E10 E16 K3 hz3 (by omega); have szE20 := E20.size; have E21 := E15.wroteAt E10 E16 K3 hz3 (by omega); have szE21 := E21.size; have hB3 := hB3.of_heap (K3 _ (by omega))
          have hB1 := hB1.of_heap (K3 _ (by omega)); have hB2 := hB2.of_heap (K3 _ (by omega)); have hO1 := hO1.wrote K3 (by omega); have hQ1 := hQ1.wrote K3 (by omega); have hO2 := hO2.wrote K3 (by omega); have hQ2 := hQ2.wrote K3 (by omega)
          refine Wo_nil ?_; refine ⟨E20, ?_⟩; refine Wh_done (by kernel_rfl) ?_; rotate_left; exact WhAll_nil; exact WhAll_nil; exact WhAll_nil; refine WhAll_cons rfl ?_ ?_; refine Wo_alloc2 rfl flat25 ?_; rintro b4 w8 hb4 E8 hB4
          have hlb4 := hB4.lt; have hs8 := E8.size; refine Wo_nil ?_; refine ⟨(((E5.trans E6).trans E7).trans E8), ?_⟩; refine Wh_all (rs := [3]) (by kernel_rfl) rfl ?_; refine WhAll_cons rfl ?_ ?_
          refine Wo_call rfl (opc1 (a := .agg _) Try.call55 rfl) (k4 _ _ _ ((Mono.mono (((((((E1.trans E2).trans E3).trans E4).trans E5).trans E6).trans E7).trans E8) h3)) ((Mono.mono (((((((E1.trans E2).trans E3).trans E4).trans E5).trans E6).trans E7).trans E8) h4))) ?_
          rintro _ w9 ⟨u4, q2, rfl, E9, hO2, hQ2, hd2⟩; have icu4 := OwnedB.isC (Owned.toB hO2); have cpu4 := OwnedB.capOk (Owned.toB hO2); have icq2 := OwnedB.isC (Owned.toB hQ2); have cpq2 := OwnedB.capOk (Owned.toB hQ2)
          have hs9 := E9.size; refine Wo_nil ?_; refine ⟨((((E5.trans E6).trans E7).trans E8).trans E9), ?_⟩; refine Wh_all (rs := [6]) (by kernel_rfl) rfl ?_; refine WhAll_cons rfl ?_ ?_
          refine Wo_st2 rfl Try.sizeOf25 rfl rfl (by first | rfl | assumption) (by first | rfl | assumption) (hB3.ext ((E7.trans E8).trans E9)) (by omega) ((((((((E1.trans E2).trans E3).trans E4).trans E5).trans E6).trans E7).trans E8).trans E9) ?_
          rintro w10 E10 hB3 K2 hz2
          have E11 := (((((((E2.trans E3).trans E4).trans E5).trans E6).trans E7).trans E8).trans E9).wroteAt ((((((((E1.trans E2).trans E3).trans E4).trans E5).trans E6).trans E7).trans E8).trans E9) E10 K2 hz2 (by omega)
          have szE11 := E11.size; have E12 := ((((((E3.trans E4).trans E5).trans E6).trans E7).trans E8).trans E9).wroteAt ((((((((E1.trans E2).trans E3).trans E4).trans E5).trans E6).trans E7).trans E8).trans E9) E10 K2 hz2 (by omega)
          have szE12 := E12.size; have E13 := (((((E4.trans E5).trans E6).trans E7).trans E8).trans E9).wroteAt ((((((((E1.trans E2).trans E3).trans E4).trans E5).trans E6).trans E7).trans E8).trans E9) E10 K2 hz2 (by omega)
          have szE13 := E13.size; have E14 := ((((E5.trans E6).trans E7).trans E8).trans E9).wroteAt ((((((((E1.trans E2).trans E3).trans E4).trans E5).trans E6).trans E7).trans E8).trans E9) E10 K2 hz2 (by omega); have szE14 := E14.size
          have E15 := (((E6.trans E7).trans E8).trans E9).wroteAt ((((((((E1.trans E2).trans E3).trans E4).trans E5).trans E6).trans E7).trans E8).trans E9) E10 K2 hz2 (by omega); have szE15 := E15.size
          have hB1 := (hB1.ext (((((((E2.trans E3).trans E4).trans E5).trans E6).trans E7).trans E8).trans E9)).of_heap (K2 _ (by omega))
          have hB2 := (hB2.ext ((((((E3.trans E4).trans E5).trans E6).trans E7).trans E8).trans E9)).of_heap (K2 _ (by omega)); have hO1 := (hO1.toB.ext (E8.trans E9)).wrote K2 (by omega)
          have hQ1 := (hQ1.toB.ext (E8.trans E9)).wrote K2 (by omega); have hB4 := (hB4.ext E9).of_heap (K2 _ (by omega)); have hO2 := hO2.toB.wrote K2 (by omega); have hQ2 := hQ2.toB.wrote K2 (by omega); refine Wo_nil ?_; refine ⟨E14, ?_⟩
          refine Wh_all (rs := [7]) (by kernel_rfl) rfl ?_; refine WhAll_cons rfl ?_ ?_; refine Wo_st2 rfl Try.sizeOf25 rfl rfl (by first | rfl | assumption) (by first | rfl | assumption) hB4 (by omega) E10 ?_; rintro w11 E16 hB4 K3 hz3
          have E17 := E11.wroteAt E10 E16 K3 hz3 (by omega); have szE17 := E17.size; have E18 := E12.wroteAt E10 E16 K3 hz3 (by omega); have szE18 := E18.size; have E19 := E13.wroteAt E10 E16 K3 hz3 (by omega); have szE19 := E19.size
          have E20 := E14.wroteAt E10 E16 K3 hz3 (by omega); have szE20 := E20.size; have E21 := E15.wroteAt E10 E16 K3 hz3 (by omega); have szE21 := E21.size; have hB3 := hB3.of_heap (K3 _ (by omega))
          have hB1 := hB1.of_heap (K3 _ (by omega)); have hB2 := hB2.of_heap (K3 _ (by omega)); have hO1 := hO1.wrote K3 (by omega); have hQ1 := hQ1.wrote K3 (by omega); have hO2 := hO2.wrote K3 (by omega); have hQ2 := hQ2.wrote K3 (by omega)
          refine Wo_nil ?_; refine ⟨E20, ?_⟩; refine Wh_done (by kernel_rfl) ?_; rotate_left; exact WhAll_nil; exact WhAll_nil; exact WhAll_nil; exact WhAll_nil; refine WhAll_cons rfl ?_ ?_; refine Wo_alloc2 rfl flat25 ?_
          rintro b4 w7 hb4 E7 hB4; have hlb4 := hB4.lt; have hs7 := E7.size; refine Wo_nil ?_; refine ⟨((E5.trans E6).trans E7), ?_⟩; refine Wh_all (rs := [1]) (by kernel_rfl) rfl ?_; refine WhAll_cons rfl ?_ ?_
          refine Wo_call rfl (opc1 (a := .agg _) Try.call55 rfl) (k3 _ _ _ ((Mono.mono ((((((E1.trans E2).trans E3).trans E4).trans E5).trans E6).trans E7) h1)) ((Mono.mono ((((((E1.trans E2).trans E3).trans E4).trans E5).trans E6).trans E7) h2))) ?_
          rintro _ w8 ⟨u3, q1, rfl, E8, hO1, hQ1, hd1⟩; have icu3 := OwnedB.isC (Owned.toB hO1); have cpu3 := OwnedB.capOk (Owned.toB hO1); have icq1 := OwnedB.isC (Owned.toB hQ1); have cpq1 := OwnedB.capOk (Owned.toB hQ1)
          have hs8 := E8.size; refine Wo_nil ?_; refine ⟨(((E5.trans E6).trans E7).trans E8), ?_⟩; refine Wh_all (rs := [3]) (by kernel_rfl) rfl ?_; refine WhAll_cons rfl ?_ ?_
          refine Wo_call rfl (opc1 (a := .agg _) Try.call55 rfl) (k4 _ _ _ ((Mono.mono (((((((E1.trans E2).trans E3).trans E4).trans E5).trans E6).trans E7).trans E8) h3)) ((Mono.mono (((((((E1.trans E2).trans E3).trans E4).trans E5).trans E6).trans E7).trans E8) h4))) ?_
          rintro _ w9 ⟨u4, q2, rfl, E9, hO2, hQ2, hd2⟩; have icu4 := OwnedB.isC (Owned.toB hO2); have cpu4 := OwnedB.capOk (Owned.toB hO2); have icq2 := OwnedB.isC (Owned.toB hQ2); have cpq2 := OwnedB.capOk (Owned.toB hQ2)
          have hs9 := E9.size; refine Wo_nil ?_; refine ⟨((((E5.trans E6).trans E7).trans E8).trans E9), ?_⟩; refine Wh_all (rs := [6]) (by kernel_rfl) rfl ?_; refine WhAll_cons rfl ?_ ?_
          refine Wo_st2 rfl Try.sizeOf25 rfl rfl (by first | rfl | assumption) (by first | rfl | assumption) (hB3.ext ((E7.trans E8).trans E9)) (by omega) ((((((((E1.trans E2).trans E3).trans E4).trans E5).trans E6).trans E7).trans E8).trans E9) ?_
          rintro w10 E10 hB3 K2 hz2
          have E11 := (((((((E2.trans E3).trans E4).trans E5).trans E6).trans E7).trans E8).trans E9).wroteAt ((((((((E1.trans E2).trans E3).trans E4).trans E5).trans E6).trans E7).trans E8).trans E9) E10 K2 hz2 (by omega)
          have szE11 := E11.size; have E12 := ((((((E3.trans E4).trans E5).trans E6).trans E7).trans E8).trans E9).wroteAt ((((((((E1.trans E2).trans E3).trans E4).trans E5).trans E6).trans E7).trans E8).trans E9) E10 K2 hz2 (by omega)
          have szE12 := E12.size; have E13 := (((((E4.trans E5).trans E6).trans E7).trans E8).trans E9).wroteAt ((((((((E1.trans E2).trans E3).trans E4).trans E5).trans E6).trans E7).trans E8).trans E9) E10 K2 hz2 (by omega)
          have szE13 := E13.size; have E14 := ((((E5.trans E6).trans E7).trans E8).trans E9).wroteAt ((((((((E1.trans E2).trans E3).trans E4).trans E5).trans E6).trans E7).trans E8).trans E9) E10 K2 hz2 (by omega); have szE14 := E14.size
          have E15 := (((E6.trans E7).trans E8).trans E9).wroteAt ((((((((E1.trans E2).trans E3).trans E4).trans E5).trans E6).trans E7).trans E8).trans E9) E10 K2 hz2 (by omega); have szE15 := E15.size
          have hB1 := (hB1.ext (((((((E2.trans E3).trans E4).trans E5).trans E6).trans E7).trans E8).trans E9)).of_heap (K2 _ (by omega))
          have hB2 := (hB2.ext ((((((E3.trans E4).trans E5).trans E6).trans E7).trans E8).trans E9)).of_heap (K2 _ (by omega)); have hB4 := (hB4.ext (E8.trans E9)).of_heap (K2 _ (by omega)); have hO1 := (hO1.toB.ext E9).wrote K2 (by omega)
          have hQ1 := (hQ1.toB.ext E9).wrote K2 (by omega); have hO2 := hO2.toB.wrote K2 (by omega); have hQ2 := hQ2.toB.wrote K2 (by omega); refine Wo_nil ?_; refine ⟨E14, ?_⟩; refine Wh_all (rs := [7]) (by kernel_rfl) rfl ?_
          refine WhAll_cons rfl ?_ ?_; refine Wo_st2 rfl Try.sizeOf25 rfl rfl (by first | rfl | assumption) (by first | rfl | assumption) hB4 (by omega) E10 ?_; rintro w11 E16 hB4 K3 hz3; have E17 := E11.wroteAt E10 E16 K3 hz3 (by omega)
          have szE17 := E17.size; have E18 := E12.wroteAt E10 E16 K3 hz3 (by omega); have szE18 := E18.size; have E19 := E13.wroteAt E10 E16 K3 hz3 (by omega); have szE19 := E19.size; have E20 := E14.wroteAt E10 E16 K3 hz3 (by omega)
          have szE20 := E20.size; have E21 := E15.wroteAt E10 E16 K3 hz3 (by omega); have szE21 := E21.size; have hB3 := hB3.of_heap (K3 _ (by omega)); have hB1 := hB1.of_heap (K3 _ (by omega)); have hB2 := hB2.of_heap (K3 _ (by omega))
          have hO1 := hO1.wrote K3 (by omega); have hQ1 := hQ1.wrote K3 (by omega); have hO2 := hO2.wrote K3 (by omega); have hQ2 := hQ2.wrote K3 (by omega); refine Wo_nil ?_; refine ⟨E20, ?_⟩; refine Wh_done (by kernel_rfl) ?_; rotate_left
          exact WhAll_nil; exact WhAll_nil; exact WhAll_nil; exact WhAll_nil; exact WhAll_nil; refine WhAll_cons rfl ?_ ?_; refine Wo_alloc2 rfl flat25 ?_; rintro b3 w6 hb3 E6 hB3; have hlb3 := hB3.lt; have hs6 := E6.size; refine Wo_nil ?_
          refine ⟨(E5.trans E6), ?_⟩; refine Wh_all (rs := [1, 4]) (by kernel_rfl) rfl ?_; refine WhAll_cons rfl ?_ ?_
          refine Wo_call rfl (opc1 (a := .agg _) Try.call55 rfl) (k3 _ _ _ ((Mono.mono (((((E1.trans E2).trans E3).trans E4).trans E5).trans E6) h1)) ((Mono.mono (((((E1.trans E2).trans E3).trans E4).trans E5).trans E6) h2))) ?_
          rintro _ w7 ⟨u3, q1, rfl, E7, hO1, hQ1, hd1⟩; have icu3 := OwnedB.isC (Owned.toB hO1); have cpu3 := OwnedB.capOk (Owned.toB hO1); have icq1 := OwnedB.isC (Owned.toB hQ1); have cpq1 := OwnedB.capOk (Owned.toB hQ1)
          have hs7 := E7.size; refine Wo_nil ?_; refine ⟨((E5.trans E6).trans E7), ?_⟩; refine Wh_all (rs := [3, 4]) (by kernel_rfl) rfl ?_; refine WhAll_cons rfl ?_ ?_
          refine Wo_call rfl (opc1 (a := .agg _) Try.call55 rfl) (k4 _ _ _ ((Mono.mono ((((((E1.trans E2).trans E3).trans E4).trans E5).trans E6).trans E7) h3)) ((Mono.mono ((((((E1.trans E2).trans E3).trans E4).trans E5).trans E6).trans E7) h4))) ?_
          rintro _ w8 ⟨u4, q2, rfl, E8, hO2, hQ2, hd2⟩; have icu4 := OwnedB.isC (Owned.toB hO2); have cpu4 := OwnedB.capOk (Owned.toB hO2); have icq2 := OwnedB.isC (Owned.toB hQ2); have cpq2 := OwnedB.capOk (Owned.toB hQ2)
          have hs8 := E8.size; refine Wo_nil ?_; refine ⟨(((E5.trans E6).trans E7).trans E8), ?_⟩; refine Wh_all (rs := [4]) (by kernel_rfl) rfl ?_; refine WhAll_cons rfl ?_ ?_; refine Wo_alloc2 rfl flat25 ?_; rintro b4 w9 hb4 E9 hB4
          have hlb4 := hB4.lt; have hs9 := E9.size; refine Wo_nil ?_; refine ⟨((((E5.trans E6).trans E7).trans E8).trans E9), ?_⟩; refine Wh_all (rs := [6]) (by kernel_rfl) rfl ?_; refine WhAll_cons rfl ?_ ?_
          refine Wo_st2 rfl Try.sizeOf25 rfl rfl (by first | rfl | assumption) (by first | rfl | assumption) hB4 (by omega) ((((((((E1.trans E2).trans E3).trans E4).trans E5).trans E6).trans E7).trans E8).trans E9) ?_
          rintro w10 E10 hB4 K2 hz2
          have E11 := (((((((E2.trans E3).trans E4).trans E5).trans E6).trans E7).trans E8).trans E9).wroteAt ((((((((E1.trans E2).trans E3).trans E4).trans E5).trans E6).trans E7).trans E8).trans E9) E10 K2 hz2 (by omega)
          have szE11 := E11.size; have E12 := ((((((E3.trans E4).trans E5).trans E6).trans E7).trans E8).trans E9).wroteAt ((((((((E1.trans E2).trans E3).trans E4).trans E5).trans E6).trans E7).trans E8).trans E9) E10 K2 hz2 (by omega)
          have szE12 := E12.size; have E13 := (((((E4.trans E5).trans E6).trans E7).trans E8).trans E9).wroteAt ((((((((E1.trans E2).trans E3).trans E4).trans E5).trans E6).trans E7).trans E8).trans E9) E10 K2 hz2 (by omega)
          have szE13 := E13.size; have E14 := ((((E5.trans E6).trans E7).trans E8).trans E9).wroteAt ((((((((E1.trans E2).trans E3).trans E4).trans E5).trans E6).trans E7).trans E8).trans E9) E10 K2 hz2 (by omega); have szE14 := E14.size
          have E15 := (((E6.trans E7).trans E8).trans E9).wroteAt ((((((((E1.trans E2).trans E3).trans E4).trans E5).trans E6).trans E7).trans E8).trans E9) E10 K2 hz2 (by omega); have szE15 := E15.size
          have E16 := ((E7.trans E8).trans E9).wroteAt ((((((((E1.trans E2).trans E3).trans E4).trans E5).trans E6).trans E7).trans E8).trans E9) E10 K2 hz2 (by omega); have szE16 := E16.size
          have E17 := (E8.trans E9).wroteAt ((((((((E1.trans E2).trans E3).trans E4).trans E5).trans E6).trans E7).trans E8).trans E9) E10 K2 hz2 (by omega); have szE17 := E17.size
          have E18 := E9.wroteAt ((((((((E1.trans E2).trans E3).trans E4).trans E5).trans E6).trans E7).trans E8).trans E9) E10 K2 hz2 (by omega); have szE18 := E18.size
          have hB1 := (hB1.ext (((((((E2.trans E3).trans E4).trans E5).trans E6).trans E7).trans E8).trans E9)).of_heap (K2 _ (by omega))
          have hB2 := (hB2.ext ((((((E3.trans E4).trans E5).trans E6).trans E7).trans E8).trans E9)).of_heap (K2 _ (by omega)); have hB3 := (hB3.ext ((E7.trans E8).trans E9)).of_heap (K2 _ (by omega))
          have hO1 := (hO1.toB.ext (E8.trans E9)).wrote K2 (by omega); have hQ1 := (hQ1.toB.ext (E8.trans E9)).wrote K2 (by omega); have hO2 := (hO2.toB.ext E9).wrote K2 (by omega); have hQ2 := (hQ2.toB.ext E9).wrote K2 (by omega)
          refine Wo_nil ?_; refine ⟨E14, ?_⟩; refine Wh_all (rs := [7]) (by kernel_rfl) rfl ?_; refine WhAll_cons rfl ?_ ?_
          refine Wo_st2 rfl Try.sizeOf25 rfl rfl (by first | rfl | assumption) (by first | rfl | assumption) hB3 (by omega) E10 ?_; rintro w11 E19 hB3 K3 hz3; have E20 := E11.wroteAt E10 E19 K3 hz3 (by omega); have szE20 := E20.size
          have E21 := E12.wroteAt E10 E19 K3 hz3 (by omega); have szE21 := E21.size; have E22 := E13.wroteAt E10 E19 K3 hz3 (by omega); have szE22 := E22.size; have E23 := E14.wroteAt E10 E19 K3 hz3 (by omega); have szE23 := E23.size
          have E24 := E15.wroteAt E10 E19 K3 hz3 (by omega); have szE24 := E24.size; have hB4 := hB4.of_heap (K3 _ (by omega)); have hB1 := hB1.of_heap (K3 _ (by omega)); have hB2 := hB2.of_heap (K3 _ (by omega))
          have hO1 := hO1.wrote K3 (by omega); have hQ1 := hQ1.wrote K3 (by omega); have hO2 := hO2.wrote K3 (by omega); have hQ2 := hQ2.wrote K3 (by omega); refine Wo_nil ?_; refine ⟨E23, ?_⟩; refine Wh_done (by kernel_rfl) ?_; rotate_left
          exact WhAll_nil; exact WhAll_nil; exact WhAll_nil; refine WhAll_cons rfl ?_ ?_; refine Wo_alloc2 rfl flat25 ?_; rintro b4 w8 hb4 E8 hB4; have hlb4 := hB4.lt; have hs8 := E8.size; refine Wo_nil ?_
          refine ⟨(((E5.trans E6).trans E7).trans E8), ?_⟩; refine Wh_all (rs := [3]) (by kernel_rfl) rfl ?_; refine WhAll_cons rfl ?_ ?_
          refine Wo_call rfl (opc1 (a := .agg _) Try.call55 rfl) (k4 _ _ _ ((Mono.mono (((((((E1.trans E2).trans E3).trans E4).trans E5).trans E6).trans E7).trans E8) h3)) ((Mono.mono (((((((E1.trans E2).trans E3).trans E4).trans E5).trans E6).trans E7).trans E8) h4))) ?_
          rintro _ w9 ⟨u4, q2, rfl, E9, hO2, hQ2, hd2⟩; have icu4 := OwnedB.isC (Owned.toB hO2); have cpu4 := OwnedB.capOk (Owned.toB hO2); have icq2 := OwnedB.isC (Owned.toB hQ2); have cpq2 := OwnedB.capOk (Owned.toB hQ2)
          have hs9 := E9.size; refine Wo_nil ?_; refine ⟨((((E5.trans E6).trans E7).trans E8).trans E9), ?_⟩; refine Wh_all (rs := [6]) (by kernel_rfl) rfl ?_; refine WhAll_cons rfl ?_ ?_
          refine Wo_st2 rfl Try.sizeOf25 rfl rfl (by first | rfl | assumption) (by first | rfl | assumption) (hB4.ext E9) (by omega) ((((((((E1.trans E2).trans E3).trans E4).trans E5).trans E6).trans E7).trans E8).trans E9) ?_
          rintro w10 E10 hB4 K2 hz2
          have E11 := (((((((E2.trans E3).trans E4).trans E5).trans E6).trans E7).trans E8).trans E9).wroteAt ((((((((E1.trans E2).trans E3).trans E4).trans E5).trans E6).trans E7).trans E8).trans E9) E10 K2 hz2 (by omega)
          have szE11 := E11.size; have E12 := ((((((E3.trans E4).trans E5).trans E6).trans E7).trans E8).trans E9).wroteAt ((((((((E1.trans E2).trans E3).trans E4).trans E5).trans E6).trans E7).trans E8).trans E9) E10 K2 hz2 (by omega)
          have szE12 := E12.size; have E13 := (((((E4.trans E5).trans E6).trans E7).trans E8).trans E9).wroteAt ((((((((E1.trans E2).trans E3).trans E4).trans E5).trans E6).trans E7).trans E8).trans E9) E10 K2 hz2 (by omega)
          have szE13 := E13.size; have E14 := ((((E5.trans E6).trans E7).trans E8).trans E9).wroteAt ((((((((E1.trans E2).trans E3).trans E4).trans E5).trans E6).trans E7).trans E8).trans E9) E10 K2 hz2 (by omega); have szE14 := E14.size
          have E15 := (((E6.trans E7).trans E8).trans E9).wroteAt ((((((((E1.trans E2).trans E3).trans E4).trans E5).trans E6).trans E7).trans E8).trans E9) E10 K2 hz2 (by omega); have szE15 := E15.size
          have E16 := ((E7.trans E8).trans E9).wroteAt ((((((((E1.trans E2).trans E3).trans E4).trans E5).trans E6).trans E7).trans E8).trans E9) E10 K2 hz2 (by omega); have szE16 := E16.size
          have E17 := (E8.trans E9).wroteAt ((((((((E1.trans E2).trans E3).trans E4).trans E5).trans E6).trans E7).trans E8).trans E9) E10 K2 hz2 (by omega); have szE17 := E17.size
          have hB1 := (hB1.ext (((((((E2.trans E3).trans E4).trans E5).trans E6).trans E7).trans E8).trans E9)).of_heap (K2 _ (by omega))
          have hB2 := (hB2.ext ((((((E3.trans E4).trans E5).trans E6).trans E7).trans E8).trans E9)).of_heap (K2 _ (by omega)); have hB3 := (hB3.ext ((E7.trans E8).trans E9)).of_heap (K2 _ (by omega))
          have hO1 := (hO1.toB.ext (E8.trans E9)).wrote K2 (by omega); have hQ1 := (hQ1.toB.ext (E8.trans E9)).wrote K2 (by omega); have hO2 := hO2.toB.wrote K2 (by omega); have hQ2 := hQ2.toB.wrote K2 (by omega); refine Wo_nil ?_
          refine ⟨E14, ?_⟩; refine Wh_all (rs := [7]) (by kernel_rfl) rfl ?_; refine WhAll_cons rfl ?_ ?_; refine Wo_st2 rfl Try.sizeOf25 rfl rfl (by first | rfl | assumption) (by first | rfl | assumption) hB3 (by omega) E10 ?_
          rintro w11 E18 hB3 K3 hz3; have E19 := E11.wroteAt E10 E18 K3 hz3 (by omega); have szE19 := E19.size; have E20 := E12.wroteAt E10 E18 K3 hz3 (by omega); have szE20 := E20.size; have E21 := E13.wroteAt E10 E18 K3 hz3 (by omega)
          have szE21 := E21.size; have E22 := E14.wroteAt E10 E18 K3 hz3 (by omega); have szE22 := E22.size; have E23 := E15.wroteAt E10 E18 K3 hz3 (by omega); have szE23 := E23.size; have hB4 := hB4.of_heap (K3 _ (by omega))
          have hB1 := hB1.of_heap (K3 _ (by omega)); have hB2 := hB2.of_heap (K3 _ (by omega)); have hO1 := hO1.wrote K3 (by omega); have hQ1 := hQ1.wrote K3 (by omega); have hO2 := hO2.wrote K3 (by omega); have hQ2 := hQ2.wrote K3 (by omega)
          refine Wo_nil ?_; refine ⟨E22, ?_⟩; refine Wh_done (by kernel_rfl) ?_; rotate_left; exact WhAll_nil; exact WhAll_nil; exact WhAll_nil; exact WhAll_nil; refine WhAll_cons rfl ?_ ?_; refine Wo_alloc2 rfl flat25 ?_
          rintro b4 w7 hb4 E7 hB4; have hlb4 := hB4.lt; have hs7 := E7.size; refine Wo_nil ?_; refine ⟨((E5.trans E6).trans E7), ?_⟩; refine Wh_all (rs := [1]) (by kernel_rfl) rfl ?_; refine WhAll_cons rfl ?_ ?_
          refine Wo_call rfl (opc1 (a := .agg _) Try.call55 rfl) (k3 _ _ _ ((Mono.mono ((((((E1.trans E2).trans E3).trans E4).trans E5).trans E6).trans E7) h1)) ((Mono.mono ((((((E1.trans E2).trans E3).trans E4).trans E5).trans E6).trans E7) h2))) ?_
          rintro _ w8 ⟨u3, q1, rfl, E8, hO1, hQ1, hd1⟩; have icu3 := OwnedB.isC (Owned.toB hO1); have cpu3 := OwnedB.capOk (Owned.toB hO1); have icq1 := OwnedB.isC (Owned.toB hQ1); have cpq1 := OwnedB.capOk (Owned.toB hQ1)
          have hs8 := E8.size; refine Wo_nil ?_; refine ⟨(((E5.trans E6).trans E7).trans E8), ?_⟩; refine Wh_all (rs := [3]) (by kernel_rfl) rfl ?_; refine WhAll_cons rfl ?_ ?_
          refine Wo_call rfl (opc1 (a := .agg _) Try.call55 rfl) (k4 _ _ _ ((Mono.mono (((((((E1.trans E2).trans E3).trans E4).trans E5).trans E6).trans E7).trans E8) h3)) ((Mono.mono (((((((E1.trans E2).trans E3).trans E4).trans E5).trans E6).trans E7).trans E8) h4))) ?_
          rintro _ w9 ⟨u4, q2, rfl, E9, hO2, hQ2, hd2⟩; have icu4 := OwnedB.isC (Owned.toB hO2); have cpu4 := OwnedB.capOk (Owned.toB hO2); have icq2 := OwnedB.isC (Owned.toB hQ2); have cpq2 := OwnedB.capOk (Owned.toB hQ2)
          have hs9 := E9.size; refine Wo_nil ?_; refine ⟨((((E5.trans E6).trans E7).trans E8).trans E9), ?_⟩; refine Wh_all (rs := [6]) (by kernel_rfl) rfl ?_; refine WhAll_cons rfl ?_ ?_
          refine Wo_st2 rfl Try.sizeOf25 rfl rfl (by first | rfl | assumption) (by first | rfl | assumption) (hB4.ext (E8.trans E9)) (by omega) ((((((((E1.trans E2).trans E3).trans E4).trans E5).trans E6).trans E7).trans E8).trans E9) ?_
          rintro w10 E10 hB4 K2 hz2
          have E11 := (((((((E2.trans E3).trans E4).trans E5).trans E6).trans E7).trans E8).trans E9).wroteAt ((((((((E1.trans E2).trans E3).trans E4).trans E5).trans E6).trans E7).trans E8).trans E9) E10 K2 hz2 (by omega)
          have szE11 := E11.size; have E12 := ((((((E3.trans E4).trans E5).trans E6).trans E7).trans E8).trans E9).wroteAt ((((((((E1.trans E2).trans E3).trans E4).trans E5).trans E6).trans E7).trans E8).trans E9) E10 K2 hz2 (by omega)
          have szE12 := E12.size; have E13 := (((((E4.trans E5).trans E6).trans E7).trans E8).trans E9).wroteAt ((((((((E1.trans E2).trans E3).trans E4).trans E5).trans E6).trans E7).trans E8).trans E9) E10 K2 hz2 (by omega)
          have szE13 := E13.size; have E14 := ((((E5.trans E6).trans E7).trans E8).trans E9).wroteAt ((((((((E1.trans E2).trans E3).trans E4).trans E5).trans E6).trans E7).trans E8).trans E9) E10 K2 hz2 (by omega); have szE14 := E14.size
          have E15 := (((E6.trans E7).trans E8).trans E9).wroteAt ((((((((E1.trans E2).trans E3).trans E4).trans E5).trans E6).trans E7).trans E8).trans E9) E10 K2 hz2 (by omega); have szE15 := E15.size
          have E16 := ((E7.trans E8).trans E9).wroteAt ((((((((E1.trans E2).trans E3).trans E4).trans E5).trans E6).trans E7).trans E8).trans E9) E10 K2 hz2 (by omega); have szE16 := E16.size
          have hB1 := (hB1.ext (((((((E2.trans E3).trans E4).trans E5).trans E6).trans E7).trans E8).trans E9)).of_heap (K2 _ (by omega))
          have hB2 := (hB2.ext ((((((E3.trans E4).trans E5).trans E6).trans E7).trans E8).trans E9)).of_heap (K2 _ (by omega)); have hB3 := (hB3.ext ((E7.trans E8).trans E9)).of_heap (K2 _ (by omega))
          have hO1 := (hO1.toB.ext E9).wrote K2 (by omega); have hQ1 := (hQ1.toB.ext E9).wrote K2 (by omega); have hO2 := hO2.toB.wrote K2 (by omega); have hQ2 := hQ2.toB.wrote K2 (by omega); refine Wo_nil ?_; refine ⟨E14, ?_⟩
          refine Wh_all (rs := [7]) (by kernel_rfl) rfl ?_; refine WhAll_cons rfl ?_ ?_; refine Wo_st2 rfl Try.sizeOf25 rfl rfl (by first | rfl | assumption) (by first | rfl | assumption) hB3 (by omega) E10 ?_; rintro w11 E17 hB3 K3 hz3
          have E18 := E11.wroteAt E10 E17 K3 hz3 (by omega); have szE18 := E18.size; have E19 := E12.wroteAt E10 E17 K3 hz3 (by omega); have szE19 := E19.size; have E20 := E13.wroteAt E10 E17 K3 hz3 (by omega); have szE20 := E20.size
          have E21 := E14.wroteAt E10 E17 K3 hz3 (by omega); have szE21 := E21.size; have E22 := E15.wroteAt E10 E17 K3 hz3 (by omega); have szE22 := E22.size; have hB4 := hB4.of_heap (K3 _ (by omega))
          have hB1 := hB1.of_heap (K3 _ (by omega)); have hB2 := hB2.of_heap (K3 _ (by omega)); have hO1 := hO1.wrote K3 (by omega); have hQ1 := hQ1.wrote K3 (by omega); have hO2 := hO2.wrote K3 (by omega); have hQ2 := hQ2.wrote K3 (by omega)
          refine Wo_nil ?_; refine ⟨E21, ?_⟩; refine Wh_done (by kernel_rfl) ?_; rotate_left; exact WhAll_nil; exact WhAll_nil; exact WhAll_nil; exact WhAll_nil; exact WhAll_nil; exact WhAll_nil
        all_goals
          first
          | refine ⟨(b3, b4, u3, q1, u4, q2), ⟨rfl, rfl, trivial⟩, by repeat (first | with_reducible exact Same.refl | refine Same.upd rfl ?_ | refine Same.upds rfl ?_ | refine Same.mix rfl ?_), ?_⟩
          | refine ⟨(b4, b3, u3, q1, u4, q2), ⟨rfl, rfl, trivial⟩, by repeat (first | with_reducible exact Same.refl | refine Same.upd rfl ?_ | refine Same.upds rfl ?_ | refine Same.mix rfl ?_), ?_⟩
          exact ⟨by assumption, by assumption, by assumption, hO1.read, hQ1.read, hO2.read, hQ2.read⟩
      clear heldS k3 k4
      rintro ⟨b6, b7, x1, x2, y1, y2⟩ ρy w20 ⟨E20, hB6, hB7, i1, i2, i3, i4⟩
      focus
        have szE20 := E20.size; have szE4 := E4.size; have szE3 := E3.size; have szE2 := E2.size; have szE1 := E1.size; refine W_seq ?_; refine W_region rfl ?_; refine Wo rfl (opv_fieldAddr Try.underlying25 rfl rfl Try.sizeOf23 rfl) ?_
        refine Wo (v := x1) rfl (opv_load Try.isAgg23 rfl (hB6.cell rfl)) ?_; refine Wo rfl (opv_fieldAddr Try.underlying25 rfl rfl Try.sizeOf23 rfl) ?_; refine Wo (v := y1) rfl (opv_load Try.isAgg23 rfl (hB7.cell rfl)) ?_
        refine Wo_call rfl (opc2 (a := x1) (b := y1) Try.call56 rfl rfl) (Equal_ok _ _ _ _ _ (i1) (i3)) ?_; rintro _ w5 ⟨rfl, E5⟩; have hs5 := E5.size; refine Wo_split_dec rfl (opv_move (v := .bool _) rfl) (fun h7 => ?_) (fun h7 => ?_)
        refine Wo rfl (opv_fieldAddr Try.underlying25 rfl rfl Try.sizeOf23 rfl) ?_; refine Wo (v := x2) rfl (opv_load Try.isAgg23 rfl ((hB6.ext E5).cell rfl)) ?_; refine Wo rfl (opv_fieldAddr Try.underlying25 rfl rfl Try.sizeOf23 rfl) ?_
        refine Wo (v := y2) rfl (opv_load Try.isAgg23 rfl ((hB7.ext E5).cell rfl)) ?_; refine Wo_call rfl (opc2 (a := x2) (b := y2) Try.call56 rfl rfl) (Equal_ok _ _ _ _ _ ((Mono.mono E5 i2)) ((Mono.mono E5 i4))) ?_; rintro _ w6 ⟨rfl, E6⟩
        have hs6 := E6.size; refine Wo rfl (opv_pick_t (v := .bool _) rfl rfl) ?_; refine Wo rfl (opv_assign (v := .bool _) rfl) ?_; refine Wo_nil ?_; refine W_ret ?_; refine at_ret (v := .bool _) rfl ?_
        refine ⟨congrArg Value.bool ?_, ((((((E1.trans E2).trans E3).trans E4).trans E20).trans E5).trans E6)⟩; rotate_left; refine Wo_skip rfl ?_; refine Wo_skip rfl ?_; refine Wo_skip rfl ?_; refine Wo_skip rfl ?_; refine Wo_skip rfl ?_
        refine Wo rfl (opv_pick_f (v := .bool _) rfl rfl) ?_; refine Wo rfl (opv_assign (v := .bool _) rfl) ?_; refine Wo_nil ?_; refine W_ret ?_; refine at_ret (v := .bool _) rfl ?_
        refine ⟨congrArg Value.bool ?_, (((((E1.trans E2).trans E3).trans E4).trans E20).trans E5)⟩; rotate_left
      all_goals simp_all
    · have k2 := hok' false (decide_eq_false hs')
      have e0 : ssV A B A' B' = false := decide_eq_false (fun h => hs' h.2.1)
      rw [e0]
      clear hok hok'
      refine fn_of_W1 Try.func14 rfl Try.results14 Try.ntmps14 rfl ?_
      focus
        refine W_seq ?_; refine W_region rfl ?_; refine Wo_box rfl rfl rfl ?_; rintro b1 w1 hb1 E1 hB1; have hlb1 := hB1.lt; have hs1 := E1.size; refine Wo_box rfl rfl rfl ?_; rintro b2 w2 hb2 E2 hB2; have hlb2 := hB2.lt
        have hs2 := E2.size; refine Wo rfl (opv_assign (v := .bool _) rfl) ?_; refine Wo_nil ?_; refine W_seq ?_; refine W_seq ?_; refine W_region rfl ?_; refine Wo (v := .agg _) rfl (opv_load2 Try.isAgg25 Try.sizeOf25 rfl (hB1.ext E2)) ?_
        refine Wo_call rfl (opc1 (a := .agg _) Try.call54 rfl) (k1 _ _ _ ((Mono.mono (E1.trans E2) h1)) ((Mono.mono (E1.trans E2) h2))) ?_; rintro _ w3 ⟨rfl, E3⟩; have hs3 := E3.size; refine Wo rfl (opv_not rfl) ?_
        refine Wo_split rfl (opv_move (v := .bool _) rfl) (fun h5 => ?_) (fun h5 => ?_); contradiction; refine Wo (v := .agg _) rfl (opv_load2 Try.isAgg25 Try.sizeOf25 rfl (hB2.ext E3)) ?_
        refine Wo_call rfl (opc1 (a := .agg _) Try.call54 rfl) (k2 _ _ _ ((Mono.mono ((E1.trans E2).trans E3) h3)) ((Mono.mono ((E1.trans E2).trans E3) h4))) ?_; rintro _ w4 ⟨rfl, E4⟩; have hs4 := E4.size; refine Wo rfl (opv_not rfl) ?_
        refine Wo rfl (opv_pick_f (v := .bool _) rfl rfl) ?_; refine Wo_nil ?_; refine W_cond rfl (fun h6 => ?_) (fun h6 => ?_); refine W_seq ?_; refine W_region rfl ?_; refine Wo rfl (opv_assign (v := .bool _) rfl) ?_; refine Wo_nil ?_
        refine W_ret ?_; exact ⟨rfl, (((E1.trans E2).trans E3).trans E4)⟩; contradiction
  · have k1 := hok false (decide_eq_false hs)
    have e0 : ssV A B A' B' = false := decide_eq_false (fun h => hs h.1)
    rw [e0]
    clear hok hok'
    refine fn_of_W1 Try.func14 rfl Try.results14 Try.ntmps14 rfl ?_
    focus
      refine W_seq ?_; refine W_region rfl ?_; refine Wo_box rfl rfl rfl ?_; rintro b1 w1 hb1 E1 hB1; have hlb1 := hB1.lt; have hs1 := E1.size; refine Wo_box rfl rfl rfl ?_; rintro b2 w2 hb2 E2 hB2; have hlb2 := hB2.lt
      have hs2 := E2.size; refine Wo rfl (opv_assign (v := .bool _) rfl) ?_; refine Wo_nil ?_; refine W_seq ?_; refine W_seq ?_; refine W_region rfl ?_; refine Wo (v := .agg _) rfl (opv_load2 Try.isAgg25 Try.sizeOf25 rfl (hB1.ext E2)) ?_
      refine Wo_call rfl (opc1 (a := .agg _) Try.call54 rfl) (k1 _ _ _ ((Mono.mono (E1.trans E2) h1)) ((Mono.mono (E1.trans E2) h2))) ?_; rintro _ w3 ⟨rfl, E3⟩; have hs3 := E3.size; refine Wo rfl (opv_not rfl) ?_
      refine Wo_split rfl (opv_move (v := .bool _) rfl) (fun h5 => ?_) (fun h5 => ?_); refine Wo_skip rfl ?_; refine Wo_skip rfl ?_; refine Wo_skip rfl ?_; refine Wo rfl (opv_pick_t (v := .bool _) rfl rfl) ?_; refine Wo_nil ?_
      refine W_cond_true rfl ?_; refine W_seq ?_; refine W_region rfl ?_; refine Wo rfl (opv_assign (v := .bool _) rfl) ?_; refine Wo_nil ?_; refine W_ret ?_; exact ⟨rfl, ((E1.trans E2).trans E3)⟩; contradiction

theorem rst_stm {A B : List Int} (h : Stm A B) (n : Nat) : Stm (shL (shf (bat A B) n)) (shR (shf (bat A B) n)) ∧ bat (shL (shf (bat A B) n)) (shR (shf (bat A B) n)) = shf (bat A B) n := by
  have hp := per_shf h.per n
  obtain ⟨b, q, hs⟩ := IsSh.ex hp
  obtain ⟨e1, e2⟩ := hs.eq
  have h3 := hs.2 _ _ hp
  have hl := h.2.2
  unfold shL shR
  rw [e1, e2]
  exact ⟨stm_win (fun k => h.bit _) hs.1.1 (by omega), bat_win hs.1⟩
end Go.Proofs.Ytlalfmialbolhaa
namespace Go.Hs
end Go.Hs
namespace Go.Proofs.Ytlalfmialbolhaa
open Go.Hs
set_option maxRecDepth 10000
set_option maxHeartbeats 4000000
set_option linter.unusedVariables false
set_option linter.unusedSimpArgs false

end Go.Proofs.Ytlalfmialbolhaa
namespace Go.Proofs.Ytlalfmialbolhaa
open Go.Hs
set_option maxRecDepth 10000
set_option maxHeartbeats 4000000
set_option linter.unusedVariables false
set_option linter.unusedSimpArgs false

end Go.Proofs.Ytlalfmialbolhaa
namespace Go.Proofs.Ytlalfmialbolhaa
open Go.Hs
set_option maxRecDepth 10000
set_option maxHeartbeats 4000000
set_option linter.unusedVariables false
set_option linter.unusedSimpArgs false
theorem ints_any2 (l : List Nat) (g : Int → Bool) : (ints l).any g = l.any fun x => g (x : Int) := by
  unfold ints; rw [List.any_map]; rfl
theorem ints_get2 {l : List Nat} {k : Nat} (h : k < l.length) : (ints l)[k]'(by rw [ints_len]; exact h) = ((l[k] : Nat) : Int) := by simp [ints]
theorem arr_le5 {p : List (List Int)} (hp : Gr p) {i : Nat} (hi : i < p.length) : (arr p i).length ≤ 11 := by
  have h8 := arrR_len (p.getD i [])
  rw [getD_lt (by omega), hp.row (by omega)] at h8
  have := hp.2.1
  unfold arr; rw [getD_lt (by omega)]; omega

theorem answered_ok (w : World) (v v' : Value) (p : List (List Int)) (h : ESl Ints w v p) (hp : Gr p) (S : Nat → Nat → Bool) (h' : ESl Ints w v' (matV p S)) (a b : Nat) (ha : a < p.length) (hb : b < p.length) :
    Does Try.prog 89 [v, v', .int .i64 (a : Int), .int .i64 (b : Int)] w (Ret w (.bool (mch p S a b && (arr p b).all fun y => (arr p a).any fun x => S x y))) := by
  have hp5 := hp.2.1
  have hml := matV_len (p := p) S
  obtain ⟨qa, qc, rfl, _⟩ := id h'
  have harr : ∀ (w : World) (pv : Value) (z : Nat), ESl Ints w pv p → z < p.length → Does Try.prog 91 [pv, .int .i64 (z : Int)] w (RetO w XI (ints (arr p z))) := fun w pv z h hz =>
    arrowsOf_ok w pv p h (z : Int) (by omega) (by rw [getD_lt (by omega), hp.row (by omega)]; omega)
  have hcl1 : ∀ (w1 : World) (b3 b4 x y : Nat), Ext w w1 → Blk w1 b3 [.slice qa (matV p S).length qc] → Blk w1 b4 [.int .i64 (x : Int)] → x < p.length → y < p.length → Does Try.prog 94 [.int .i64 (y : Int), .pointer (some ⟨b3, 0, none⟩), .pointer (some ⟨b4, 0, none⟩)] w1 (Ret w1 (.bool (S x y))) := by
    intro w1 b3 b4 x y E0 hB3 hB4 hx hy
    have hmr := matV_rlen (p := p) (S := S) hx
    have hme := matV_at (p := p) (S := S) hx hy
    refine fn_of_W1 Try.func94 rfl Try.results94 Try.ntmps94 rfl ?_
    focus
      have szE0 := E0.size; refine W_seq ?_; refine W_region rfl ?_; refine Wo rfl (opv_assign (v := .bool _) rfl) ?_; refine Wo_nil ?_; refine W_seq ?_; refine W_region rfl ?_
      refine Wo (v := .slice _ _ _) rfl (opv_load Try.isAgg50 rfl (hB3.cell rfl)) ?_; refine Wo (v := .int _ _) rfl (opv_load Try.isAgg3 rfl (hB4.cell rfl)) ?_
      refine Wo_get Try.underlying50 Try.sizeOf23 Try.isAgg23 rfl (fun _ => rfl) rfl h' E0 rfl (by first | omega | (simp <;> omega)) ?_; rintro _ u1 hu1; refine Wo rfl (opv_move (v := .int _ _) rfl) ?_
      refine Wo_get Try.underlying23 Try.sizeOf3 Try.isAgg3 rfl (fun _ => rfl) rfl hu1 E0 rfl (by first | omega | (simp <;> omega)) ?_; rintro _ _ rfl; refine Wo rfl (opv_eql rfl rfl) ?_; refine Wo rfl (opv_assign (v := .bool _) rfl) ?_
      refine Wo_nil ?_; refine W_ret ?_; refine at_ret (v := .bool _) rfl ?_; refine ⟨congrArg Value.bool ?_, (Ext.refl _)⟩
    all_goals
      rw [hme]
      cases S x y <;> rfl
  have hcl2 : ∀ (w1 : World) (b3 b4 x y : Nat), Ext w w1 → Blk w1 b3 [.slice qa (matV p S).length qc] → Blk w1 b4 [.int .i64 (y : Int)] → x < p.length → y < p.length → Does Try.prog 95 [.int .i64 (x : Int), .pointer (some ⟨b3, 0, none⟩), .pointer (some ⟨b4, 0, none⟩)] w1 (Ret w1 (.bool (S x y))) := by
    intro w1 b3 b4 x y E0 hB3 hB4 hx hy
    have hmr := matV_rlen (p := p) (S := S) hx
    have hme := matV_at (p := p) (S := S) hx hy
    refine fn_of_W1 Try.func95 rfl Try.results95 Try.ntmps95 rfl ?_
    focus
      have szE0 := E0.size; refine W_seq ?_; refine W_region rfl ?_; refine Wo rfl (opv_assign (v := .bool _) rfl) ?_; refine Wo_nil ?_; refine W_seq ?_; refine W_draw mixed (by kernel_rfl) rfl ?_
      refine Wq_o (v := .slice _ _ _) rfl (fun w' hw' => opv_load Try.isAgg50 rfl ((hB3.ext hw').cell rfl)) ?_; refine Wq_o rfl (fun _ _ => opv_move (v := .int _ _) rfl) ?_
      refine Wq_get Try.underlying50 Try.sizeOf23 Try.isAgg23 rfl (fun _ => rfl) rfl h' E0 rfl (by first | omega | (simp <;> omega)) ?_; rintro _ u1 hu1
      refine Wq_o (v := .int _ _) rfl (fun w' hw' => opv_load Try.isAgg3 rfl ((hB4.ext hw').cell rfl)) ?_; refine Wq_get Try.underlying23 Try.sizeOf3 Try.isAgg3 rfl (fun _ => rfl) rfl hu1 E0 rfl (by first | omega | (simp <;> omega)) ?_
      rintro _ _ rfl; refine Wq_o rfl (fun _ _ => opv_eql rfl rfl) ?_; refine Wq_o rfl (fun _ _ => opv_assign (v := .bool _) rfl) ?_; refine Wq_nil (fun w2 E1 => ?_); have hs1 := E1.size; refine W_ret ?_
      refine at_ret (v := .bool _) rfl ?_; refine ⟨congrArg Value.bool ?_, E1⟩
    all_goals
      rw [hme]
      cases S x y <;> rfl
  refine fn_of_W1 Try.func89 rfl Try.results89 Try.ntmps89 rfl ?_
  focus
    refine W_seq ?_; refine W_region rfl ?_; refine Wo_box rfl rfl rfl ?_; rintro b1 w1 hb1 E1 hB1; have hlb1 := hB1.lt; have hs1 := E1.size; refine Wo rfl (opv_assign (v := .bool _) rfl) ?_; refine Wo_nil ?_; refine W_seq ?_
    refine W_seq ?_; refine W_region rfl ?_; refine Wo rfl (opv_move (v := v) rfl) ?_; refine Wo rfl (opv_move (v := .int _ _) rfl) ?_
    refine Wo_call rfl (opc2 (a := v) (b := .int _ _) Try.call91 rfl rfl) (harr _ _ _ ((Mono.mono E1 h)) (by assumption)) ?_; rintro u1 w2 ⟨E2, hO1⟩; have hs2 := E2.size; refine Wo rfl (opv_len Try.underlying23 rfl (Owned.read hO1)) ?_
    refine Wo rfl (opv_move (v := .int _ _) rfl) ?_; refine Wo_nil ?_; refine W_block ?_
  have hla := ints_len (arr p a)
  have hlb := ints_len (arr p b)
  have ha5 := arr_le5 hp ha
  have hb5 := arr_le5 hp hb
  have hB1' : Blk w1 b1 [.slice qa (matV p S).length qc] := hB1
  have hB2' := hB1'.ext E2
  clear hB1 hB1'
  refine W_loop [8, 10, 17, 18, 19, 20, 21, 22, 23, 24, 25, 26, 27] (fun (k : Nat) => [(17, .int .i64 (k : Nat))]) (fun k w' => Ext w2 w' ∧ k ≤ (arr p a).length ∧ ((arr p a).take k).all (fun x => (arr p b).any fun y => S x y) = true) (fun x => (arr p a).length - x) 0 (by repeat (first | exact trivial | refine And.intro rfl ?_)) ?_ ?_
  · exact ⟨Ext.refl _, Nat.zero_le _, by simp⟩
  rintro k ρj w3 ⟨E3, hk, hg⟩
  by_cases hkl : k < (arr p a).length
  · have hmm := List.getElem_mem hkl
    have hga := ints_get2 hkl
    have hts := take_snoc _ _ hkl
    have hxl := ((mem_arr hp ha).1 hmm).1
    have hcon : ∀ (w1 : World) (u : Value) (b3 b4 : Nat), Ext w w1 → Blk w1 b3 [.slice qa (matV p S).length qc] → Blk w1 b4 [.int .i64 ((ints (arr p a))[k]'(by omega))] → Ints w1 u (ints (arr p b)) → Does Try.prog 85 [u, .func (.func 94) [].toArray [.pointer (some ⟨b3, 0, none⟩), .pointer (some ⟨b4, 0, none⟩)].toArray] w1 (Ret w1 (.bool ((arr p b).any fun y => S (arr p a)[k] y))) := by
      intro w1 u b3 b4 E0 hB3 hB4 hu
      rw [hga] at hB4
      have := ContainsFunc_ok w1 u _ hu 94 [.pointer (some ⟨b3, 0, none⟩), .pointer (some ⟨b4, 0, none⟩)] (fun y => S (arr p a)[k] y.toNat) Try.call94 (fun y w' hy e => by
        simp only [ints, List.mem_map] at hy
        obtain ⟨j, hj, rfl⟩ := hy
        exact hcl1 w' b3 b4 _ j (E0.trans e) (hB3.ext e) (hB4.ext e) hxl ((mem_arr hp hb).1 hj).1)
      rw [ints_any2] at this
      exact this
    focus
      have szE3 := E3.size; have szE2 := E2.size; have szE1 := E1.size; refine W_seq ?_; refine W_region rfl ?_; refine Wo rfl (opv_lss rfl rfl) ?_; refine Wo_nil ?_; refine W_seq ?_; refine W_cond_dec rfl (fun h1 => ?_) (fun h1 => ?_)
      refine W_skip ?_; refine W_seq ?_; refine W_block ?_; refine W_seq ?_; refine W_region rfl ?_
      refine Wo_get Try.underlying23 Try.sizeOf3 Try.isAgg3 rfl (fun _ => rfl) rfl (Owned.read hO1) E3 rfl (by first | omega | (simp <;> omega)) ?_; rintro _ _ rfl; refine Wo_alloc rfl Try.zeroValue3 rfl ?_; rintro b2 w4 hb2 E4 hB1
      have hlb2 := hB1.lt; have hs3 := E4.size; refine Wo_st (v := .int _ _) rfl Try.sizeOf3 rfl rfl rfl hB1 (by decide) (by omega) (((E1.trans E2).trans E3).trans E4) ?_; rintro w5 E5 hB1 K1 hz1
      have E6 := ((E2.trans E3).trans E4).wroteAt (((E1.trans E2).trans E3).trans E4) E5 K1 hz1 (by omega); have szE6 := E6.size; have E7 := (E3.trans E4).wroteAt (((E1.trans E2).trans E3).trans E4) E5 K1 hz1 (by omega)
      have szE7 := E7.size; have E8 := E4.wroteAt (((E1.trans E2).trans E3).trans E4) E5 K1 hz1 (by omega); have szE8 := E8.size; simp only [List.set] at hB1; have hO1 := (hO1.toB.ext (E3.trans E4)).wrote K1 (by omega)
      have hB2' := (hB2'.ext (E3.trans E4)).of_heap (K1 _ (by omega)); refine Wo_nil ?_; refine W_seq ?_; refine W_region rfl ?_; refine Wo rfl (opv_move (v := v) rfl) ?_; refine Wo rfl (opv_move (v := .int _ _) rfl) ?_
      refine Wo_call rfl (opc2 (a := v) (b := .int _ _) Try.call91 rfl rfl) (harr _ _ _ ((Mono.mono E5 h)) (by assumption)) ?_; rintro u2 w6 ⟨E9, hO2⟩; have hs4 := E9.size; refine Wo rfl (opv_makeFunc rfl rfl) ?_
      refine Wo_call rfl (opc2 (a := u2) (b := .func _ _ _) Try.call85 rfl rfl) (hcon _ _ _ _ ((E5.trans E9)) ((hB2'.ext E9)) ((hB1.ext E9)) ((Owned.read hO2))) ?_; rintro _ w7 ⟨rfl, E10⟩; have hs5 := E10.size
      refine Wo rfl (opv_not rfl) ?_; refine Wo_nil ?_; refine W_cond rfl (fun h2 => ?_) (fun h2 => ?_); refine W_seq ?_; refine W_region rfl ?_; refine Wo rfl (opv_assign (v := .bool _) rfl) ?_; refine Wo_nil ?_; refine W_ret ?_
      refine at_ret (v := .bool _) rfl ?_; refine ⟨congrArg Value.bool ?_, ((E5.trans E9).trans E10)⟩; rotate_left; refine W_skip ?_; refine W_region rfl ?_; refine Wo rfl (opv_add rfl rfl (by omega)) ?_
      refine Wo rfl (opv_move (v := .int _ _) rfl) ?_; refine Wo_nil ?_; rotate_left; (exfalso; omega)
    · have hz : ((arr p b).any fun y => S (arr p a)[k] y) = false := by
        cases hq : (arr p b).any fun y => S (arr p a)[k] y with
        | false => rfl
        | true => exact absurd (show (!((arr p b).any fun y => S (arr p a)[k] y)) = true by assumption) (by rw [hq]; decide)
      have hm0 : mch p S a b = false := List.all_eq_false.2 ⟨_, hmm, by rw [hz]; decide⟩
      rw [hm0]; rfl
    · have hz : ((arr p b).any fun y => S (arr p a)[k] y) = true := by
        cases hq : (arr p b).any fun y => S (arr p a)[k] y with
        | true => rfl
        | false => exact absurd (show (!((arr p b).any fun y => S (arr p a)[k] y)) = false by assumption) (by rw [hq]; decide)
      refine ⟨(k + 1), by repeat (first | exact trivial | refine And.intro rfl ?_), by repeat (first | with_reducible exact Same.refl | refine Same.upd rfl ?_ | refine Same.upds rfl ?_ | refine Same.mix rfl ?_), ?_, ?_⟩
      · refine ⟨E7.trans (E9.trans E10), by omega, ?_⟩
        rw [hts, List.all_append, hg, List.all_cons, hz]; rfl
      · omega
  · obtain rfl : k = (arr p a).length := by omega
    rw [List.take_length] at hg
    have hm1 : mch p S a b = true := hg
    rw [hm1, Bool.true_and]
    clear hg hm1 hk hkl
    focus
      have szE3 := E3.size; have szE2 := E2.size; have szE1 := E1.size; refine W_seq ?_; refine W_region rfl ?_; refine Wo rfl (opv_lss rfl rfl) ?_; refine Wo_nil ?_; refine W_seq ?_; refine W_cond_dec rfl (fun h1 => ?_) (fun h1 => ?_)
      (exfalso; omega); refine W_exit ?_; refine exitX_same ?_; refine W_seq ?_; refine W_seq ?_; refine W_region rfl ?_; refine Wo rfl (opv_move (v := v) rfl) ?_; refine Wo rfl (opv_move (v := .int _ _) rfl) ?_
      refine Wo_call rfl (opc2 (a := v) (b := .int _ _) Try.call91 rfl rfl) (harr _ _ _ ((Mono.mono ((E1.trans E2).trans E3) h)) (by assumption)) ?_; rintro u2 w4 ⟨E4, hO2⟩; have hs3 := E4.size
      refine Wo rfl (opv_len Try.underlying23 rfl (Owned.read hO2)) ?_; refine Wo rfl (opv_move (v := .int _ _) rfl) ?_; refine Wo_nil ?_; refine W_block ?_
    have hB4' := hB2'.ext (E3.trans E4)
    refine W_loop [8, 12, 32, 33, 34, 35, 36, 37, 38, 39, 40, 41, 42] (fun (k : Nat) => [(32, .int .i64 (k : Nat))]) (fun k w' => Ext w4 w' ∧ k ≤ (arr p b).length ∧ ((arr p b).take k).all (fun y => (arr p a).any fun x => S x y) = true) (fun x => (arr p b).length - x) 0 (by repeat (first | exact trivial | refine And.intro rfl ?_)) ?_ ?_
    · exact ⟨Ext.refl _, Nat.zero_le _, by simp⟩
    rintro k ρk w5 ⟨E5, hk, hg⟩
    by_cases hkl : k < (arr p b).length
    · have hmm := List.getElem_mem hkl
      have hga := ints_get2 hkl
      have hts := take_snoc _ _ hkl
      have hxl := ((mem_arr hp hb).1 hmm).1
      have hcon : ∀ (w1 : World) (u : Value) (b3 b4 : Nat), Ext w w1 → Blk w1 b3 [.slice qa (matV p S).length qc] → Blk w1 b4 [.int .i64 ((ints (arr p b))[k]'(by omega))] → Ints w1 u (ints (arr p a)) → Does Try.prog 85 [u, .func (.func 95) [].toArray [.pointer (some ⟨b3, 0, none⟩), .pointer (some ⟨b4, 0, none⟩)].toArray] w1 (Ret w1 (.bool ((arr p a).any fun x => S x (arr p b)[k]))) := by
        intro w1 u b3 b4 E0 hB3 hB4 hu
        rw [hga] at hB4
        have := ContainsFunc_ok w1 u _ hu 95 [.pointer (some ⟨b3, 0, none⟩), .pointer (some ⟨b4, 0, none⟩)] (fun x => S x.toNat (arr p b)[k]) Try.call95 (fun y w' hy e => by
          simp only [ints, List.mem_map] at hy
          obtain ⟨j, hj, rfl⟩ := hy
          exact hcl2 w' b3 b4 j _ (E0.trans e) (hB3.ext e) (hB4.ext e) ((mem_arr hp ha).1 hj).1 hxl)
        rw [ints_any2] at this
        exact this
      focus
        have szE5 := E5.size; have szE4 := E4.size; have szE3 := E3.size; have szE2 := E2.size; have szE1 := E1.size; refine W_seq ?_; refine W_region rfl ?_; refine Wo rfl (opv_lss rfl rfl) ?_; refine Wo_nil ?_; refine W_seq ?_
        refine W_cond_dec rfl (fun h2 => ?_) (fun h2 => ?_); refine W_skip ?_; refine W_seq ?_; refine W_block ?_; refine W_seq ?_; refine W_region rfl ?_
        refine Wo_get Try.underlying23 Try.sizeOf3 Try.isAgg3 rfl (fun _ => rfl) rfl (Owned.read hO2) E5 rfl (by first | omega | (simp <;> omega)) ?_; rintro _ _ rfl; refine Wo_alloc rfl Try.zeroValue3 rfl ?_; rintro b2 w6 hb2 E6 hB1
        have hlb2 := hB1.lt; have hs4 := E6.size; refine Wo_st (v := .int _ _) rfl Try.sizeOf3 rfl rfl rfl hB1 (by decide) (by omega) (((((E1.trans E2).trans E3).trans E4).trans E5).trans E6) ?_; rintro w7 E7 hB1 K1 hz1
        have E8 := ((((E2.trans E3).trans E4).trans E5).trans E6).wroteAt (((((E1.trans E2).trans E3).trans E4).trans E5).trans E6) E7 K1 hz1 (by omega); have szE8 := E8.size
        have E9 := (((E3.trans E4).trans E5).trans E6).wroteAt (((((E1.trans E2).trans E3).trans E4).trans E5).trans E6) E7 K1 hz1 (by omega); have szE9 := E9.size
        have E10 := ((E4.trans E5).trans E6).wroteAt (((((E1.trans E2).trans E3).trans E4).trans E5).trans E6) E7 K1 hz1 (by omega); have szE10 := E10.size
        have E11 := (E5.trans E6).wroteAt (((((E1.trans E2).trans E3).trans E4).trans E5).trans E6) E7 K1 hz1 (by omega); have szE11 := E11.size
        have E12 := E6.wroteAt (((((E1.trans E2).trans E3).trans E4).trans E5).trans E6) E7 K1 hz1 (by omega); have szE12 := E12.size; simp only [List.set] at hB1
        have hO1 := (hO1.toB.ext (((E3.trans E4).trans E5).trans E6)).wrote K1 (by omega); have hB2' := (hB2'.ext (((E3.trans E4).trans E5).trans E6)).of_heap (K1 _ (by omega)); have hO2 := (hO2.toB.ext (E5.trans E6)).wrote K1 (by omega)
        have hB4' := (hB4'.ext (E5.trans E6)).of_heap (K1 _ (by omega)); refine Wo_nil ?_; refine W_seq ?_; refine W_region rfl ?_; refine Wo rfl (opv_move (v := v) rfl) ?_; refine Wo rfl (opv_move (v := .int _ _) rfl) ?_
        refine Wo_call rfl (opc2 (a := v) (b := .int _ _) Try.call91 rfl rfl) (harr _ _ _ ((Mono.mono E7 h)) (by assumption)) ?_; rintro u3 w8 ⟨E13, hO3⟩; have hs5 := E13.size; refine Wo rfl (opv_makeFunc rfl rfl) ?_
        refine Wo_call rfl (opc2 (a := u3) (b := .func _ _ _) Try.call85 rfl rfl) (hcon _ _ _ _ ((E7.trans E13)) ((hB2'.ext E13)) ((hB1.ext E13)) ((Owned.read hO3))) ?_; rintro _ w9 ⟨rfl, E14⟩; have hs6 := E14.size
        refine Wo rfl (opv_not rfl) ?_; refine Wo_nil ?_; refine W_cond rfl (fun h3 => ?_) (fun h3 => ?_); refine W_seq ?_; refine W_region rfl ?_; refine Wo rfl (opv_assign (v := .bool _) rfl) ?_; refine Wo_nil ?_; refine W_ret ?_
        refine at_ret (v := .bool _) rfl ?_; refine ⟨congrArg Value.bool ?_, ((E7.trans E13).trans E14)⟩; rotate_left; refine W_skip ?_; refine W_region rfl ?_; refine Wo rfl (opv_add rfl rfl (by omega)) ?_
        refine Wo rfl (opv_move (v := .int _ _) rfl) ?_; refine Wo_nil ?_; rotate_left; (exfalso; omega)
      · have hz : ((arr p a).any fun x => S x (arr p b)[k]) = false := by
          cases hq : (arr p a).any fun x => S x (arr p b)[k] with
          | false => rfl
          | true => exact absurd (show (!((arr p a).any fun x => S x (arr p b)[k])) = true by assumption) (by rw [hq]; decide)
        exact (List.all_eq_false.2 ⟨_, hmm, by rw [hz]; decide⟩).symm
      · have hz : ((arr p a).any fun x => S x (arr p b)[k]) = true := by
          cases hq : (arr p a).any fun x => S x (arr p b)[k] with
          | true => rfl
          | false => exact absurd (show (!((arr p a).any fun x => S x (arr p b)[k])) = false by assumption) (by rw [hq]; decide)
        refine ⟨(k + 1), by repeat (first | exact trivial | refine And.intro rfl ?_), by repeat (first | with_reducible exact Same.refl | refine Same.upd rfl ?_ | refine Same.upds rfl ?_ | refine Same.mix rfl ?_), ?_, ?_⟩
        · refine ⟨E11.trans (E13.trans E14), by omega, ?_⟩
          rw [hts, List.all_append, hg, List.all_cons, hz]; rfl
        · omega
    · obtain rfl : k = (arr p b).length := by omega
      rw [List.take_length] at hg
      focus
        have szE5 := E5.size; have szE4 := E4.size; have szE3 := E3.size; have szE2 := E2.size; have szE1 := E1.size; refine W_seq ?_; refine W_region rfl ?_; refine Wo rfl (opv_lss rfl rfl) ?_; refine Wo_nil ?_; refine W_seq ?_
        refine W_cond_dec rfl (fun h2 => ?_) (fun h2 => ?_); (exfalso; omega); refine W_exit ?_; refine exitX_same ?_; refine W_seq ?_; refine W_region rfl ?_; refine Wo rfl (opv_assign (v := .bool _) rfl) ?_; refine Wo_nil ?_
        refine W_ret ?_; refine at_ret (v := .bool _) rfl ?_; refine ⟨congrArg Value.bool ?_, ((((E1.trans E2).trans E3).trans E4).trans E5)⟩
      exact hg.symm

end Go.Proofs.Ytlalfmialbolhaa
namespace Go.Proofs.Ytlalfmialbolhaa
open Go.Hs
set_option maxRecDepth 10000
set_option maxHeartbeats 4000000
set_option linter.unusedVariables false
set_option linter.unusedSimpArgs false

theorem fill_skip {α : Type} (l : List α) (k : Nat) (h : k < l.length) (z : α) (hz : l[k] = z) : l.take k ++ List.replicate (l.length - k) z = l.take (k + 1) ++ List.replicate (l.length - (k + 1)) z := by
  rw [take_snoc _ _ h, hz, show l.length - k = (l.length - (k + 1)) + 1 by omega, List.replicate_succ]
  simp
theorem set_fill' {α : Type} (l : List α) (n k : Nat) (hn : l.length = n) (h : k < n) (z x : α) (hx : l[k]? = some x) : (l.take k ++ List.replicate (n - k) z).set k x = l.take (k + 1) ++ List.replicate (n - (k + 1)) z := by
  subst hn
  have := set_fill l k h z
  rw [List.getElem?_eq_getElem h] at hx
  rw [← Option.some.inj hx]; exact this
theorem fill_get {α : Type} (l : List α) (k : Nat) (h : k < l.length) (z : α) : (l.take k ++ List.replicate (l.length - k) z)[k]? = some z := by
  have hl : (l.take k).length = k := by rw [List.length_take]; omega
  rw [List.getElem?_append_right (by omega), hl, Nat.sub_self, List.getElem?_replicate, if_pos (by omega)]
theorem leftAfter_ok (w : World) (v : Value) (p : List (List Int)) (h : ESl Ints w v p) (hp : Gr p) (n : Nat) (hn : n ≤ 1000) : Does Try.prog 84 [v, .int .i64 (n : Int)] w (RetO w XR (matV p (bsm p n))) := by
  have hp5 := hp.2.1
  have hle := h.le
  have hem : ∀ w, Does Try.prog 74 [.int .i64 (p.length : Int)] w (RetO w XR (List.replicate p.length (List.replicate p.length 0))) := fun w => emptyPicture_ok w p.length (by omega)
  refine fn_of_W1 Try.func84 rfl Try.results84 Try.ntmps84 rfl ?_
  focus
    refine W_seq ?_; refine W_region rfl ?_; refine Wo rfl (opv_assign (v := .slice _ _ _) rfl) ?_; refine Wo_nil ?_; refine W_seq ?_; refine W_region rfl ?_; refine Wo rfl (opv_move (v := v) rfl) ?_
    refine Wo rfl (opv_len Try.underlying50 rfl h) ?_; refine Wo_call rfl (opc1 (a := .int _ _) Try.call74 rfl) (hem _) ?_; rintro u1 w1 ⟨E1, hO1⟩; have hs1 := E1.size; refine Wo rfl (opv_assign (v := u1) rfl) ?_; refine Wo_nil ?_
    refine W_seq ?_; refine W_seq ?_; refine W_region rfl ?_; refine Wo rfl (opv_move (v := u1) rfl) ?_; refine Wo rfl (opv_len Try.underlying50 rfl (Owned.read hO1)) ?_; refine Wo rfl (opv_move (v := .int _ _) rfl) ?_; refine Wo_nil ?_
    refine W_block ?_
  have hL : (List.replicate p.length (List.replicate p.length (1 : Int))).length = p.length := by simp
  have hL2 : (List.replicate p.length (List.replicate p.length (0 : Int))).length = p.length := by simp
  have hI : (List.replicate p.length (1 : Int)).length = p.length := by simp
  refine W_loop [7, 8, 17, 18, 19, 20, 21, 22, 23, 24, 25, 26, 27, 28, 29, 30] (fun (i, rows) => [(17, .int .i64 (i : Nat))]) (fun (i, rows) w' => Ext w w' ∧ i ≤ p.length ∧ Owned w.heap.size XR w' u1 rows ∧ rows = (List.replicate p.length (List.replicate p.length (1 : Int))).take i ++ List.replicate (p.length - i) (List.replicate p.length 0)) (fun x => p.length - x.1) (0, List.replicate p.length (List.replicate p.length 0)) (by repeat (first | exact trivial | refine And.intro rfl ?_)) ?_ ?_
  · exact ⟨E1, Nat.zero_le _, hO1, by simp⟩
  rintro ⟨i, rows⟩ ρj w2 ⟨E2, hi, hO2, hr⟩
  have hrl : rows.length = p.length := by rw [hr]; simp; omega
  by_cases hil : i < p.length
  · have hri : rows[i] = List.replicate p.length (0 : Int) := by
      have h9 : rows[i]? = some (List.replicate p.length (0 : Int)) := by
        rw [hr]
        have := fill_get (List.replicate p.length (List.replicate p.length (1 : Int))) i (by omega) (List.replicate p.length (0 : Int))
        rw [hL] at this; exact this
      rw [List.getElem?_eq_getElem (by omega)] at h9
      exact Option.some.inj h9
    have hrll : rows[i].length = p.length := by rw [hri]; simp
    obtain ⟨ub, uc, rfl, _⟩ := hO2.lit (by omega)
    have hub := hO2.lt_own (k := ub) rfl
    obtain ⟨brw, crw, hRow, hbw1, hbw2⟩ := hO2.rowAt (i := i) (by omega) (by omega)
    focus
      have szE2 := E2.size; have szE1 := E1.size; refine W_seq ?_; refine W_region rfl ?_; refine Wo rfl (opv_lss rfl rfl) ?_; refine Wo_nil ?_; refine W_seq ?_; refine W_cond_dec rfl (fun h1 => ?_) (fun h1 => ?_); refine W_skip ?_
      refine W_seq ?_; refine W_block ?_; refine W_seq ?_; refine W_region rfl ?_; refine Wo_rowAt Try.underlying50 Try.sizeOf23 Try.isAgg23 rfl (fun _ => rfl) rfl ⟨_, _, rfl⟩ rfl hRow (by first | omega | (simp <;> omega)) ?_; rintro _
      refine Wo rfl (opv_assign (v := .slice _ _ _) rfl) ?_; refine Wo_nil ?_; refine W_seq ?_; refine W_region rfl ?_; refine Wo rfl (opv_move (v := .slice _ _ _) rfl) ?_; refine Wo rfl (opv_len_slice Try.underlying23 rfl) ?_
      refine Wo rfl (opv_move (v := .int _ _) rfl) ?_; refine Wo_nil ?_; refine W_block ?_; rotate_left; (exfalso; omega)
    have hJ : ∀ j, j < p.length → (List.replicate p.length (1 : Int))[j]? = some 1 := fun j hj => by rw [List.getElem?_replicate, if_pos hj]
    refine W_loop [8, 23, 24, 25, 26, 27, 28, 29] (fun (j, rows') => [(23, .int .i64 (j : Nat))]) (fun (j, rows') w' => Ext w w' ∧ w2.heap.size ≤ w'.heap.size ∧ j ≤ p.length ∧ Owned w.heap.size XR w' (.slice (some ⟨ub, 0, none⟩) rows.length uc) rows' ∧ RowAt w' (.slice (some ⟨ub, 0, none⟩) rows.length uc) i brw rows[i].length crw ∧ rows' = rows.set i ((List.replicate p.length (1 : Int)).take j ++ List.replicate (p.length - j) 0)) (fun x => p.length - x.1) (0, rows) (by repeat (first | exact trivial | refine And.intro rfl ?_)) ?_ ?_
    · refine ⟨E2, Nat.le_refl _, Nat.zero_le _, hO2, hRow, ?_⟩
      rw [show (List.replicate p.length (1 : Int)).take 0 ++ List.replicate (p.length - 0) 0 = rows[i] by rw [hri]; simp]
      simp
    rintro ⟨j, rows'⟩ ρk w3 ⟨E3, hs3, hj, hO3, hR3, hr3⟩
    have hrl3 : rows'.length = p.length := by rw [hr3]; simp [hrl]
    have hri3 : rows'[i] = (List.replicate p.length (1 : Int)).take j ++ List.replicate (p.length - j) 0 := by
      simp only [hr3, List.getElem_set_self]
    have hrll3 : rows'[i].length = p.length := by rw [hri3]; simp; omega
    clear hRow hO2
    by_cases hjl : j < p.length
    · have hnew : rows'.set i (rows'[i].set j 1) = rows.set i ((List.replicate p.length (1 : Int)).take (j + 1) ++ List.replicate (p.length - (j + 1)) 0) := by
        rw [hri3, set_fill' _ p.length j hI hjl 0 1 (hJ j hjl), hr3, List.set_set]
      focus
        have szE3 := E3.size; have szE2 := E2.size; have szE1 := E1.size; refine W_seq ?_; refine W_region rfl ?_; refine Wo rfl (opv_lss rfl rfl) ?_; refine Wo_nil ?_; refine W_seq ?_; refine W_cond_dec rfl (fun h2 => ?_) (fun h2 => ?_)
        refine W_skip ?_; refine W_seq ?_; refine W_block ?_; refine W_seq ?_; refine W_region rfl ?_; refine Wo rfl (opv_move (v := .int _ _) rfl) ?_; refine Wo rfl (opv_assign (v := .int _ _) rfl) ?_; refine Wo_nil ?_
        refine W_region rfl ?_; refine Wo rfl (opv_move (v := .slice _ _ _) rfl) ?_; refine Wo rfl (opv_move (v := .int _ _) rfl) ?_; refine Wo rfl (opv_indexAddr Try.underlying23 Try.sizeOf3 rfl rfl (by omega)) ?_
        refine Wo_gset rfl Try.sizeOf3 rfl rfl hO3.toB hR3 (by first | omega | (simp <;> omega)) (by first | omega | (simp <;> omega)) ?_; rintro w4 hO3 hR3 On1 K1 hz1; have E4 := On1.ext1 E3 (by omega); have hs2 := On1.size
        refine Wo_nil ?_; refine W_region rfl ?_; refine Wo rfl (opv_add rfl rfl (by omega)) ?_; refine Wo rfl (opv_move (v := .int _ _) rfl) ?_; refine Wo_nil ?_; rotate_left; (exfalso; omega)
      refine ⟨((j + 1, rows'.set i (rows'[i].set j 1))), by repeat (first | exact trivial | refine And.intro rfl ?_), by repeat (first | with_reducible exact Same.refl | refine Same.upd rfl ?_ | refine Same.upds rfl ?_ | refine Same.mix rfl ?_), ?_, ?_⟩
      · exact ⟨by assumption, by omega, by omega, hO3, hR3, hnew⟩
      · simp only; omega
    · obtain rfl : j = p.length := by omega
      have hnew : rows' = (List.replicate p.length (List.replicate p.length (1 : Int))).take (i + 1) ++ List.replicate (p.length - (i + 1)) (List.replicate p.length 0) := by
        rw [← set_fill' _ p.length i hL hil _ (List.replicate p.length (1 : Int)) (by rw [List.getElem?_replicate, if_pos hil]), hr3, ← hr]
        simp
      focus
        have szE3 := E3.size; have szE2 := E2.size; have szE1 := E1.size; refine W_seq ?_; refine W_region rfl ?_; refine Wo rfl (opv_lss rfl rfl) ?_; refine Wo_nil ?_; refine W_seq ?_; refine W_cond_dec rfl (fun h2 => ?_) (fun h2 => ?_)
        (exfalso; omega); refine W_exit ?_; refine exitX_same ?_; refine W_region rfl ?_; refine Wo rfl (opv_add rfl rfl (by omega)) ?_; refine Wo rfl (opv_move (v := .int _ _) rfl) ?_; refine Wo_nil ?_
      refine ⟨((i + 1, rows')), by repeat (first | exact trivial | refine And.intro rfl ?_), by repeat (first | with_reducible exact Same.refl | refine Same.upd rfl ?_ | refine Same.upds rfl ?_ | refine Same.mix rfl ?_), ?_, ?_⟩
      · exact ⟨E3, by omega, hO3, hnew⟩
      · simp only; omega
  · obtain rfl : i = p.length := by omega
    have hr0 : rows = matV p (bsm p 0) := by rw [hr, ← matV_zero]; simp
    subst hr0
    focus
      have szE2 := E2.size; have szE1 := E1.size; refine W_seq ?_; refine W_region rfl ?_; refine Wo rfl (opv_lss rfl rfl) ?_; refine Wo_nil ?_; refine W_seq ?_; refine W_cond_dec rfl (fun h1 => ?_) (fun h1 => ?_); (exfalso; omega)
      refine W_exit ?_; refine exitX_same ?_; refine W_seq ?_; refine W_seq ?_; refine W_region rfl ?_; refine Wo rfl (opv_move (v := .int _ _) rfl) ?_; refine Wo rfl (opv_move (v := .int _ _) rfl) ?_; refine Wo_nil ?_; refine W_block ?_
    clear hL hI hr
    refine W_loop [5, 9, 10, 11, 32, 33, 34, 35, 36, 37, 38, 39, 40, 41, 42, 43, 44, 45, 46, 47, 48, 49, 50, 51, 52, 53, 54, 55, 56, 57, 58, 59, 60, 61, 62, 63, 64, 65, 66, 67, 68, 69, 70, 71] (fun (m, u) => [(32, .int .i64 (m : Nat)), (5, u)]) (fun (m, u) w' => Ext w w' ∧ m ≤ n ∧ Owned w.heap.size XR w' u (matV p (bsm p m))) (fun x => n - x.1) (0, u1) (by repeat (first | exact trivial | refine And.intro rfl ?_)) ?_ ?_
    · exact ⟨E2, Nat.zero_le _, hO2⟩
    clear hO1 hO2
    rintro ⟨m, u⟩ ρm wm ⟨Em, hm, hOm⟩
    by_cases hmn : m < n
    · have hZ : (List.replicate p.length (List.replicate p.length (0 : Int))).length = p.length := by simp
      have hT := matV_len (p := p) (bsm p (m + 1))
      have hTm := matV_len (p := p) (bsm p m)
      focus
        have szEm := Em.size; have szE2 := E2.size; have szE1 := E1.size; refine W_seq ?_; refine W_region rfl ?_; refine Wo rfl (opv_lss rfl rfl) ?_; refine Wo_nil ?_; refine W_seq ?_; refine W_cond_dec rfl (fun h2 => ?_) (fun h2 => ?_)
        refine W_skip ?_; refine W_seq ?_; refine W_block ?_; refine W_seq ?_; refine W_region rfl ?_; refine Wo rfl (opv_move (v := v) rfl) ?_; refine Wo rfl (opv_len Try.underlying50 rfl h) ?_
        refine Wo_call rfl (opc1 (a := .int _ _) Try.call74 rfl) (hem _) ?_; rintro u2 w3 ⟨E3, hO1⟩; have hs2 := E3.size; refine Wo rfl (opv_assign (v := u2) rfl) ?_; refine Wo_nil ?_; refine W_seq ?_; refine W_seq ?_
        refine W_region rfl ?_; refine Wo rfl (opv_move (v := v) rfl) ?_; refine Wo rfl (opv_len Try.underlying50 rfl h) ?_; refine Wo rfl (opv_move (v := .int _ _) rfl) ?_; refine Wo_nil ?_; refine W_block ?_; rotate_left; (exfalso; omega)
      refine W_loop [10, 11, 39, 40, 41, 42, 43, 44, 45, 46, 47, 48, 49, 50, 51, 52, 53, 54, 55, 56, 57, 58, 59, 60, 61, 62, 63, 64, 65, 66, 67, 68, 69] (fun (a, nx) => [(39, .int .i64 (a : Nat))]) (fun (a, nx) w' => Ext w w' ∧ wm.heap.size ≤ w'.heap.size ∧ a ≤ p.length ∧ OwnedB w.heap.size wm.heap.size XR w' u (matV p (bsm p m)) ∧ Owned wm.heap.size XR w' u2 nx ∧ nx = (matV p (bsm p (m + 1))).take a ++ List.replicate (p.length - a) (List.replicate p.length 0)) (fun x => p.length - x.1) (0, List.replicate p.length (List.replicate p.length 0)) (by repeat (first | exact trivial | refine And.intro rfl ?_)) ?_ ?_
      · exact ⟨Em.trans E3, E3.size, Nat.zero_le _, hOm.toB.ext E3, hO1, by simp⟩
      rintro ⟨a, nx⟩ ρa wa ⟨Ea, hsa, ha, hBa, hOa, hna⟩
      have hnl : nx.length = p.length := by rw [hna]; simp [hT]; omega
      by_cases hal : a < p.length
      · have hra : nx[a] = List.replicate p.length (0 : Int) := by
          have h9 : nx[a]? = some (List.replicate p.length (0 : Int)) := by
            rw [hna]
            have := fill_get (matV p (bsm p (m + 1))) a (by omega) (List.replicate p.length (0 : Int))
            rw [hT] at this; exact this
          rw [List.getElem?_eq_getElem (by omega)] at h9
          exact Option.some.inj h9
        have hral : nx[a].length = p.length := by rw [hra]; simp
        obtain ⟨ub, uc, rfl, _⟩ := hOa.lit (by omega)
        have hub := hOa.lt_own (k := ub) rfl
        obtain ⟨brw, crw, hRow, hbw1, hbw2⟩ := hOa.rowAt (i := a) (by omega) (by omega)
        have hTa := matV_rlen (p := p) (S := bsm p (m + 1)) hal
        have hma := matV_rlen (p := p) (S := bsm p m) hal
        focus
          have szEa := Ea.size; have szE3 := E3.size; have szEm := Em.size; have szE2 := E2.size; have szE1 := E1.size; refine W_seq ?_; refine W_region rfl ?_; refine Wo rfl (opv_lss rfl rfl) ?_; refine Wo_nil ?_; refine W_seq ?_
          refine W_cond_dec rfl (fun h3 => ?_) (fun h3 => ?_); refine W_skip ?_; refine W_seq ?_; refine W_block ?_; refine W_seq ?_; refine W_region rfl ?_; refine Wo rfl (opv_move (v := .int _ _) rfl) ?_
          refine Wo rfl (opv_assign (v := .int _ _) rfl) ?_; refine Wo_nil ?_; refine W_seq ?_; refine W_region rfl ?_; refine Wo rfl (opv_move (v := v) rfl) ?_; refine Wo rfl (opv_len Try.underlying50 rfl h) ?_
          refine Wo rfl (opv_move (v := .int _ _) rfl) ?_; refine Wo_nil ?_; refine W_block ?_; rotate_left; (exfalso; omega)
        refine W_loop [11, 44, 45, 46, 47, 48, 49, 50, 51, 52, 53, 54, 55, 56, 57, 58, 59, 60, 61, 62, 63, 64, 65, 66, 67, 68] (fun (b, nb) => [(44, .int .i64 (b : Nat))]) (fun (b, nb) w' => Ext w w' ∧ wa.heap.size ≤ w'.heap.size ∧ b ≤ p.length ∧ OwnedB w.heap.size wm.heap.size XR w' u (matV p (bsm p m)) ∧ Owned wm.heap.size XR w' (.slice (some ⟨ub, 0, none⟩) nx.length uc) nb ∧ RowAt w' (.slice (some ⟨ub, 0, none⟩) nx.length uc) a brw nx[a].length crw ∧ nb = nx.set a (((matV p (bsm p (m + 1)))[a]'(by omega)).take b ++ List.replicate (p.length - b) 0)) (fun x => p.length - x.1) (0, nx) (by repeat (first | exact trivial | refine And.intro rfl ?_)) ?_ ?_
        · refine ⟨Ea, Nat.le_refl _, Nat.zero_le _, hBa, hOa, hRow, ?_⟩
          rw [show ((matV p (bsm p (m + 1)))[a]'(by omega)).take 0 ++ List.replicate (p.length - 0) 0 = nx[a] by rw [hra]; simp]
          simp
        clear hBa hOa hRow hO1
        rintro ⟨b, nb⟩ ρb wb ⟨Eb, hsb, hb, hBb, hOb, hRb, hnb⟩
        have hbl : nb.length = p.length := by rw [hnb]; simp [hnl]
        have hrb : nb[a] = ((matV p (bsm p (m + 1)))[a]'(by omega)).take b ++ List.replicate (p.length - b) 0 := by
          simp only [hnb, List.getElem_set_self]
        have hrbl : nb[a].length = p.length := by rw [hrb]; simp [hTa]; omega
        by_cases hbl2 : b < p.length
        · have hme := matV_at (p := p) (S := bsm p m) hal hbl2
          have hTe := matV_at (p := p) (S := bsm p (m + 1)) hal hbl2
          have han : ∀ (w : World) (v v' : Value), ESl Ints w v p → ESl Ints w v' (matV p (bsm p m)) → Does Try.prog 89 [v, v', .int .i64 (a : Int), .int .i64 (b : Int)] w (Ret w (.bool (mch p (bsm p m) a b && mch p (bsm p m) b a))) := fun w v v' h1 h2 => by
            have := answered_ok w v v' p h1 hp (bsm p m) h2 a b hal hbl2
            rw [← mch_flip (bsm_sym m)] at this
            exact this
          have hset : bsm p (m + 1) a b = true → nb.set a (nb[a].set b 1) = nx.set a (((matV p (bsm p (m + 1)))[a]'(by omega)).take (b + 1) ++ List.replicate (p.length - (b + 1)) 0) := fun ht => by
            rw [hrb, set_fill' _ p.length b hTa hbl2 0 1 (by rw [List.getElem?_eq_getElem (by omega), hTe, ht]; rfl)]
            exact (congrArg (fun l => List.set l a _) hnb).trans (List.set_set ..)
          have hskip : bsm p (m + 1) a b = false → nb = nx.set a (((matV p (bsm p (m + 1)))[a]'(by omega)).take (b + 1) ++ List.replicate (p.length - (b + 1)) 0) := fun ht => by
            have := fill_skip ((matV p (bsm p (m + 1)))[a]'(by omega)) b (by omega) (0 : Int) (by rw [hTe, ht]; rfl)
            simp only [hTa] at this
            exact hnb.trans (congrArg (fun r => nx.set a r) this)
          have hdef : bsm p (m + 1) a b = (bsm p m a b && (mch p (bsm p m) a b && mch p (bsm p m) b a)) := rfl
          focus
            have szEb := Eb.size; have szEa := Ea.size; have szE3 := E3.size; have szEm := Em.size; have szE2 := E2.size; have szE1 := E1.size; refine W_seq ?_; refine W_region rfl ?_; refine Wo rfl (opv_lss rfl rfl) ?_; refine Wo_nil ?_
            refine W_seq ?_; refine W_cond_dec rfl (fun h4 => ?_) (fun h4 => ?_); refine W_skip ?_; refine W_seq ?_; refine W_block ?_; refine W_seq ?_; refine W_region rfl ?_; refine Wo rfl (opv_move (v := .int _ _) rfl) ?_
            refine Wo rfl (opv_assign (v := .int _ _) rfl) ?_; refine Wo_nil ?_; refine W_seq ?_; refine W_region rfl ?_; refine Wo rfl (opv_move (v := u) rfl) ?_; refine Wo rfl (opv_move (v := .int _ _) rfl) ?_
            refine Wo_get Try.underlying50 Try.sizeOf23 Try.isAgg23 rfl (fun _ => rfl) rfl (OwnedB.read hBb) (Ext.refl _) rfl (by first | omega | (simp <;> omega)) ?_; rintro _ u2 hu1; refine Wo rfl (opv_move (v := .int _ _) rfl) ?_
            refine Wo_get Try.underlying23 Try.sizeOf3 Try.isAgg3 rfl (fun _ => rfl) rfl hu1 (Ext.refl _) rfl (by first | omega | (simp <;> omega)) ?_; rintro _ _ rfl; refine Wo rfl (opv_eql rfl rfl) ?_
            refine Wo_split_dec rfl (opv_move (v := .bool _) rfl) (fun h5 => ?_) (fun h5 => ?_); refine Wo rfl (opv_move (v := v) rfl) ?_; refine Wo rfl (opv_move (v := u) rfl) ?_; refine Wo rfl (opv_move (v := .int _ _) rfl) ?_
            refine Wo rfl (opv_move (v := .int _ _) rfl) ?_; refine Wo_call rfl (opc4 (a := v) (b := u) (c := .int _ _) (d := .int _ _) Try.call89 rfl rfl rfl rfl) (han _ _ _ ((Mono.mono Eb h)) ((OwnedB.read hBb))) ?_; rintro _ w4 ⟨rfl, E4⟩
            have hs3 := E4.size; refine Wo rfl (opv_pick_t (v := .bool _) rfl rfl) ?_; refine Wo_nil ?_; refine W_cond rfl (fun h6 => ?_) (fun h6 => ?_); refine W_region rfl ?_; refine Wo rfl (opv_move (v := .slice _ _ _) rfl) ?_
            refine Wo rfl (opv_move (v := .int _ _) rfl) ?_; refine Wo_rowAt Try.underlying50 Try.sizeOf23 Try.isAgg23 rfl (fun _ => rfl) rfl ⟨_, _, rfl⟩ rfl (hRb.ext E4) (by first | omega | (simp <;> omega)) ?_; rintro _
            refine Wo rfl (opv_move (v := .int _ _) rfl) ?_; refine Wo rfl (opv_indexAddr Try.underlying23 Try.sizeOf3 rfl rfl (by omega)) ?_
            refine Wo_gset rfl Try.sizeOf3 rfl rfl (hOb.toB.ext E4) (hRb.ext E4) (by first | omega | (simp <;> omega)) (by first | omega | (simp <;> omega)) ?_; rintro w5 hOb hRb On1 K1 hz1; have E5 := On1.ext1 (Eb.trans E4) (by omega)
            have hBb := (hBb.ext E4).wrote K1 (by omega); have hs4 := On1.size; refine Wo_nil ?_; refine W_region rfl ?_; refine Wo rfl (opv_add rfl rfl (by omega)) ?_; refine Wo rfl (opv_move (v := .int _ _) rfl) ?_; refine Wo_nil ?_
            rotate_left; refine W_skip ?_; refine W_region rfl ?_; refine Wo rfl (opv_add rfl rfl (by omega)) ?_; refine Wo rfl (opv_move (v := .int _ _) rfl) ?_; refine Wo_nil ?_; rotate_left; refine Wo_skip rfl ?_; refine Wo_skip rfl ?_
            refine Wo_skip rfl ?_; refine Wo_skip rfl ?_; refine Wo_skip rfl ?_; refine Wo rfl (opv_pick_f (v := .bool _) rfl rfl) ?_; refine Wo_nil ?_; refine W_cond_false rfl ?_; refine W_skip ?_; refine W_region rfl ?_
            refine Wo rfl (opv_add rfl rfl (by omega)) ?_; refine Wo rfl (opv_move (v := .int _ _) rfl) ?_; refine Wo_nil ?_; rotate_left; (exfalso; omega)
          · have ht : bsm p (m + 1) a b = true := by
              rw [hdef, show bsm p m a b = true from b01_one.1 (hme.symm.trans (by assumption)), show (mch p (bsm p m) a b && mch p (bsm p m) b a) = true by assumption]; rfl
            refine ⟨((b + 1, nb.set a (nb[a].set b 1))), by repeat (first | exact trivial | refine And.intro rfl ?_), by repeat (first | with_reducible exact Same.refl | refine Same.upd rfl ?_ | refine Same.upds rfl ?_ | refine Same.mix rfl ?_), ?_, ?_⟩
            · exact ⟨by assumption, by omega, by omega, hBb, hOb, hRb, hset ht⟩
            · simp only; omega
          · have ht : bsm p (m + 1) a b = false := by
              rw [hdef, show (mch p (bsm p m) a b && mch p (bsm p m) b a) = false by assumption, Bool.and_false]
            refine ⟨((b + 1, nb)), by repeat (first | exact trivial | refine And.intro rfl ?_), by repeat (first | with_reducible exact Same.refl | refine Same.upd rfl ?_ | refine Same.upds rfl ?_ | refine Same.mix rfl ?_), ?_, ?_⟩
            · exact ⟨Eb.trans E4, by omega, by omega, hBb.ext E4, hOb.ext E4, hRb.ext E4, hskip ht⟩
            · simp only; omega
          · have ht : bsm p (m + 1) a b = false := by
              rw [hdef]
              cases hs : bsm p m a b with
              | false => rfl
              | true => rw [hs] at hme; exact absurd hme (by assumption)
            refine ⟨((b + 1, nb)), by repeat (first | exact trivial | refine And.intro rfl ?_), by repeat (first | with_reducible exact Same.refl | refine Same.upd rfl ?_ | refine Same.upds rfl ?_ | refine Same.mix rfl ?_), ?_, ?_⟩
            · exact ⟨Eb, by omega, by omega, hBb, hOb, hRb, hskip ht⟩
            · simp only; omega
        · obtain rfl : b = p.length := by omega
          have hnew : nb = (matV p (bsm p (m + 1))).take (a + 1) ++ List.replicate (p.length - (a + 1)) (List.replicate p.length 0) := by
            have hrow : ((matV p (bsm p (m + 1)))[a]'(by omega)).take p.length ++ List.replicate (p.length - p.length) 0 = (matV p (bsm p (m + 1)))[a]'(by omega) := by rw [List.take_of_length_le (by omega)]; simp
            have hsf := set_fill' _ p.length a hT hal (List.replicate p.length (0 : Int)) ((matV p (bsm p (m + 1)))[a]'(by omega)) (by rw [List.getElem?_eq_getElem (by omega)])
            exact (hnb.trans ((congrArg (fun r => nx.set a r) hrow).trans (congrArg (fun l => List.set l a _) hna))).trans hsf
          focus
            have szEb := Eb.size; have szEa := Ea.size; have szE3 := E3.size; have szEm := Em.size; have szE2 := E2.size; have szE1 := E1.size; refine W_seq ?_; refine W_region rfl ?_; refine Wo rfl (opv_lss rfl rfl) ?_; refine Wo_nil ?_
            refine W_seq ?_; refine W_cond_dec rfl (fun h4 => ?_) (fun h4 => ?_); (exfalso; omega); refine W_exit ?_; refine exitX_same ?_; refine W_region rfl ?_; refine Wo rfl (opv_add rfl rfl (by omega)) ?_
            refine Wo rfl (opv_move (v := .int _ _) rfl) ?_; refine Wo_nil ?_
          refine ⟨((a + 1, nb)), by repeat (first | exact trivial | refine And.intro rfl ?_), by repeat (first | with_reducible exact Same.refl | refine Same.upd rfl ?_ | refine Same.upds rfl ?_ | refine Same.mix rfl ?_), ?_, ?_⟩
          · exact ⟨Eb, by omega, by omega, hBb, hOb, hnew⟩
          · simp only; omega
      · obtain rfl : a = p.length := by omega
        have hnx : nx = matV p (bsm p (m + 1)) := by rw [hna, ← hT]; simp
        subst hnx
        focus
          have szEa := Ea.size; have szE3 := E3.size; have szEm := Em.size; have szE2 := E2.size; have szE1 := E1.size; refine W_seq ?_; refine W_region rfl ?_; refine Wo rfl (opv_lss rfl rfl) ?_; refine Wo_nil ?_; refine W_seq ?_
          refine W_cond_dec rfl (fun h3 => ?_) (fun h3 => ?_); (exfalso; omega); refine W_exit ?_; refine exitX_same ?_; refine W_region rfl ?_; refine Wo rfl (opv_move (v := u2) rfl) ?_; refine Wo rfl (opv_assign (v := u2) rfl) ?_
          refine Wo_nil ?_; refine W_region rfl ?_; refine Wo rfl (opv_add rfl rfl (by omega)) ?_; refine Wo rfl (opv_move (v := .int _ _) rfl) ?_; refine Wo_nil ?_
        refine ⟨((m + 1, u2)), by repeat (first | exact trivial | refine And.intro rfl ?_), by repeat (first | with_reducible exact Same.refl | refine Same.upd rfl ?_ | refine Same.upds rfl ?_ | refine Same.mix rfl ?_), ?_, ?_⟩
        · exact ⟨Ea, by omega, hOa.mono (by omega)⟩
        · simp only; omega
    · obtain rfl : m = n := by omega
      focus
        have szEm := Em.size; have szE2 := E2.size; have szE1 := E1.size; refine W_seq ?_; refine W_region rfl ?_; refine Wo rfl (opv_lss rfl rfl) ?_; refine Wo_nil ?_; refine W_seq ?_; refine W_cond_dec rfl (fun h2 => ?_) (fun h2 => ?_)
        (exfalso; omega); refine W_exit ?_; refine exitX_same ?_; refine W_seq ?_; refine W_region rfl ?_; refine Wo rfl (opv_move (v := u) rfl) ?_; refine Wo rfl (opv_assign (v := u) rfl) ?_; refine Wo_nil ?_; refine W_ret ?_
        exact ⟨Em, hOm.toB.o.mono (by omega)⟩

end Go.Proofs.Ytlalfmialbolhaa
set_option linter.unusedVariables false
set_option linter.unusedSimpArgs false
namespace Go.Hs
/-- these numbers laid over a row from a place on -/
def setMany (r : List Int) (o : Nat) : List Int → List Int
  | [] => r
  | x :: xs => setMany (r.set o x) (o + 1) xs
theorem setMany_eq : ∀ (xs : List Int) (r : List Int) (o : Nat), o + xs.length ≤ r.length → setMany r o xs = r.take o ++ xs ++ r.drop (o + xs.length)
  | [], r, o, _ => by simp [setMany]
  | x :: xs, r, o, h => by
    simp only [List.length_cons] at h
    unfold setMany
    rw [setMany_eq xs _ _ (by simp; omega)]
    have ho : o < r.length := by omega
    have h1 : (r.set o x).take (o + 1) = r.take o ++ [x] := by
      rw [List.take_succ_eq_append_getElem (by simpa using ho), List.getElem_set_self, List.take_set_of_le (Nat.le_refl _)]
    have h2 : (r.set o x).drop (o + 1 + xs.length) = r.drop (o + (x :: xs).length) := by
      rw [List.drop_set_of_lt (by omega)]
      congr 1
      simp only [List.length_cons]; omega
    rw [h1, h2]
    simp
section
variable {P : Program} {lo br m cr i o : Nat} {v : Value} {e e2 : TypeId}
theorem store_row : ∀ (xs : List Int) (i0 : Nat) (w : World) (p : List (List Int)) (hi : i < p.length), Owned lo (XSl e (XSl e2 XInt)) w v p → RowAt w v i br m cr → o + i0 + xs.length ≤ p[i].length →
    ∃ w', (storeCells ⟨br, o, none⟩ (xs.map (Value.int .i64)) i0).run P w = .ok () w' ∧ Owned lo (XSl e (XSl e2 XInt)) w' v (p.set i (setMany p[i] (o + i0) xs)) ∧ RowAt w' v i br m cr ∧ Only [br] w w' ∧ (∀ k, k ≠ br → w'.heap[k]? = w.heap[k]?) ∧ w'.heap.size = w.heap.size
  | [], i0, w, p, hi, h, hR, _ => by
    refine ⟨w, by simp [storeCells], ?_, hR, Only.refl, fun _ _ => rfl, rfl⟩
    rw [show p.set i (setMany p[i] (o + i0) []) = p by simp [setMany]]
    exact h
  | x :: xs, i0, w, p, hi, h, hR, hl => by
    simp only [List.length_cons] at hl
    obtain ⟨h1, hlo, u, hc, hf⟩ := h.setRow (q := x) (j := o + i0) hi hR (by omega)
    have hR1 : RowAt (w.setCell ⟨br, o + i0, none⟩ (.int .i64 x)) v i br m cr := hR.of_heap fun k hk => heap_setCell_other _ hk
    have hil : i < (p.set i (p[i].set (o + i0) x)).length := by rw [List.length_set]; exact hi
    have hrl : (p.set i (p[i].set (o + i0) x))[i] = p[i].set (o + i0) x := by rw [List.getElem_set_self]
    obtain ⟨w', k1, k2, k3, k4, k5, k6⟩ := store_row xs (i0 + 1) _ _ hil h1 hR1 (by rw [hrl, List.length_set]; omega)
    refine ⟨w', ?_, ?_, k3, (Only.setCell (by simp)).trans k4, fun k hk => (k5 k hk).trans (heap_setCell_other _ hk), k6.trans (size_setCell _ _)⟩
    · have k0 := run_store_cell (P := P) (w := w) (ad := ⟨br, o + i0, none⟩) (v := .int .i64 x) rfl hc hf
      have ea : (⟨br, o, none⟩ : Addr).add i0 = ⟨br, o + i0, none⟩ := add_mk br o i0
      simp [storeCells, ea, k0, k1]
    · rw [hrl, List.set_set] at k2
      exact k2
theorem load_ints {w : World} {b o : Nat} : ∀ (xs : List Int) (i0 : Nat) (acc : Array Value), (∀ j (h : j < xs.length), w.cell? ⟨b, o + (i0 + j), none⟩ = some (.int .i64 xs[j])) →
    (loadCellsFrom ⟨b, o, none⟩ i0 xs.length acc).run P w = .ok (acc ++ (xs.map (Value.int .i64)).toArray) w
  | [], i0, acc, _ => by simp [loadCellsFrom]
  | x :: xs, i0, acc, h => by
    have h0 := h 0 (by simp)
    have ea : (⟨b, o, none⟩ : Addr).add i0 = ⟨b, o + i0, none⟩ := add_mk b o i0
    have ih := load_ints xs (i0 + 1) (acc.push (.int .i64 x)) fun j hj => by
      have := h (j + 1) (by simpa using hj)
      rw [show i0 + 1 + j = i0 + (j + 1) by omega]
      simpa using this
    simp only [Nat.add_zero, List.getElem_cons_zero] at h0
    simp [loadCellsFrom, ea, h0, ih]
end
section
variable {P : Program} {n : Nat} {N : Env → World → Prop} {ρ : Env} {w w0 : World} {all : Array Oper} {rest : List Oper} {d : Nat} {ty t t2 el e e2 : TypeId} {pos : String} {after : Array Edge} {g : Option (Nat × Bool)} {x y : Operand} {v u : Value} {lo hi' br m cr i o dl dc : Nat} {xs : List Int} {p : List (List Int)}
/-- copy(row[o:], xs) in own rows -/
theorem Wo_cpy (hw : wantedE all ⟨some d, .call { callee := .builtin .copy, args := #[x, y], argTypes := #[t, t2] }, ty, pos, after, g⟩ ρ = true) (ht : P.underlying t = some (.slice el)) (hs : ∀ w, (sizeOf el).run P w = .ok 1 w)
    (hx : evalE ρ x = .slice (some ⟨br, o, none⟩) dl dc) (hy : evalE ρ y = u) (hI : Ints w u xs) (h : OwnedB lo hi' (XSl e (XSl e2 XInt)) w v p) (hR : RowAt w v i br m cr) (hi : i < p.length) (hj : o + xs.length ≤ p[i].length) (hdl : xs.length ≤ dl)
    (hk : ∀ w1, Owned lo (XSl e (XSl e2 XInt)) w1 v (p.set i (setMany p[i] o xs)) → RowAt w1 v i br m cr → Only [br] w w1 → (∀ k, k ≠ br → w1.heap[k]? = w.heap[k]?) → w1.heap.size = w.heap.size → Wops P n all rest N (upd ρ d (.int .i64 (xs.length : Int))) w1) :
    Wops P n all (⟨some d, .call { callee := .builtin .copy, args := #[x, y], argTypes := #[t, t2] }, ty, pos, after, g⟩ :: rest) N ρ w := by
  obtain ⟨a, c, rfl, h1, h2⟩ := hI
  obtain ⟨w', k1, k2, k3, k4, k5, k6⟩ := store_row (P := P) (o := o) xs 0 w p hi h.o hR (by omega)
  refine Wo_run (w' := w') hw ?_ (hk w' k2 k3 k4 k5 k6)
  have hmin : Nat.min xs.length dl = xs.length := Nat.min_eq_left hdl
  have hl : (Builtin.copy_ #[t, t2] ty #[.slice (some ⟨br, o, none⟩) dl dc, .slice a xs.length c]).run P w = .ok (.int .i64 (xs.length : Int)) w' := by
    rcases h2 with rfl | ⟨b, o', rfl, hc⟩
    · simp only [List.map_nil] at k1
      cases a with
      | none => simp [Builtin.copy_, Builtin.lenOf, Builtin.firstCells, run_und ht, hs, k1, goInt]
      | some a => simp [Builtin.copy_, Builtin.lenOf, Builtin.firstCells, run_und ht, hs, k1, goInt, loadCells, loadCellsFrom]
    · have hld := load_ints (P := P) (w := w) (b := b) (o := o') xs 0 #[] fun j hj => by
        obtain ⟨u, h3, h4⟩ := hc j hj
        rw [Nat.zero_add, h3, h4]
      simp [Builtin.copy_, Builtin.lenOf, Builtin.firstCells, run_und ht, hs, hmin, loadCells, hld, k1, goInt]
  simp [execOp, resolve, invoke, builtin, hx, hy, hl]
end
end Go.Hs
namespace Go.Proofs.Ytlalfmialbolhaa
open Go.Hs
set_option maxRecDepth 10000
set_option maxHeartbeats 4000000
set_option linter.unusedVariables false
set_option linter.unusedSimpArgs false
/-- the rows ahead of i are laid -/
def besQ (p q : List (List Int)) (i : Nat) : List (List Int) := (bes p q).take i ++ List.replicate (p.length + q.length - i) (List.replicate (p.length + q.length) 0)
theorem besQ_len {p q : List (List Int)} {i : Nat} (hi : i ≤ p.length + q.length) : (besQ p q i).length = p.length + q.length := by
  unfold besQ
  rw [List.length_append, List.length_take, bes_len, List.length_replicate]
  omega
theorem besQ_at {p q : List (List Int)} {i : Nat} (hi : i < p.length + q.length) : (besQ p q i)[i]'(by rw [besQ_len (by omega)]; exact hi) = List.replicate (p.length + q.length) 0 := by
  have hl : ((bes p q).take i).length = i := by rw [List.length_take, bes_len]; omega
  unfold besQ
  rw [List.getElem_append_right (by omega)]
  simp
theorem besQ_set {p q : List (List Int)} {i : Nat} (hi : i < p.length + q.length) (r : List Int) (hr : (bes p q)[i]'(by rw [bes_len]; exact hi) = r) : (besQ p q i).set i r = besQ p q (i + 1) := by
  have := set_fill' (bes p q) (p.length + q.length) i bes_len hi (List.replicate (p.length + q.length) 0) r (by rw [List.getElem?_eq_getElem (by rw [bes_len]; exact hi), hr])
  exact this
theorem bes_row1 {p q : List (List Int)} {i : Nat} (hp : Gr p) (hi : i < p.length) : (bes p q)[i]'(by rw [bes_len]; omega) = setMany (List.replicate (p.length + q.length) 0) 0 p[i] := by
  have hl := hp.row hi
  rw [bes_fst hi, setMany_eq _ _ _ (by simp; omega)]
  simp only [List.take_zero, List.nil_append, Nat.zero_add, List.drop_replicate]
  rw [hl, Nat.add_sub_cancel_left]
theorem bes_row2 {p q : List (List Int)} {i : Nat} (hq : Gr q) (hi : i < q.length) : (bes p q)[p.length + i]'(by rw [bes_len]; omega) = setMany (List.replicate (p.length + q.length) 0) p.length q[i] := by
  have hl := hq.row hi
  rw [bes_snd hi, setMany_eq _ _ _ (by simp; omega)]
  rw [List.take_replicate, List.drop_replicate, hl, Nat.min_eq_left (by omega), Nat.sub_self]
  simp

theorem beside_ok (w : World) (v u : Value) (p q : List (List Int)) (h : ESl Ints w v p) (h' : ESl Ints w u q) (hp : Pic p) (hq : Pic q) : Does Try.prog 83 [v, u] w (RetO w XR (bes p q)) := by
  have hp5 := hp.2.1
  have hq5 := hq.2.1
  have hp1 := hp.1
  have hq1 := hq.1
  have hle := h.le
  have hle' := h'.le
  have hem : ∀ (z : Int), z = ((p.length + q.length : Nat) : Int) → ∀ w, Does Try.prog 74 [.int .i64 z] w (RetO w XR (besQ p q 0)) := fun z e w => by
    subst e
    exact emptyPicture_ok w _ (by omega)
  refine fn_of_W1 Try.func83 rfl Try.results83 Try.ntmps83 rfl ?_
  have hl0 := besQ_len (p := p) (q := q) (i := 0) (by omega)
  have stop2 : True := trivial
  focus
    refine W_seq ?_; refine W_region rfl ?_; refine Wo rfl (opv_assign (v := .slice _ _ _) rfl) ?_; refine Wo_nil ?_; refine W_seq ?_; refine W_region rfl ?_; refine Wo rfl (opv_move (v := v) rfl) ?_
    refine Wo rfl (opv_len Try.underlying50 rfl h) ?_; refine Wo rfl (opv_move (v := u) rfl) ?_; refine Wo rfl (opv_len Try.underlying50 rfl h') ?_; refine Wo rfl (opv_add rfl rfl (by omega)) ?_
    refine Wo_call rfl (opc1 (a := .int _ _) Try.call74 rfl) (hem _ (by omega) _) ?_; rintro u1 w1 ⟨E1, hO1⟩; have hs1 := E1.size; refine Wo rfl (opv_assign (v := u1) rfl) ?_; refine Wo_nil ?_; refine W_seq ?_; refine W_seq ?_
  clear stop2
  obtain ⟨ub, uc, rfl, _⟩ := hO1.lit (by omega)
  focus
    have szE1 := E1.size; refine W_region rfl ?_; refine Wo rfl (opv_move (v := v) rfl) ?_; refine Wo rfl (opv_len Try.underlying50 rfl h) ?_; refine Wo rfl (opv_move (v := .int _ _) rfl) ?_; refine Wo_nil ?_; refine W_block ?_
  refine W_loop [6, 7, 18, 19, 20, 21, 22, 23, 24, 25, 26, 27, 28, 29] (fun (i : Nat) => [(18, .int .i64 (i : Int))]) (fun i w' => Ext w w' ∧ i ≤ p.length ∧ Owned w.heap.size XR w' (.slice (some ⟨ub, 0, none⟩) (besQ p q 0).length uc) (besQ p q i)) (fun x => p.length - x) 0 (by repeat (first | exact trivial | refine And.intro rfl ?_)) ?_ ?_
  · exact ⟨by assumption, Nat.zero_le _, hO1⟩
  clear hO1
  rintro i ρj w2 ⟨E2, hi, hO1⟩
  by_cases hil : i < p.length
  · have hli := besQ_len (p := p) (q := q) (i := i) (by omega)
    have hat := besQ_at (p := p) (q := q) (i := i) (by omega)
    have hrl : (besQ p q i)[i].length = p.length + q.length := by rw [hat]; simp
    have hpr := hp.row hil
    obtain ⟨br, cr, hR, _, _⟩ := hO1.rowAt (i := i) (by omega) (by omega)
    focus
      have szE2 := E2.size; have szE1 := E1.size; refine W_seq ?_; refine W_region rfl ?_; refine Wo rfl (opv_lss rfl rfl) ?_; refine Wo_nil ?_; refine W_seq ?_; refine W_cond_dec rfl (fun h1 => ?_) (fun h1 => ?_); refine W_skip ?_
      refine W_seq ?_; refine W_block ?_; refine W_seq ?_; refine W_region rfl ?_; refine Wo rfl (opv_move (v := .int _ _) rfl) ?_
      refine Wo_get Try.underlying50 Try.sizeOf23 Try.isAgg23 rfl (fun _ => rfl) rfl h E2 rfl (by first | omega | (simp <;> omega)) ?_; rintro _ u1 hu1; refine Wo rfl (opv_assign (v := .int _ _) rfl) ?_
      refine Wo rfl (opv_assign (v := u1) rfl) ?_; refine Wo_nil ?_; refine W_region rfl ?_; refine Wo rfl (opv_move (v := .slice _ _ _) rfl) ?_; refine Wo rfl (opv_move (v := .int _ _) rfl) ?_
      refine Wo_rowAt Try.underlying50 Try.sizeOf23 Try.isAgg23 rfl (fun _ => rfl) rfl ⟨_, _, rfl⟩ rfl hR (by first | omega | (simp <;> omega)) ?_; rintro _; refine Wo rfl (opv_move (v := u1) rfl) ?_
      refine Wo_cpy rfl Try.underlying23 Try.sizeOf3 rfl rfl (Mono.mono E2 hu1) hO1.toB hR (by first | omega | (simp <;> omega)) (by first | omega | (simp <;> omega)) (by first | omega | (simp <;> omega)) ?_; rintro w3 hO1 hR On1 K1 hz1
      have E3 := On1.ext1 E2 (by omega); have hs2 := On1.size; refine Wo_nil ?_; refine W_region rfl ?_; refine Wo rfl (opv_add rfl rfl (by omega)) ?_; refine Wo rfl (opv_move (v := .int _ _) rfl) ?_; refine Wo_nil ?_; rotate_left
      (exfalso; omega)
    refine ⟨i + 1, by repeat (first | exact trivial | refine And.intro rfl ?_), by repeat (first | with_reducible exact Same.refl | refine Same.upd rfl ?_ | refine Same.upds rfl ?_ | refine Same.mix rfl ?_), ⟨by assumption, by omega, (congrArg (Owned _ _ _ _) ?_).mp hO1⟩, by omega⟩
    refine besQ_set (by omega) _ ?_
    rw [bes_row1 hp.gr hil, hat]
  · obtain rfl : i = p.length := by omega
    focus
      have szE2 := E2.size; have szE1 := E1.size; refine W_seq ?_; refine W_region rfl ?_; refine Wo rfl (opv_lss rfl rfl) ?_; refine Wo_nil ?_; refine W_seq ?_; refine W_cond_dec rfl (fun h1 => ?_) (fun h1 => ?_); (exfalso; omega)
      refine W_exit ?_; refine exitX_same ?_; refine W_seq ?_; refine W_seq ?_; refine W_region rfl ?_; refine Wo rfl (opv_move (v := u) rfl) ?_; refine Wo rfl (opv_len Try.underlying50 rfl h') ?_
      refine Wo rfl (opv_move (v := .int _ _) rfl) ?_; refine Wo_nil ?_; refine W_block ?_
    refine W_loop [8, 9, 32, 33, 34, 35, 36, 37, 38, 39, 40, 41, 42, 43, 44, 45, 46, 47, 48, 49] (fun (i : Nat) => [(32, .int .i64 (i : Int))]) (fun i w' => Ext w w' ∧ i ≤ q.length ∧ Owned w.heap.size XR w' (.slice (some ⟨ub, 0, none⟩) (besQ p q 0).length uc) (besQ p q (p.length + i))) (fun x => q.length - x) 0 (by repeat (first | exact trivial | refine And.intro rfl ?_)) ?_ ?_
    · exact ⟨by assumption, Nat.zero_le _, hO1⟩
    clear hO1
    rintro i ρk w3 ⟨E3, hi, hO1⟩
    by_cases hil : i < q.length
    · have hli := besQ_len (p := p) (q := q) (i := p.length + i) (by omega)
      have hat := besQ_at (p := p) (q := q) (i := p.length + i) (by omega)
      have hrl : (besQ p q (p.length + i))[p.length + i].length = p.length + q.length := by rw [hat]; simp
      have hqr := hq.row hil
      obtain ⟨br, cr, hR, _, _⟩ := hO1.rowAt (i := p.length + i) (by omega) (by omega)
      obtain ⟨_, hRO⟩ := hO1.toB.rowOwn hR (by omega)
      obtain ⟨_, _, _, e, hcap⟩ := hRO.capOk
      cases e
      clear hRO
      focus
        have szE3 := E3.size; have szE2 := E2.size; have szE1 := E1.size; refine W_seq ?_; refine W_region rfl ?_; refine Wo rfl (opv_lss rfl rfl) ?_; refine Wo_nil ?_; refine W_seq ?_; refine W_cond_dec rfl (fun h2 => ?_) (fun h2 => ?_)
        refine W_skip ?_; refine W_seq ?_; refine W_block ?_; refine W_seq ?_; refine W_region rfl ?_; refine Wo rfl (opv_move (v := .int _ _) rfl) ?_
        refine Wo_get Try.underlying50 Try.sizeOf23 Try.isAgg23 rfl (fun _ => rfl) rfl h' E3 rfl (by first | omega | (simp <;> omega)) ?_; rintro _ u1 hu1; refine Wo rfl (opv_assign (v := .int _ _) rfl) ?_
        refine Wo rfl (opv_assign (v := u1) rfl) ?_; refine Wo_nil ?_; refine W_region rfl ?_; refine Wo rfl (opv_move (v := .slice _ _ _) rfl) ?_; refine Wo rfl (opv_move (v := v) rfl) ?_; refine Wo rfl (opv_len Try.underlying50 rfl h) ?_
        refine Wo rfl (opv_move (v := .int _ _) rfl) ?_; refine Wo rfl (opv_add rfl rfl (by omega)) ?_
        refine Wo_rowAt Try.underlying50 Try.sizeOf23 Try.isAgg23 rfl (fun _ => rfl) rfl ⟨_, _, rfl⟩ rfl hR (by first | omega | (simp <;> omega)) ?_; rintro _; refine Wo rfl (opv_move (v := v) rfl) ?_
        refine Wo rfl (opv_len Try.underlying50 rfl h) ?_; refine Wo rfl (opv_slice_sl_lo Try.underlying23 Try.sizeOf3 rfl rfl (by omega)) ?_; refine Wo rfl (opv_move (v := u1) rfl) ?_
        refine Wo_cpy rfl Try.underlying23 Try.sizeOf3 rfl rfl (Mono.mono E3 hu1) hO1.toB hR (by first | omega | (simp <;> omega)) (by first | omega | (simp <;> omega)) (by first | omega | (simp <;> omega)) ?_; rintro w4 hO1 hR On1 K1 hz1
        have E4 := On1.ext1 E3 (by omega); have hs2 := On1.size; refine Wo_nil ?_; refine W_region rfl ?_; refine Wo rfl (opv_add rfl rfl (by omega)) ?_; refine Wo rfl (opv_move (v := .int _ _) rfl) ?_; refine Wo_nil ?_; rotate_left
        (exfalso; omega)
      refine ⟨i + 1, by repeat (first | exact trivial | refine And.intro rfl ?_), by repeat (first | with_reducible exact Same.refl | refine Same.upd rfl ?_ | refine Same.upds rfl ?_ | refine Same.mix rfl ?_), ⟨by assumption, by omega, (congrArg (Owned _ _ _ _) ?_).mp hO1⟩, by omega⟩
      refine besQ_set (by omega) _ ?_
      rw [bes_row2 hq.gr hil, hat, Nat.zero_add, Int.toNat_natCast]
    · obtain rfl : i = q.length := by omega
      focus
        have szE3 := E3.size; have szE2 := E2.size; have szE1 := E1.size; refine W_seq ?_; refine W_region rfl ?_; refine Wo rfl (opv_lss rfl rfl) ?_; refine Wo_nil ?_; refine W_seq ?_; refine W_cond_dec rfl (fun h2 => ?_) (fun h2 => ?_)
        (exfalso; omega); refine W_exit ?_; refine exitX_same ?_; refine W_seq ?_; refine W_region rfl ?_; refine Wo rfl (opv_move (v := .slice _ _ _) rfl) ?_; refine Wo rfl (opv_assign (v := .slice _ _ _) rfl) ?_; refine Wo_nil ?_
        refine W_ret ?_; refine ⟨E3, (congrArg (Owned _ _ _ _) ?_).mp (hO1.toB.o.mono (by omega))⟩
      have := bes_len (p := p) (q := q)
      unfold besQ
      rw [List.take_of_length_le (by omega), Nat.sub_self]
      simp

open Classical in
theorem sameSet_ok (w : World) (v u : Value) (p q : List (List Int)) (h : ESl Ints w v p) (h' : ESl Ints w u q) (hp : Pic p) (hq : Pic q) (a b : Int) (ha : 0 ≤ a ∧ a < p.length) (hb : 0 ≤ b ∧ b < q.length) : Does Try.prog 76 [v, .int .i64 a, u, .int .i64 b] w (Ret w (.bool (decide (Bis p a.toNat q b.toNat)))) := by
  have hp5 := hp.2.1
  have hq5 := hq.2.1
  have hle := h.le
  have hle' := h'.le
  have hB := hp.bes5 hq
  have hbl := bes_len (p := p) (q := q)
  have k1 : ∀ (w : World) (v u : Value), ESl Ints w v p → ESl Ints w u q → Does Try.prog 83 [v, u] w (RetO w XR (bes p q)) := fun w v u h h' => beside_ok w v u p q h h' hp hq
  have k2 : ∀ (w : World) (v : Value), ESl Ints w v (bes p q) → Does Try.prog 84 [v, .int .i64 ((bes p q).length : Int)] w (RetO w XR (matV (bes p q) (bsm (bes p q) (bes p q).length))) := fun w v h => leftAfter_ok w v _ h hB.1 _ (by omega)
  have hml := matV_len (p := bes p q) (bsm (bes p q) (bes p q).length)
  have hmr := matV_rlen (p := bes p q) (S := bsm (bes p q) (bes p q).length) (a := a.toNat) (by omega)
  have hma := matV_at (p := bes p q) (S := bsm (bes p q) (bes p q).length) (a := a.toNat) (b := p.length + b.toNat) (by omega) (by omega)
  have he := bes_eqv hp.gr hq.gr (a := a.toNat) (b := b.toNat) (by omega) (by omega) (by omega)
  refine fn_of_W1 Try.func76 rfl Try.results76 Try.ntmps76 rfl ?_
  focus
    refine W_seq ?_; refine W_region rfl ?_; refine Wo rfl (opv_assign (v := .bool _) rfl) ?_; refine Wo_nil ?_; refine W_seq ?_; refine W_region rfl ?_; refine Wo rfl (opv_move (v := v) rfl) ?_; refine Wo rfl (opv_move (v := u) rfl) ?_
    refine Wo_call rfl (opc2 (a := v) (b := u) Try.call83 rfl rfl) (k1 _ _ _ (h) (h')) ?_; rintro u1 w1 ⟨E1, hO1⟩; have hs1 := E1.size; refine Wo rfl (opv_assign (v := u1) rfl) ?_; refine Wo_nil ?_; refine W_seq ?_
    refine W_region rfl ?_; refine Wo rfl (opv_move (v := u1) rfl) ?_; refine Wo rfl (opv_move (v := u1) rfl) ?_; refine Wo rfl (opv_len Try.underlying50 rfl (Owned.read hO1)) ?_
    refine Wo_call rfl (opc2 (a := u1) (b := .int _ _) Try.call84 rfl rfl) (k2 _ _ ((Owned.read hO1))) ?_; rintro u2 w2 ⟨E2, hO2⟩; have hs2 := E2.size; refine Wo rfl (opv_move (v := .int _ _) rfl) ?_
    refine Wo_get_z Try.underlying50 Try.sizeOf23 Try.isAgg23 rfl (fun _ => rfl) rfl (Owned.read hO2) (Ext.refl _) rfl (by first | omega | (simp <;> omega)) ?_; rintro _ u3 hu1; refine Wo rfl (opv_move (v := v) rfl) ?_
    refine Wo rfl (opv_len Try.underlying50 rfl h) ?_; refine Wo rfl (opv_move (v := .int _ _) rfl) ?_; refine Wo rfl (opv_add rfl rfl (by omega)) ?_
    refine Wo_get_z Try.underlying23 Try.sizeOf3 Try.isAgg3 rfl (fun _ => rfl) rfl hu1 (Ext.refl _) rfl (by first | omega | (simp <;> omega)) ?_; rintro _ _ rfl; refine Wo rfl (opv_eql rfl rfl) ?_
    refine Wo rfl (opv_assign (v := .bool _) rfl) ?_; refine Wo_nil ?_; refine W_ret ?_; refine at_ret (v := .bool _) rfl ?_; refine ⟨congrArg Value.bool ?_, (E1.trans E2)⟩
  rw [decide_eq_decide, ← he]
  have e : ((p.length : Int) + b).toNat = p.length + b.toNat := by omega
  simp only [e, hma, b01_one]
  rfl
open Classical in
noncomputable def ssetV (p : List (List Int)) (a : Int) (q : List (List Int)) (b : Int) : Bool := decide (Nod p a ∧ Nod q b ∧ Bis p a.toNat q b.toNat)

open Classical in
theorem impl_SameSet_ok (w : World) (v u : Value) (p q : List (List Int)) (h : ESl Ints w v p) (h' : ESl Ints w u q) (a b : Int) : Does Try.prog 47 [v, .int .i64 a, u, .int .i64 b] w (Ret w (.bool (ssetV p a q b))) := by
  have hn : ∀ (x : Bool), decide (Nod p a) = x → ∀ (w : World) (v : Value), ESl Ints w v p → Does Try.prog 75 [v, .int .i64 a] w (Ret w (.bool x)) := fun x e w v h => e ▸ hasNode_ok w v p h a
  have hn' : ∀ (x : Bool), decide (Nod q b) = x → ∀ (w : World) (v : Value), ESl Ints w v q → Does Try.prog 75 [v, .int .i64 b] w (Ret w (.bool x)) := fun x e w v h => e ▸ hasNode_ok w v q h b
  by_cases h1 : Nod p a
  · have k1 := hn true (decide_eq_true h1)
    by_cases h2 : Nod q b
    · have k2 := hn' true (decide_eq_true h2)
      have k3 : ∀ (w : World) (v u : Value), ESl Ints w v p → ESl Ints w u q → Does Try.prog 76 [v, .int .i64 a, u, .int .i64 b] w (Ret w (.bool (ssetV p a q b))) := fun w v u h h' => by
        have := sameSet_ok w v u p q h h' h1.1 h2.1 a b h1.2 h2.2
        rw [show ssetV p a q b = decide (Bis p a.toNat q b.toNat) from decide_eq_decide.2 ⟨fun h => h.2.2, fun h => ⟨h1, h2, h⟩⟩]
        exact this
      clear hn hn'
      refine fn_of_W1 Try.func47 rfl Try.results47 Try.ntmps47 rfl ?_
      focus
        refine W_seq ?_; refine W_region rfl ?_; refine Wo rfl (opv_assign (v := .bool _) rfl) ?_; refine Wo_nil ?_; refine W_seq ?_; refine W_region rfl ?_; refine Wo rfl (opv_move (v := v) rfl) ?_
        refine Wo rfl (opv_move (v := .int _ _) rfl) ?_; refine Wo_call rfl (opc2 (a := v) (b := .int _ _) Try.call75 rfl rfl) (k1 _ _ (h)) ?_; rintro _ w1 ⟨rfl, E1⟩; have hs1 := E1.size; refine Wo rfl (opv_move (v := .bool _) rfl) ?_
        refine Wo rfl (opv_move (v := u) rfl) ?_; refine Wo rfl (opv_move (v := .int _ _) rfl) ?_; refine Wo_call rfl (opc2 (a := u) (b := .int _ _) Try.call75 rfl rfl) (k2 _ _ ((Mono.mono E1 h'))) ?_; rintro _ w2 ⟨rfl, E2⟩
        have hs2 := E2.size; refine Wo rfl (opv_pick_t (v := .bool _) rfl rfl) ?_; refine Wo rfl (opv_move (v := .bool _) rfl) ?_; refine Wo rfl (opv_move (v := v) rfl) ?_; refine Wo rfl (opv_move (v := .int _ _) rfl) ?_
        refine Wo rfl (opv_move (v := u) rfl) ?_; refine Wo rfl (opv_move (v := .int _ _) rfl) ?_
        refine Wo_call rfl (opc4 (a := v) (b := .int _ _) (c := u) (d := .int _ _) Try.call76 rfl rfl rfl rfl) (k3 _ _ _ ((Mono.mono (E1.trans E2) h)) ((Mono.mono (E1.trans E2) h'))) ?_; rintro _ w3 ⟨rfl, E3⟩; have hs3 := E3.size
        refine Wo rfl (opv_pick_t (v := .bool _) rfl rfl) ?_; refine Wo rfl (opv_assign (v := .bool _) rfl) ?_; refine Wo_nil ?_; refine W_ret ?_; exact ⟨rfl, ((E1.trans E2).trans E3)⟩
    · have k2 := hn' false (decide_eq_false h2)
      have e : ssetV p a q b = false := decide_eq_false fun h => h2 h.2.1
      rw [e]
      clear hn hn'
      refine fn_of_W1 Try.func47 rfl Try.results47 Try.ntmps47 rfl ?_
      focus
        refine W_seq ?_; refine W_region rfl ?_; refine Wo rfl (opv_assign (v := .bool _) rfl) ?_; refine Wo_nil ?_; refine W_seq ?_; refine W_region rfl ?_; refine Wo rfl (opv_move (v := v) rfl) ?_
        refine Wo rfl (opv_move (v := .int _ _) rfl) ?_; refine Wo_call rfl (opc2 (a := v) (b := .int _ _) Try.call75 rfl rfl) (k1 _ _ (h)) ?_; rintro _ w1 ⟨rfl, E1⟩; have hs1 := E1.size; refine Wo rfl (opv_move (v := .bool _) rfl) ?_
        refine Wo rfl (opv_move (v := u) rfl) ?_; refine Wo rfl (opv_move (v := .int _ _) rfl) ?_; refine Wo_call rfl (opc2 (a := u) (b := .int _ _) Try.call75 rfl rfl) (k2 _ _ ((Mono.mono E1 h'))) ?_; rintro _ w2 ⟨rfl, E2⟩
        have hs2 := E2.size; refine Wo rfl (opv_pick_t (v := .bool _) rfl rfl) ?_; refine Wo rfl (opv_move (v := .bool _) rfl) ?_; refine Wo_skip rfl ?_; refine Wo_skip rfl ?_; refine Wo_skip rfl ?_; refine Wo_skip rfl ?_
        refine Wo_skip rfl ?_; refine Wo rfl (opv_pick_f (v := .bool _) rfl rfl) ?_; refine Wo rfl (opv_assign (v := .bool _) rfl) ?_; refine Wo_nil ?_; refine W_ret ?_; exact ⟨rfl, (E1.trans E2)⟩
  · have k1 := hn false (decide_eq_false h1)
    have e : ssetV p a q b = false := decide_eq_false fun h => h1 h.1
    rw [e]
    clear hn hn'
    refine fn_of_W1 Try.func47 rfl Try.results47 Try.ntmps47 rfl ?_
    focus
      refine W_seq ?_; refine W_region rfl ?_; refine Wo rfl (opv_assign (v := .bool _) rfl) ?_; refine Wo_nil ?_; refine W_seq ?_; refine W_region rfl ?_; refine Wo rfl (opv_move (v := v) rfl) ?_
      refine Wo rfl (opv_move (v := .int _ _) rfl) ?_; refine Wo_call rfl (opc2 (a := v) (b := .int _ _) Try.call75 rfl rfl) (k1 _ _ (h)) ?_; rintro _ w1 ⟨rfl, E1⟩; have hs1 := E1.size; refine Wo rfl (opv_move (v := .bool _) rfl) ?_
      refine Wo_skip rfl ?_; refine Wo_skip rfl ?_; refine Wo_skip rfl ?_; refine Wo rfl (opv_pick_f (v := .bool _) rfl rfl) ?_; refine Wo rfl (opv_move (v := .bool _) rfl) ?_; refine Wo_skip rfl ?_; refine Wo_skip rfl ?_
      refine Wo_skip rfl ?_; refine Wo_skip rfl ?_; refine Wo_skip rfl ?_; refine Wo rfl (opv_pick_f (v := .bool _) rfl rfl) ?_; refine Wo rfl (opv_assign (v := .bool _) rfl) ?_; refine Wo_nil ?_; refine W_ret ?_; exact ⟨rfl, E1⟩

end Go.Proofs.Ytlalfmialbolhaa
namespace Go.Proofs.Ytlalfmialbolhaa
open Go.Hs
set_option maxRecDepth 10000
set_option maxHeartbeats 4000000
set_option linter.unusedVariables false
set_option linter.unusedSimpArgs false

def Try.laysSort_ren : Go.Shelf.Ren := ⟨fun | 189 => 92 | 125 => 97 | 257 => 96 | 128 => 107 | 129 => 108 | 294 => 98 | 295 => 99 | 296 => 100 | 297 => 101 | 298 => 102 | 299 => 103 | 216 => 104 | 300 => 105 | 301 => 106 | 328 => 109 | 329 => 110 | 330 => 111 | 331 => 112 | 332 => 113 | 215 => 114 | 343 => 115 | n => n, fun | 28 => 23 | 3 => 3 | 46 => 84 | 0 => 0 | 51 => 94 | 53 => 96 | 4 => 4 | 183 => 87 | 182 => 86 | 131 => 91 | 5 => 5 | 9 => 9 | 218 => 97 | 222 => 101 | 228 => 103 | 229 => 104 | n => n, fun | n => n⟩
theorem Try.laysSort : Go.Proofs.Lays.n189 Try.prog Try.laysSort_ren := {
  mixed := by kernel_rfl
  f125 := Try.func97.trans (congrArg some (by kernel_rfl))
  f128 := Try.func107.trans (congrArg some (by kernel_rfl))
  f129 := Try.func108.trans (congrArg some (by kernel_rfl))
  f189 := Try.func92.trans (congrArg some (by kernel_rfl))
  f215 := Try.func114.trans (congrArg some (by kernel_rfl))
  f216 := Try.func104.trans (congrArg some (by kernel_rfl))
  f257 := Try.func96.trans (congrArg some (by kernel_rfl))
  f294 := Try.func98.trans (congrArg some (by kernel_rfl))
  f295 := Try.func99.trans (congrArg some (by kernel_rfl))
  f296 := Try.func100.trans (congrArg some (by kernel_rfl))
  f297 := Try.func101.trans (congrArg some (by kernel_rfl))
  f298 := Try.func102.trans (congrArg some (by kernel_rfl))
  f299 := Try.func103.trans (congrArg some (by kernel_rfl))
  f300 := Try.func105.trans (congrArg some (by kernel_rfl))
  f301 := Try.func106.trans (congrArg some (by kernel_rfl))
  f328 := Try.func109.trans (congrArg some (by kernel_rfl))
  f329 := Try.func110.trans (congrArg some (by kernel_rfl))
  f330 := Try.func111.trans (congrArg some (by kernel_rfl))
  f331 := Try.func112.trans (congrArg some (by kernel_rfl))
  f332 := Try.func113.trans (congrArg some (by kernel_rfl))
  f343 := Try.func115.trans (congrArg some (by kernel_rfl))
  t0 := Try.underlying0
  a0 := Try.isAgg0
  z0 := Try.sizeOf0
  v0 := Try.zeroValue0
  t3 := Try.underlying3
  a3 := Try.isAgg3
  z3 := Try.sizeOf3
  v3 := Try.zeroValue3
  t4 := Try.underlying4
  a4 := Try.isAgg4
  z4 := Try.sizeOf4
  v4 := Try.zeroValue4
  t5 := Try.underlying5
  a5 := Try.isAgg5
  z5 := Try.sizeOf5
  v5 := Try.zeroValue5
  t9 := Try.underlying9
  a9 := Try.isAgg9
  z9 := Try.sizeOf9
  v9 := Try.zeroValue9
  t28 := Try.underlying23
  a28 := Try.isAgg23
  z28 := Try.sizeOf23
  v28 := Try.zeroValue23
  t46 := Try.underlying84
  a46 := Try.isAgg84
  z46 := Try.sizeOf84
  v46 := Try.zeroValue84
  t51 := Try.underlying94
  a51 := Try.isAgg94
  z51 := Try.sizeOf94
  v51 := Try.zeroValue94
  t53 := Try.underlying96
  a53 := Try.isAgg96
  z53 := Try.sizeOf96
  v53 := Try.zeroValue96
  t131 := Try.underlying91
  a131 := Try.isAgg91
  z131 := Try.sizeOf91
  v131 := Try.zeroValue91
  t182 := Try.underlying86
  a182 := Try.isAgg86
  z182 := Try.sizeOf86
  v182 := Try.zeroValue86
  t183 := Try.underlying87
  a183 := Try.isAgg87
  z183 := Try.sizeOf87
  v183 := Try.zeroValue87
  t218 := Try.underlying97
  a218 := Try.isAgg97
  z218 := Try.sizeOf97
  v218 := Try.zeroValue97
  t222 := Try.underlying101
  a222 := Try.isAgg101
  z222 := Try.sizeOf101
  v222 := Try.zeroValue101
  t228 := Try.underlying103
  a228 := Try.isAgg103
  z228 := Try.sizeOf103
  v228 := Try.zeroValue103
  t229 := Try.underlying104
  a229 := Try.isAgg104
  z229 := Try.sizeOf104
  v229 := Try.zeroValue104 }
theorem XAll_ints {w : World} {fps : List (List Nat)} {cs : List Value} {xs : List Int} (h : XAll XInt w fps cs xs) : cs = xs.map (Value.int .i64) ∧ fps.flatten = [] := by
  induction xs generalizing fps cs with
  | nil => cases fps <;> cases cs <;> first | exact ⟨rfl, rfl⟩ | exact h.elim
  | cons x xs ih =>
    cases fps <;> cases cs <;> first | exact h.elim | skip
    obtain ⟨⟨rfl, rfl⟩, h2⟩ := h
    obtain ⟨rfl, h4⟩ := ih h2
    exact ⟨rfl, h4⟩
theorem XAll_ints_mk {w : World} (xs : List Int) : XAll XInt w (xs.map fun _ => []) (xs.map (Value.int .i64)) xs := by
  induction xs with
  | nil => trivial
  | cons x xs ih => exact ⟨⟨rfl, rfl⟩, ih⟩


theorem Sort_ok (w : World) {lo hi : Nat} (v : Value) (xs : List Int) (h : OwnedB lo hi XI w v xs) (h0 : xs ≠ []) (hl : xs.length ≤ 1000000) :
    Does Try.prog 92 [v] w (RetSO lo hi w (.tuple #[]) XI v (sortI xs)) := by
  obtain ⟨fp, hnd, hfp, cs, fps, hrow, rfl, hX⟩ := h
  obtain ⟨rfl, hf⟩ := XAll_ints hX
  rcases hrow.2 with ⟨h6, h7⟩ | ⟨g, cap, cur, rfl, hg, hb, hn, hcap, hsz, htk⟩
  · exact absurd (List.length_eq_zero_iff.1 h7) h0
  have hin := hfp g (by simp [Value.ownBlock])
  have hH := holds_of_blockI hb (by simpa using htk)
  have hlt : g < w.heap.size := (Array.getElem?_eq_some_iff.1 hb).1
  have hc := Go.Proofs.Any.slices_Sort_int Try.laysSort g 0 cap xs w hH hlt (by omega)
  unfold Does
  refine Calls.mono (show Calls Try.prog 92 _ w _ from hc) ?_
  rintro e w' ⟨he, n, os, rfl⟩
  refine ⟨_, he, rfl, ?_, ?_⟩
  · have G := grownBy_sortedI (w := w) (g := g) (n := n) (os := os) ((xs.mergeSort fun x y => decide (x ≤ y)).toArray)
    exact ⟨G.os, G.tape, G.output, G.size, fun k hk hk2 => G.block k hk2 (by simp; omega)⟩
  · have hr := ownsRow_sortedI (n := n) (os := os) (base := 0) (ss := xs) (ts := sortI xs) (sortI_len xs) (Nat.zero_le _) hb hn hcap hsz
    have hfl : ∀ ys : List Int, (ys.map fun _ => ([] : List Nat)).flatten = [] := by intro ys; induction ys <;> simp_all
    refine ⟨_, ?_, ?_, _, (sortI xs).map fun _ => [], ?_, rfl, XAll_ints_mk _⟩
    · rw [hfl]; simp [Value.ownBlock]
    · intro k hk; rw [hfl] at hk; simp [Value.ownBlock] at hk; omega
    · rw [sortI_len]; exact hr

end Go.Proofs.Ytlalfmialbolhaa
namespace Go.Hs
end Go.Hs
namespace Go.Proofs.Ytlalfmialbolhaa
open Go.Hs
set_option maxRecDepth 10000
set_option maxHeartbeats 4000000
set_option linter.unusedVariables false
set_option linter.unusedSimpArgs false
end Go.Proofs.Ytlalfmialbolhaa
namespace Go.Proofs.Ytlalfmialbolhaa
open Go.Hs
set_option maxRecDepth 10000
set_option maxHeartbeats 4000000
set_option linter.unusedVariables false
set_option linter.unusedSimpArgs false

theorem Index_ok (w : World) (v : Value) (xs : List Int) (h : Ints w v xs) (n : Int) :
    Does Try.prog 82 [v, .int .i64 n] w (RetX w (Value.int .i64) (fun z _ => (z = -1 ∧ n ∉ xs) ∨ (0 ≤ z ∧ n ∈ xs))) := by
  have hle := h.le
  refine fn_of_W1 Try.func82 rfl Try.results82 Try.ntmps82 rfl ?_
  focus
    refine W_seq ?_; refine W_region rfl ?_; refine Wo rfl (opv_assign (v := .int _ _) rfl) ?_; refine Wo_nil ?_; refine W_seq ?_; refine W_seq ?_; refine W_region rfl ?_; refine Wo rfl (opv_move (v := v) rfl) ?_
    refine Wo rfl (opv_len Try.underlying23 rfl h) ?_; refine Wo rfl (opv_move (v := .int _ _) rfl) ?_; refine Wo_nil ?_; refine W_block ?_
  refine W_loop [4, 5, 8, 9, 10, 11, 12, 13, 14, 15, 16, 17, 18] (fun (k : Nat) => [(8, .int .i64 (k : Nat))]) (fun k w' => Ext w w' ∧ k ≤ xs.length ∧ n ∉ xs.take k) (fun x => xs.length - x) 0 (by repeat (first | exact trivial | refine And.intro rfl ?_)) ?_ ?_
  · exact ⟨Ext.refl _, Nat.zero_le _, by simp⟩
  rintro k ρj w1 ⟨E1, hk, hg⟩
  by_cases hlt : k < xs.length
  · have hmem := List.getElem_mem hlt
    focus
      have szE1 := E1.size; refine W_seq ?_; refine W_region rfl ?_; refine Wo rfl (opv_lss rfl rfl) ?_; refine Wo_nil ?_; refine W_seq ?_; refine W_cond_dec rfl (fun h1 => ?_) (fun h1 => ?_); refine W_skip ?_; refine W_seq ?_
      refine W_block ?_; refine W_seq ?_; refine W_region rfl ?_; refine Wo rfl (opv_move (v := .int _ _) rfl) ?_; refine Wo rfl (opv_assign (v := .int _ _) rfl) ?_; refine Wo_nil ?_; refine W_seq ?_; refine W_region rfl ?_
      refine Wo rfl (opv_move (v := .int _ _) rfl) ?_; refine Wo rfl (opv_move (v := v) rfl) ?_; refine Wo rfl (opv_move (v := .int _ _) rfl) ?_
      refine Wo_get Try.underlying23 Try.sizeOf3 Try.isAgg3 rfl (fun _ => rfl) rfl h E1 rfl (by first | omega | (simp <;> omega)) ?_; rintro _ _ rfl; refine Wo rfl (opv_eql rfl rfl) ?_; refine Wo_nil ?_
      refine W_cond_dec rfl (fun h2 => ?_) (fun h2 => ?_); refine W_seq ?_; refine W_region rfl ?_; refine Wo rfl (opv_move (v := .int _ _) rfl) ?_; refine Wo rfl (opv_assign (v := .int _ _) rfl) ?_; refine Wo_nil ?_; refine W_ret ?_
      refine at_ret (v := .int _ _) rfl ?_; refine ⟨E1, _, rfl, ?_⟩; (try dsimp only); rotate_left; refine W_skip ?_; refine W_region rfl ?_; refine Wo rfl (opv_add rfl rfl (by omega)) ?_; refine Wo rfl (opv_move (v := .int _ _) rfl) ?_
      refine Wo_nil ?_; rotate_left; (exfalso; omega)
    · right
      have e : n = xs[k] := by assumption
      exact ⟨by omega, by rw [e]; exact hmem⟩
    · have e : ¬ n = xs[k] := by assumption
      refine ⟨(k + 1), by repeat (first | exact trivial | refine And.intro rfl ?_), by repeat (first | with_reducible exact Same.refl | refine Same.upd rfl ?_ | refine Same.upds rfl ?_ | refine Same.mix rfl ?_), ?_, ?_⟩
      · refine ⟨E1, by omega, ?_⟩
        rw [take_snoc _ _ hlt, List.mem_append]
        rintro (h9 | h9)
        · exact hg h9
        · exact e (List.mem_singleton.1 h9)
      · omega
  · obtain rfl : k = xs.length := by omega
    focus
      have szE1 := E1.size; refine W_seq ?_; refine W_region rfl ?_; refine Wo rfl (opv_lss rfl rfl) ?_; refine Wo_nil ?_; refine W_seq ?_; refine W_cond_dec rfl (fun h1 => ?_) (fun h1 => ?_); (exfalso; omega); refine W_exit ?_
      refine exitX_same ?_; refine W_seq ?_; refine W_region rfl ?_; refine Wo rfl (opv_assign (v := .int _ _) rfl) ?_; refine Wo_nil ?_; refine W_ret ?_; refine at_ret (v := .int _ _) rfl ?_; refine ⟨E1, _, rfl, ?_⟩; (try dsimp only)
    exact .inl ⟨rfl, by simpa using hg⟩

theorem Contains_ok (w : World) (v : Value) (xs : List Int) (h : Ints w v xs) (n : Int) :
    Does Try.prog 73 [v, .int .i64 n] w (Ret w (.bool (decide (n ∈ xs)))) := by
  refine fn_of_W1 Try.func73 rfl Try.results73 Try.ntmps73 rfl ?_
  focus
    refine W_seq ?_; refine W_region rfl ?_; refine Wo rfl (opv_assign (v := .bool _) rfl) ?_; refine Wo_nil ?_; refine W_seq ?_; refine W_region rfl ?_; refine Wo rfl (opv_move (v := v) rfl) ?_
    refine Wo rfl (opv_move (v := .int _ _) rfl) ?_; refine Wo_call rfl (opc2 (a := v) (b := .int _ _) Try.call82 rfl rfl) (Index_ok _ _ _ (h) _) ?_; rintro _ w1 ⟨E1, y1, rfl, hy1⟩; have hs1 := E1.size
    refine Wo rfl (opv_geq rfl rfl) ?_; refine Wo rfl (opv_assign (v := .bool _) rfl) ?_; refine Wo_nil ?_; refine W_ret ?_; refine at_ret (v := .bool _) rfl ?_; refine ⟨congrArg Value.bool ?_, E1⟩
  rcases hy1 with ⟨rfl, h9⟩ | ⟨h8, h9⟩
  · rw [decide_eq_false h9]; rfl
  · rw [decide_eq_true h9]; exact decide_eq_true h8

theorem reachedFrom_ok (w : World) (v : Value) (p : List (List Int)) (h : ESl Ints w v p) (hp : Pic p) (i : Nat) (hi : i < p.length) : Does Try.prog 86 [v, .int .i64 (i : Int)] w (RetO w XI (ints (rf p i))) := by
  have hle := h.le
  have hp5 := hp.2.1
  refine fn_of_W1 Try.func86 rfl Try.results86 Try.ntmps86 rfl ?_
  focus
    refine W_seq ?_; refine W_region rfl ?_; refine Wo rfl (opv_assign (v := .slice _ _ _) rfl) ?_; refine Wo_nil ?_; refine W_seq ?_; refine W_region rfl ?_; refine Wo rfl (opv_move (v := .int _ _) rfl) ?_
    refine Wo_buildSliceH (ps := [(0, .int _ _)]) (cs := [_]) rfl Try.underlying23 Try.sizeOf3 Try.zeroValue3 rfl rfl rfl rfl ?_; rintro b1 w1 hb1 E1 hB1 hHb1; have hlb1 := hB1.lt; have hs1 := E1.size
    refine Wo rfl (opv_assign (v := .slice _ _ _) rfl) ?_; refine Wo_nil ?_; refine W_seq ?_; refine W_seq ?_; refine W_region rfl ?_; refine Wo rfl (opv_assign (v := .int _ _) rfl) ?_; refine Wo_nil ?_; refine W_block ?_
  have hO1 : Owned w.heap.size XI w1 (.slice (some ⟨b1, 0, none⟩) 1 1) (ints [i]) := Owned.block hHb1 hb1 rfl (by decide) ⟨⟨rfl, rfl⟩, trivial⟩
  clear hHb1 hB1
  refine W_loop [5, 6, 8, 11, 12, 13, 14, 15, 16, 17, 18, 19, 20, 21, 22, 23, 24, 25, 26, 27, 28, 29, 30, 31, 32, 33, 34, 35, 36] (fun (t, u, l) => [(6, .int .i64 (t : Nat)), (5, u)]) (fun (t, u, l) w' => Ext w w' ∧ Owned w.heap.size XI w' u (ints l) ∧ t ≤ l.length ∧ l.Nodup ∧ i ∈ l ∧ (∀ j ∈ l, Rch p i j) ∧ ∀ k ∈ l.take t, ∀ j ∈ arr p k, j ∈ l) (fun x => p.length - x.1) (0, .slice (some ⟨b1, 0, none⟩) 1 1, [i]) (by repeat (first | exact trivial | refine And.intro rfl ?_)) ?_ ?_
  · exact ⟨E1, hO1, Nat.zero_le _, by simp, by simp, fun j hj => by rw [List.mem_singleton.1 hj]; exact .refl _, by simp⟩
  rintro ⟨t, u, l⟩ ρj w2 ⟨E2, hO2, ht, hnd, hil, hrl, hcl⟩
  have hll : l.length ≤ p.length := nodup_len hnd fun j hj => (hrl j hj).lt hp hi
  have hil' := ints_len l
  by_cases hlt : t < l.length
  · have hlm := (hrl _ (List.getElem_mem hlt)).lt hp hi
    have hgt : (ints l)[t]'(by omega) = (l[t] : Int) := by simp [ints]
    have harr : ∀ (w1 : World) (pv : Value), ESl Ints w1 pv p → Does Try.prog 91 [pv, .int .i64 ((ints l)[t]'(by omega))] w1 (RetO w1 XI (ints (arr p l[t]))) := fun w1 pv h1 => by
      rw [hgt]
      exact arrowsOf_ok w1 pv p h1 (l[t] : Int) ⟨by omega, by omega⟩ (by rw [getD_lt (by omega), hp.row (by omega)]; omega)
    focus
      have szE2 := E2.size; have szE1 := E1.size; refine W_seq ?_; refine W_seq ?_; refine W_region rfl ?_; refine Wo rfl (opv_move (v := .int _ _) rfl) ?_; refine Wo rfl (opv_move (v := u) rfl) ?_
      refine Wo rfl (opv_len Try.underlying23 rfl (Owned.read hO2)) ?_; refine Wo rfl (opv_lss rfl rfl) ?_; refine Wo_nil ?_; refine W_cond_dec rfl (fun h1 => ?_) (fun h1 => ?_); refine W_skip ?_; refine W_seq ?_; refine W_block ?_
      refine W_seq ?_; refine W_region rfl ?_; refine Wo rfl (opv_move (v := v) rfl) ?_; refine Wo rfl (opv_move (v := u) rfl) ?_; refine Wo rfl (opv_move (v := .int _ _) rfl) ?_
      refine Wo_get Try.underlying23 Try.sizeOf3 Try.isAgg3 rfl (fun _ => rfl) rfl (Owned.read hO2) (Ext.refl _) rfl (by first | omega | (simp <;> omega)) ?_; rintro _ _ rfl
      refine Wo_call rfl (opc2 (a := v) (b := .int _ _) Try.call91 rfl rfl) (harr _ _ ((Mono.mono E2 h))) ?_; rintro u1 w3 ⟨E3, hO3⟩; have hs2 := E3.size; refine Wo rfl (opv_len Try.underlying23 rfl (Owned.read hO3)) ?_
      refine Wo rfl (opv_move (v := .int _ _) rfl) ?_; refine Wo_nil ?_; refine W_block ?_; rotate_left; (exfalso; omega)
    have hBe : Besides u.ownBlock Ints w3 u1 (ints (arr p l[t])) := Besides.start hO2 hO3.above
    have hla := ints_len (arr p l[t])
    refine W_loop [5, 8, 24, 25, 26, 27, 28, 29, 30, 31, 32, 33, 34, 35, 36] (fun (m, u', l') => [(24, .int .i64 (m : Nat)), (5, u')]) (fun (m, u', l') w' => Ext w w' ∧ Owned w.heap.size XI w' u' (ints l') ∧ m ≤ (arr p l[t]).length ∧ Besides u'.ownBlock Ints w' u1 (ints (arr p l[t])) ∧ l'.Nodup ∧ i ∈ l' ∧ (∀ j ∈ l', Rch p i j) ∧ (∃ e, l' = l ++ e) ∧ ∀ j ∈ (arr p l[t]).take m, j ∈ l') (fun x => (arr p l[t]).length - x.1) (0, u, l) (by repeat (first | exact trivial | refine And.intro rfl ?_)) ?_ ?_
    · exact ⟨E2.trans E3, hO2.ext E3, Nat.zero_le _, hBe, hnd, hil, hrl, ⟨[], by simp⟩, by simp⟩
    clear hO2 hBe
    rintro ⟨m, u', l'⟩ ρk w4 ⟨E4, hO4, hm, hBe, hnd', hil', hrl', hex, hcm⟩
    have hll' : l'.length ≤ p.length := nodup_len hnd' fun j hj => (hrl' j hj).lt hp hi
    have hlil := ints_len l'
    by_cases hml : m < (arr p l[t]).length
    · have hal : (arr p l[t]).length ≤ 5 := by
        have h8 := arrR_len (p.getD l[t] [])
        rw [getD_lt (by omega), hp.row (by omega)] at h8
        have : (arr p l[t]).length ≤ p.length := by unfold arr; rw [getD_lt (by omega)]; exact h8
        omega
      have hgm := ints_get hml
      have hmm := List.getElem_mem hml
      have hmi := mem_ints (l := l') (x := (arr p l[t])[m])
      rw [← hgm] at hmi
      have hts := take_snoc _ _ hml
      obtain ⟨e, he⟩ := hex
      focus
        have szE4 := E4.size; have szE3 := E3.size; have szE2 := E2.size; have szE1 := E1.size; refine W_seq ?_; refine W_region rfl ?_; refine Wo rfl (opv_lss rfl rfl) ?_; refine Wo_nil ?_; refine W_seq ?_
        refine W_cond_dec rfl (fun h2 => ?_) (fun h2 => ?_); refine W_skip ?_; refine W_seq ?_; refine W_block ?_; refine W_seq ?_; refine W_region rfl ?_
        refine Wo_get Try.underlying23 Try.sizeOf3 Try.isAgg3 rfl (fun _ => rfl) rfl (Besides.here hBe) (Ext.refl _) rfl (by first | omega | (simp <;> omega)) ?_; rintro _ _ rfl; refine Wo rfl (opv_assign (v := .int _ _) rfl) ?_
        refine Wo_nil ?_; refine W_seq ?_; refine W_region rfl ?_; refine Wo rfl (opv_move (v := u') rfl) ?_; refine Wo rfl (opv_move (v := .int _ _) rfl) ?_
        refine Wo_call rfl (opc2 (a := u') (b := .int _ _) Try.call73 rfl rfl) (Contains_ok _ _ _ ((Owned.read hO4)) _) ?_; rintro _ w5 ⟨rfl, E5⟩; have hs3 := E5.size; refine Wo rfl (opv_not rfl) ?_; refine Wo_nil ?_
        refine W_cond_ndec rfl (fun h3 => ?_) (fun h3 => ?_); refine W_region rfl ?_; refine Wo rfl (opv_move (v := u') rfl) ?_; refine Wo rfl (opv_move (v := .int _ _) rfl) ?_
        refine Wo_buildSliceH (ps := [(0, .int _ _)]) (cs := [_]) rfl Try.underlying23 Try.sizeOf3 Try.zeroValue3 rfl rfl rfl rfl ?_; rintro b2 w6 hb2 E6 hB1 hHb2; have hlb2 := hB1.lt; have hs4 := E6.size
        refine Wo_app1 rfl el23 rfl rfl hB1 (hO4.toB.ext (E5.trans E6)) Owned.int (Nat.le_refl _) (by first | omega | (simp <;> omega)) (by omega) (by omega) ((E4.trans E5).trans E6) (by omega) ?_; have hT1 := (hO4.toB.ext (E5.trans E6))
        rintro v1 w7 hO4 E7 M1; have hBe := (hBe.ext (E5.trans E6)).moves M1; have hB1 := hB1.moves M1 hT1 (by omega); have hs5 := E7.size; refine Wo rfl (opv_assign (v := v1) rfl) ?_; refine Wo_nil ?_; refine W_region rfl ?_
        refine Wo rfl (opv_add rfl rfl (by omega)) ?_; refine Wo rfl (opv_move (v := .int _ _) rfl) ?_; refine Wo_nil ?_; rotate_left; refine W_skip ?_; refine W_region rfl ?_; refine Wo rfl (opv_add rfl rfl (by omega)) ?_
        refine Wo rfl (opv_move (v := .int _ _) rfl) ?_; refine Wo_nil ?_; rotate_left; (exfalso; omega)
      · have hno : ¬ (arr p l[t])[m] ∈ l' := fun h9 => by
          have h10 : ¬ (ints (arr p l[t]))[m]'(by omega) ∈ ints l' := by assumption
          exact h10 (hmi.2 h9)
        refine ⟨((m + 1, v1, l' ++ [(arr p l[t])[m]])), by repeat (first | exact trivial | refine And.intro rfl ?_), by repeat (first | with_reducible exact Same.refl | refine Same.upd rfl ?_ | refine Same.upds rfl ?_ | refine Same.mix rfl ?_), ?_, ?_⟩
        · refine ⟨by assumption, ?_, by omega, by assumption, ?_, ?_, ?_, ⟨e ++ [(arr p l[t])[m]], by rw [he, List.append_assoc]⟩, ?_⟩
          · rw [ints_append, show ints [(arr p l[t])[m]] = [(ints (arr p l[t]))[m]'(by omega)] by rw [hgm]; rfl]
            assumption
          · exact List.nodup_append.2 ⟨hnd', by simp, fun a ha b hb hab => hno (by rw [← List.mem_singleton.1 hb, ← hab]; exact ha)⟩
          · exact List.mem_append_left _ hil'
          · intro j hj
            rcases List.mem_append.1 hj with h9 | h9
            · exact hrl' j h9
            · rw [List.mem_singleton.1 h9]; exact (hrl _ (List.getElem_mem hlt)).step hmm
          · intro j hj
            rw [hts] at hj
            rcases List.mem_append.1 hj with h9 | h9
            · exact List.mem_append_left _ (hcm j h9)
            · exact List.mem_append_right _ h9
        · simp only; omega
      · have hyes : (arr p l[t])[m] ∈ l' := hmi.1 (by assumption)
        refine ⟨((m + 1, u', l')), by repeat (first | exact trivial | refine And.intro rfl ?_), by repeat (first | with_reducible exact Same.refl | refine Same.upd rfl ?_ | refine Same.upds rfl ?_ | refine Same.mix rfl ?_), ?_, ?_⟩
        · refine ⟨E4.trans E5, hO4.ext E5, by omega, hBe.ext E5, hnd', hil', hrl', ⟨e, he⟩, fun j hj => ?_⟩
          rw [hts] at hj
          rcases List.mem_append.1 hj with h9 | h9
          · exact hcm j h9
          · rw [List.mem_singleton.1 h9]; exact hyes
        · simp only; omega
    · obtain rfl : m = (arr p l[t]).length := by omega
      focus
        have szE4 := E4.size; have szE3 := E3.size; have szE2 := E2.size; have szE1 := E1.size; refine W_seq ?_; refine W_region rfl ?_; refine Wo rfl (opv_lss rfl rfl) ?_; refine Wo_nil ?_; refine W_seq ?_
        refine W_cond_dec rfl (fun h2 => ?_) (fun h2 => ?_); (exfalso; omega); refine W_exit ?_; refine exitX_same ?_; refine W_region rfl ?_; refine Wo rfl (opv_move (v := .int _ _) rfl) ?_; refine Wo rfl (opv_add rfl rfl (by omega)) ?_
        refine Wo rfl (opv_assign (v := .int _ _) rfl) ?_; refine Wo_nil ?_
      obtain ⟨e, rfl⟩ := hex
      refine ⟨((t + 1, u', l ++ e)), by repeat (first | exact trivial | refine And.intro rfl ?_), by repeat (first | with_reducible exact Same.refl | refine Same.upd rfl ?_ | refine Same.upds rfl ?_ | refine Same.mix rfl ?_), ?_, ?_⟩
      · refine ⟨by assumption, by assumption, by simp; omega, hnd', hil', hrl', fun k hk j hj => ?_⟩
        rw [List.take_append_of_le_length (by omega), take_snoc _ _ hlt] at hk
        rcases List.mem_append.1 hk with h9 | h9
        · exact List.mem_append_left _ (hcl k h9 j hj)
        · rw [List.mem_singleton.1 h9] at hj
          exact hcm j (by rw [List.take_length]; exact hj)
      · simp only; omega
  · obtain rfl : t = l.length := by omega
    have hB2 := hO2.toB
    have hne : ints l ≠ [] := by cases l with
      | nil => cases hil
      | cons a l => simp [ints]
    focus
      have szE2 := E2.size; have szE1 := E1.size; refine W_seq ?_; refine W_seq ?_; refine W_region rfl ?_; refine Wo rfl (opv_move (v := .int _ _) rfl) ?_; refine Wo rfl (opv_move (v := u) rfl) ?_
      refine Wo rfl (opv_len Try.underlying23 rfl (OwnedB.read hB2)) ?_; refine Wo rfl (opv_lss rfl rfl) ?_; refine Wo_nil ?_; refine W_cond_dec rfl (fun h1 => ?_) (fun h1 => ?_); (exfalso; omega); refine W_exit ?_; refine exitX_same ?_
      refine W_seq ?_; refine W_region rfl ?_; refine Wo rfl (opv_move (v := u) rfl) ?_; refine Wo_call rfl (opc1 (a := u) Try.call92 rfl) (Sort_ok _ _ _ (hB2) (by assumption) (by omega)) ?_; rintro _ w3 ⟨rfl, E3, hO3⟩
      have E4 := E2.span E3 (by omega); have hs2 := E3.size; refine Wo_nil ?_; refine W_seq ?_; refine W_region rfl ?_; refine Wo rfl (opv_move (v := u) rfl) ?_; refine Wo rfl (opv_assign (v := u) rfl) ?_; refine Wo_nil ?_
      refine W_ret ?_; refine ⟨E4, (congrArg (Owned _ _ _ _) ?_).mp (hO3.o.mono (by omega))⟩
    exact bfs hp hi hnd hil hrl (fun k hk => hcl k (by rw [List.take_length]; exact hk))

end Go.Proofs.Ytlalfmialbolhaa
namespace Go.Proofs.Ytlalfmialbolhaa
open Go.Hs
set_option maxRecDepth 10000
set_option maxHeartbeats 4000000
set_option linter.unusedVariables false
set_option linter.unusedSimpArgs false

end Go.Proofs.Ytlalfmialbolhaa
namespace Go.Proofs.Ytlalfmialbolhaa
open Go.Hs
set_option maxRecDepth 10000
set_option maxHeartbeats 4000000
set_option linter.unusedVariables false
set_option linter.unusedSimpArgs false

end Go.Proofs.Ytlalfmialbolhaa
namespace Go.Proofs.Ytlalfmialbolhaa
open Go.Hs
set_option maxRecDepth 10000
set_option maxHeartbeats 4000000
set_option linter.unusedVariables false
set_option linter.unusedSimpArgs false
theorem ints_any (l : List Nat) (g : Int → Bool) : (ints l).any g = l.any fun x => g (x : Int) := by
  unfold ints; rw [List.any_map]; rfl

theorem onLoop_ok (w : World) (v : Value) (p : List (List Int)) (h : ESl Ints w v p) (hp : Pic p) (i : Nat) (hi : i < p.length) : Does Try.prog 88 [v, .int .i64 (i : Int)] w (Ret w (.bool (onl p i))) := by
  have hp5 := hp.2.1
  obtain ⟨pa, pc, rfl, _⟩ := id h
  have harr : ∀ (w1 : World) (pv : Value), ESl Ints w1 pv p → Does Try.prog 91 [pv, .int .i64 (i : Int)] w1 (RetO w1 XI (ints (arr p i))) := fun w1 pv h1 =>
    arrowsOf_ok w1 pv p h1 (i : Int) ⟨by omega, by omega⟩ (by rw [getD_lt (by omega), hp.row (by omega)]; omega)
  have hcl : ∀ (w1 : World) (b3 b4 : Nat) (x : Nat), Ext w w1 → Blk w1 b3 [.slice pa p.length pc] → Blk w1 b4 [.int .i64 (i : Int)] → x < p.length → Does Try.prog 93 [.int .i64 (x : Int), .pointer (some ⟨b3, 0, none⟩), .pointer (some ⟨b4, 0, none⟩)] w1 (Ret w1 (.bool ((rf p x).contains i))) := by
    intro w1 b3 b4 x E0 hB3 hB4 hx
    have hE : ESl Ints w1 (.slice pa p.length pc) p := Mono.mono E0 h
    have hrf : ∀ (w2 : World) (pv : Value), ESl Ints w2 pv p → Does Try.prog 86 [pv, .int .i64 (x : Int)] w2 (RetO w2 XI (ints (rf p x))) := fun w2 pv h2 => reachedFrom_ok w2 pv p h2 hp x hx
    have hmem := mem_ints (l := rf p x) (x := i)
    refine fn_of_W1 Try.func93 rfl Try.results93 Try.ntmps93 rfl ?_
    focus
      have szE0 := E0.size; refine W_seq ?_; refine W_region rfl ?_; refine Wo rfl (opv_assign (v := .bool _) rfl) ?_; refine Wo_nil ?_; refine W_seq ?_; refine W_held (fun _ => True) mixed rfl (by kernel_rfl) ?_; intro w2 E1 K1 hz1
      have hs1 := E1.size; refine Wh_take 1 rfl (by kernel_rfl) (by kernel_rfl) rfl (fun _ _ => opv_move (v := .int _ _) rfl) trivial ?_; refine Wh_all (rs := [0, 3]) (by kernel_rfl) rfl ?_; refine WhAll_cons rfl ?_ ?_
      refine Wo (v := .slice _ _ _) rfl (opv_load Try.isAgg50 rfl ((hB3.ext E1).cell rfl)) ?_; refine Wo_nil ?_; refine ⟨trivial, ?_⟩; refine Wh_all (rs := [2, 3]) (by kernel_rfl) rfl ?_; refine WhAll_cons rfl ?_ ?_
      refine Wo_call rfl (opc2 (a := .slice _ _ _) (b := .int _ _) Try.call86 rfl rfl) (hrf _ _ ((Mono.mono E1 hE))) ?_; rintro u1 w3 ⟨E2, hO1⟩; have hs2 := E2.size; refine Wo_nil ?_; refine ⟨trivial, ?_⟩
      refine Wh_all (rs := [3]) (by kernel_rfl) rfl ?_; refine WhAll_cons rfl ?_ ?_; refine Wo (v := .int _ _) rfl (opv_load Try.isAgg3 rfl ((hB4.ext (E1.trans E2)).cell rfl)) ?_; refine Wo_nil ?_; refine ⟨trivial, ?_⟩
      refine Wh_all (rs := [4]) (by kernel_rfl) rfl ?_; refine WhAll_cons rfl ?_ ?_; refine Wo_call rfl (opc2 (a := u1) (b := .int _ _) Try.call73 rfl rfl) (Contains_ok _ _ _ ((Owned.read hO1)) _) ?_; rintro _ w4 ⟨rfl, E3⟩
      have hs3 := E3.size; refine Wo_nil ?_; refine ⟨trivial, ?_⟩; refine Wh_take 5 rfl (by kernel_rfl) (by kernel_rfl) rfl (fun _ _ => opv_assign (v := .bool _) rfl) trivial ?_; refine Wh_done (by kernel_rfl) ?_; refine W_ret ?_
      refine at_ret (v := .bool _) rfl ?_; refine ⟨congrArg Value.bool ?_, ((E1.trans E2).trans E3)⟩; rotate_left; exact WhAll_nil; exact WhAll_nil; refine WhAll_cons rfl ?_ ?_
      refine Wo (v := .int _ _) rfl (opv_load Try.isAgg3 rfl ((hB4.ext E1).cell rfl)) ?_; refine Wo_nil ?_; refine ⟨trivial, ?_⟩; refine Wh_all (rs := [2]) (by kernel_rfl) rfl ?_; refine WhAll_cons rfl ?_ ?_
      refine Wo_call rfl (opc2 (a := .slice _ _ _) (b := .int _ _) Try.call86 rfl rfl) (hrf _ _ ((Mono.mono E1 hE))) ?_; rintro u1 w3 ⟨E2, hO1⟩; have hs2 := E2.size; refine Wo_nil ?_; refine ⟨trivial, ?_⟩
      refine Wh_all (rs := [4]) (by kernel_rfl) rfl ?_; refine WhAll_cons rfl ?_ ?_; refine Wo_call rfl (opc2 (a := u1) (b := .int _ _) Try.call73 rfl rfl) (Contains_ok _ _ _ ((Owned.read hO1)) _) ?_; rintro _ w4 ⟨rfl, E3⟩
      have hs3 := E3.size; refine Wo_nil ?_; refine ⟨trivial, ?_⟩; refine Wh_take 5 rfl (by kernel_rfl) (by kernel_rfl) rfl (fun _ _ => opv_assign (v := .bool _) rfl) trivial ?_; refine Wh_done (by kernel_rfl) ?_; refine W_ret ?_
      refine at_ret (v := .bool _) rfl ?_; refine ⟨congrArg Value.bool ?_, ((E1.trans E2).trans E3)⟩; rotate_left; exact WhAll_nil; exact WhAll_nil; exact WhAll_nil; refine WhAll_cons rfl ?_ ?_
      refine Wo (v := .int _ _) rfl (opv_load Try.isAgg3 rfl ((hB4.ext E1).cell rfl)) ?_; refine Wo_nil ?_; refine ⟨trivial, ?_⟩; refine Wh_all (rs := [0]) (by kernel_rfl) rfl ?_; refine WhAll_cons rfl ?_ ?_
      refine Wo (v := .slice _ _ _) rfl (opv_load Try.isAgg50 rfl ((hB3.ext E1).cell rfl)) ?_; refine Wo_nil ?_; refine ⟨trivial, ?_⟩; refine Wh_all (rs := [2]) (by kernel_rfl) rfl ?_; refine WhAll_cons rfl ?_ ?_
      refine Wo_call rfl (opc2 (a := .slice _ _ _) (b := .int _ _) Try.call86 rfl rfl) (hrf _ _ ((Mono.mono E1 hE))) ?_; rintro u1 w3 ⟨E2, hO1⟩; have hs2 := E2.size; refine Wo_nil ?_; refine ⟨trivial, ?_⟩
      refine Wh_all (rs := [4]) (by kernel_rfl) rfl ?_; refine WhAll_cons rfl ?_ ?_; refine Wo_call rfl (opc2 (a := u1) (b := .int _ _) Try.call73 rfl rfl) (Contains_ok _ _ _ ((Owned.read hO1)) _) ?_; rintro _ w4 ⟨rfl, E3⟩
      have hs3 := E3.size; refine Wo_nil ?_; refine ⟨trivial, ?_⟩; refine Wh_take 5 rfl (by kernel_rfl) (by kernel_rfl) rfl (fun _ _ => opv_assign (v := .bool _) rfl) trivial ?_; refine Wh_done (by kernel_rfl) ?_; refine W_ret ?_
      refine at_ret (v := .bool _) rfl ?_; refine ⟨congrArg Value.bool ?_, ((E1.trans E2).trans E3)⟩; rotate_left; exact WhAll_nil; exact WhAll_nil; exact WhAll_nil; exact WhAll_nil
    all_goals exact contains_ints
  have hcon : ∀ (w1 : World) (u : Value) (b3 b4 : Nat), Ext w w1 → Blk w1 b3 [.slice pa p.length pc] → Blk w1 b4 [.int .i64 (i : Int)] → Ints w1 u (ints (arr p i)) → Does Try.prog 85 [u, .func (.func 93) [].toArray [.pointer (some ⟨b3, 0, none⟩), .pointer (some ⟨b4, 0, none⟩)].toArray] w1 (Ret w1 (.bool (onl p i))) := by
    intro w1 u b3 b4 E0 hB3 hB4 hu
    have := ContainsFunc_ok w1 u _ hu 93 [.pointer (some ⟨b3, 0, none⟩), .pointer (some ⟨b4, 0, none⟩)] (fun x => (rf p x.toNat).contains i) Try.call93 (fun x w' hx e => by
      simp only [ints, List.mem_map] at hx
      obtain ⟨j, hj, rfl⟩ := hx
      exact hcl w' b3 b4 j (E0.trans e) (hB3.ext e) (hB4.ext e) ((mem_arr hp hi).1 hj).1)
    rw [ints_any] at this
    exact this
  refine fn_of_W1 Try.func88 rfl Try.results88 Try.ntmps88 rfl ?_
  focus
    refine W_seq ?_; refine W_region rfl ?_; refine Wo_box rfl rfl rfl ?_; rintro b1 w1 hb1 E1 hB1; have hlb1 := hB1.lt; have hs1 := E1.size; refine Wo_box rfl rfl rfl ?_; rintro b2 w2 hb2 E2 hB2; have hlb2 := hB2.lt
    have hs2 := E2.size; refine Wo rfl (opv_assign (v := .bool _) rfl) ?_; refine Wo_nil ?_; refine W_seq ?_; refine W_region rfl ?_; refine Wo (v := .slice _ _ _) rfl (opv_load Try.isAgg50 rfl ((hB1.ext E2).cell rfl)) ?_
    refine Wo (v := .int _ _) rfl (opv_load Try.isAgg3 rfl (hB2.cell rfl)) ?_; refine Wo_call rfl (opc2 (a := .slice _ _ _) (b := .int _ _) Try.call91 rfl rfl) (harr _ _ ((Mono.mono (E1.trans E2) h))) ?_; rintro u1 w3 ⟨E3, hO1⟩
    have hs3 := E3.size; refine Wo rfl (opv_makeFunc rfl rfl) ?_
    refine Wo_call rfl (opc2 (a := u1) (b := .func _ _ _) Try.call85 rfl rfl) (hcon _ _ _ _ (((E1.trans E2).trans E3)) ((hB1.ext (E2.trans E3))) ((hB2.ext E3)) ((Owned.read hO1))) ?_; rintro _ w4 ⟨rfl, E4⟩; have hs4 := E4.size
    refine Wo rfl (opv_assign (v := .bool _) rfl) ?_; refine Wo_nil ?_; refine W_ret ?_; exact ⟨rfl, (((E1.trans E2).trans E3).trans E4)⟩

theorem comesBack_ok (w : World) (v : Value) (p : List (List Int)) (h : ESl Ints w v p) (hp : Pic p) (i : Nat) (hi : i < p.length) : Does Try.prog 78 [v, .int .i64 (i : Int)] w (Ret w (.bool (cback p i))) := by
  have hp5 := hp.2.1
  obtain ⟨pa, pc, rfl, _⟩ := id h
  have hrf : ∀ (w2 : World) (pv : Value), ESl Ints w2 pv p → Does Try.prog 86 [pv, .int .i64 (i : Int)] w2 (RetO w2 XI (ints (rf p i))) := fun w2 pv h2 => reachedFrom_ok w2 pv p h2 hp i hi
  have hcl : ∀ (w1 : World) (b3 x : Nat), Ext w w1 → Blk w1 b3 [.slice pa p.length pc] → x < p.length → Does Try.prog 87 [.int .i64 (x : Int), .pointer (some ⟨b3, 0, none⟩)] w1 (Ret w1 (.bool (onl p x))) := by
    intro w1 b3 x E0 hB3 hx
    have hE : ESl Ints w1 (.slice pa p.length pc) p := Mono.mono E0 h
    have hon : ∀ (w2 : World) (pv : Value), ESl Ints w2 pv p → Does Try.prog 88 [pv, .int .i64 (x : Int)] w2 (Ret w2 (.bool (onl p x))) := fun w2 pv h2 => onLoop_ok w2 pv p h2 hp x hx
    refine fn_of_W1 Try.func87 rfl Try.results87 Try.ntmps87 rfl ?_
    focus
      have szE0 := E0.size; refine W_seq ?_; refine W_region rfl ?_; refine Wo rfl (opv_assign (v := .bool _) rfl) ?_; refine Wo_nil ?_; refine W_seq ?_; refine W_region rfl ?_
      refine Wo (v := .slice _ _ _) rfl (opv_load Try.isAgg50 rfl (hB3.cell rfl)) ?_; refine Wo rfl (opv_move (v := .int _ _) rfl) ?_; refine Wo_call rfl (opc2 (a := .slice _ _ _) (b := .int _ _) Try.call88 rfl rfl) (hon _ _ (hE)) ?_
      rintro _ w2 ⟨rfl, E1⟩; have hs1 := E1.size; refine Wo rfl (opv_assign (v := .bool _) rfl) ?_; refine Wo_nil ?_; refine W_ret ?_; exact ⟨rfl, E1⟩
  have hcon : ∀ (w1 : World) (u : Value) (b3 : Nat), Ext w w1 → Blk w1 b3 [.slice pa p.length pc] → Ints w1 u (ints (rf p i)) → Does Try.prog 85 [u, .func (.func 87) [].toArray [.pointer (some ⟨b3, 0, none⟩)].toArray] w1 (Ret w1 (.bool (cback p i))) := by
    intro w1 u b3 E0 hB3 hu
    have := ContainsFunc_ok w1 u _ hu 87 [.pointer (some ⟨b3, 0, none⟩)] (fun x => onl p x.toNat) Try.call87 (fun x w' hx e => by
      simp only [ints, List.mem_map] at hx
      obtain ⟨j, hj, rfl⟩ := hx
      exact hcl w' b3 j (E0.trans e) (hB3.ext e) (((mem_rf hp hi).1 hj).lt hp hi))
    rw [ints_any] at this
    exact this
  refine fn_of_W1 Try.func78 rfl Try.results78 Try.ntmps78 rfl ?_
  focus
    refine W_seq ?_; refine W_region rfl ?_; refine Wo_box rfl rfl rfl ?_; rintro b1 w1 hb1 E1 hB1; have hlb1 := hB1.lt; have hs1 := E1.size; refine Wo rfl (opv_assign (v := .bool _) rfl) ?_; refine Wo_nil ?_; refine W_seq ?_
    refine W_region rfl ?_; refine Wo (v := .slice _ _ _) rfl (opv_load Try.isAgg50 rfl (hB1.cell rfl)) ?_; refine Wo rfl (opv_move (v := .int _ _) rfl) ?_
    refine Wo_call rfl (opc2 (a := .slice _ _ _) (b := .int _ _) Try.call86 rfl rfl) (hrf _ _ ((Mono.mono E1 h))) ?_; rintro u1 w2 ⟨E2, hO1⟩; have hs2 := E2.size; refine Wo rfl (opv_makeFunc rfl rfl) ?_
    refine Wo_call rfl (opc2 (a := u1) (b := .func _ _ _) Try.call85 rfl rfl) (hcon _ _ _ ((E1.trans E2)) ((hB1.ext E2)) ((Owned.read hO1))) ?_; rintro _ w3 ⟨rfl, E3⟩; have hs3 := E3.size
    refine Wo rfl (opv_assign (v := .bool _) rfl) ?_; refine Wo_nil ?_; refine W_ret ?_; exact ⟨rfl, ((E1.trans E2).trans E3)⟩

end Go.Proofs.Ytlalfmialbolhaa
namespace Go.Proofs.Ytlalfmialbolhaa
open Go.Hs
set_option maxRecDepth 10000
set_option maxHeartbeats 4000000
set_option linter.unusedVariables false
set_option linter.unusedSimpArgs false

theorem sameRows_ok (w : World) (v u : Value) (p q : List (List Int)) (h : ESl Ints w v p) (h' : ESl Ints w u q) : Does Try.prog 46 [v, u] w (Ret w (.bool (decide (p = q)))) := by
  have hle := h.le
  have hle' := h'.le
  refine fn_of_W1 Try.func46 rfl Try.results46 Try.ntmps46 rfl ?_
  focus
    refine W_seq ?_; refine W_region rfl ?_; refine Wo rfl (opv_assign (v := .bool _) rfl) ?_; refine Wo_nil ?_; refine W_seq ?_; refine W_seq ?_; refine W_region rfl ?_; refine Wo rfl (opv_move (v := v) rfl) ?_
    refine Wo rfl (opv_len Try.underlying50 rfl h) ?_; refine Wo rfl (opv_move (v := u) rfl) ?_; refine Wo rfl (opv_len Try.underlying50 rfl h') ?_; refine Wo rfl (opv_neq rfl rfl) ?_; refine Wo_nil ?_
    refine W_cond_ndec rfl (fun h1 => ?_) (fun h1 => ?_); refine W_seq ?_; refine W_region rfl ?_; refine Wo rfl (opv_assign (v := .bool _) rfl) ?_; refine Wo_nil ?_; refine W_ret ?_; refine at_ret (v := .bool _) rfl ?_
    refine ⟨congrArg Value.bool ?_, (Ext.refl _)⟩; rotate_left; refine W_skip ?_; refine W_seq ?_; refine W_seq ?_; refine W_region rfl ?_; refine Wo rfl (opv_assign (v := .int _ _) rfl) ?_; refine Wo_nil ?_; refine W_block ?_
    rotate_left
  · exact (decide_eq_false (fun e => by subst e; omega)).symm
  refine W_loop [4, 5, 11, 12, 13, 14, 15, 16, 17, 18, 19, 20, 21, 22, 23, 24, 25, 26] (fun (k : Nat) => [(5, .int .i64 (k : Nat))]) (fun k w' => Ext w w' ∧ k ≤ p.length ∧ p.take k = q.take k) (fun x => p.length - x) 0 (by repeat (first | exact trivial | refine And.intro rfl ?_)) ?_ ?_
  · exact ⟨Ext.refl _, Nat.zero_le _, by simp⟩
  rintro k ρj w1 ⟨E1, hk, he⟩
  focus
    have szE1 := E1.size; refine W_seq ?_; refine W_seq ?_; refine W_region rfl ?_; refine Wo rfl (opv_move (v := .int _ _) rfl) ?_; refine Wo rfl (opv_move (v := v) rfl) ?_; refine Wo rfl (opv_len Try.underlying50 rfl h) ?_
    refine Wo rfl (opv_lss rfl rfl) ?_; refine Wo_nil ?_; refine W_cond_dec rfl (fun h2 => ?_) (fun h2 => ?_); refine W_skip ?_; refine W_seq ?_; refine W_block ?_; refine W_seq ?_; refine W_draw mixed (by kernel_rfl) rfl ?_
    refine Wq_o rfl (fun _ _ => opv_move (v := v) rfl) ?_; refine Wq_o rfl (fun _ _ => opv_move (v := .int _ _) rfl) ?_
    refine Wq_get Try.underlying50 Try.sizeOf23 Try.isAgg23 rfl (fun _ => rfl) rfl h E1 rfl (by first | omega | (simp <;> omega)) ?_; rintro _ u1 hu1; refine Wq_o rfl (fun _ _ => opv_move (v := u) rfl) ?_
    refine Wq_o rfl (fun _ _ => opv_move (v := .int _ _) rfl) ?_; refine Wq_get Try.underlying50 Try.sizeOf23 Try.isAgg23 rfl (fun _ => rfl) rfl h' E1 rfl (by first | omega | (simp <;> omega)) ?_; rintro _ u2 hu2
    refine Wq_call rfl (fun _ _ => opc2 (a := u1) (b := u2) Try.call60 rfl rfl) (fun w' hw' => (sameInts_ok _ _ _ _ _ ((Mono.mono (E1.trans hw') hu1)) ((Mono.mono (E1.trans hw') hu2)))) ?_; refine Wq_o rfl (fun _ _ => opv_not rfl) ?_
    refine Wq_nil (fun w2 E2 => ?_); have hs1 := E2.size; refine W_cond_ndec rfl (fun h3 => ?_) (fun h3 => ?_); refine W_seq ?_; refine W_region rfl ?_; refine Wo rfl (opv_assign (v := .bool _) rfl) ?_; refine Wo_nil ?_; refine W_ret ?_
    refine at_ret (v := .bool _) rfl ?_; refine ⟨congrArg Value.bool ?_, (E1.trans E2)⟩; rotate_left; refine W_skip ?_; refine W_region rfl ?_; refine Wo rfl (opv_move (v := .int _ _) rfl) ?_
    refine Wo rfl (opv_add rfl rfl (by omega)) ?_; refine Wo rfl (opv_assign (v := .int _ _) rfl) ?_; refine Wo_nil ?_; rotate_left; refine W_exit ?_; refine exitX_same ?_; refine W_seq ?_; refine W_region rfl ?_
    refine Wo rfl (opv_assign (v := .bool _) rfl) ?_; refine Wo_nil ?_; refine W_ret ?_; refine at_ret (v := .bool _) rfl ?_; refine ⟨congrArg Value.bool ?_, E1⟩; rotate_left
  · exact (decide_eq_false (ne_at (k := k) (by omega) (by omega) (by assumption))).symm
  · refine ⟨(k + 1), by repeat (first | exact trivial | refine And.intro rfl ?_), by repeat (first | with_reducible exact Same.refl | refine Same.upd rfl ?_ | refine Same.upds rfl ?_ | refine Same.mix rfl ?_), ?_, ?_⟩
    · exact ⟨E1.trans E2, by omega, (take_eq_snoc (by omega) (by omega)).2 ⟨he, by assumption⟩⟩
    · omega
  · obtain rfl : k = p.length := by omega
    exact (decide_eq_true (ext_take (by omega) he)).symm
theorem same_rows (p : List (List Int)) (w : World) (v u : Value) (h : ESl Ints w v p) (h' : ESl Ints w u p) : Does Try.prog 46 [v, u] w (Ret w (.bool true)) := by
  have := sameRows_ok w v u p p h h'
  rw [decide_eq_true rfl] at this; exact this

end Go.Proofs.Ytlalfmialbolhaa
namespace Go.Proofs.Ytlalfmialbolhaa
open Go.Hs
set_option maxRecDepth 10000
set_option maxHeartbeats 4000000
set_option linter.unusedVariables false
set_option linter.unusedSimpArgs false

theorem impl_ComesBack_ok (w : World) (v : Value) (p : List (List Int)) (h : ESl Ints w v p) (hp : Pic p) (a : Int) (ha : 0 ≤ a ∧ a < p.length) : Does Try.prog 49 [v, .int .i64 a] w (Ret w (.bool (cback p a.toNat))) := by
  obtain ⟨k, rfl⟩ := Int.eq_ofNat_of_zero_le ha.1
  have hn : ∀ (w : World) (v : Value), ESl Ints w v p → Does Try.prog 75 [v, .int .i64 (k : Int)] w (Ret w (.bool true)) := fun w v h => by
    have := hasNode_ok w v p h (k : Int)
    rw [decide_eq_true (show Nod p (k : Int) from ⟨hp, ha.1, ha.2⟩)] at this; exact this
  have hc : ∀ (w : World) (v : Value), ESl Ints w v p → Does Try.prog 78 [v, .int .i64 (k : Int)] w (Ret w (.bool (cback p k))) := fun w v h => comesBack_ok w v p h hp k (by omega)
  refine fn_of_W1 Try.func49 rfl Try.results49 Try.ntmps49 rfl ?_
  focus
    refine W_seq ?_; refine W_region rfl ?_; refine Wo rfl (opv_assign (v := .bool _) rfl) ?_; refine Wo_nil ?_; refine W_seq ?_; refine W_region rfl ?_; refine Wo rfl (opv_move (v := v) rfl) ?_
    refine Wo rfl (opv_move (v := .int _ _) rfl) ?_; refine Wo_call rfl (opc2 (a := v) (b := .int _ _) Try.call75 rfl rfl) (hn _ _ (h)) ?_; rintro _ w1 ⟨rfl, E1⟩; have hs1 := E1.size; refine Wo rfl (opv_move (v := .bool _) rfl) ?_
    refine Wo rfl (opv_move (v := v) rfl) ?_; refine Wo rfl (opv_move (v := .int _ _) rfl) ?_; refine Wo_call rfl (opc2 (a := v) (b := .int _ _) Try.call78 rfl rfl) (hc _ _ ((Mono.mono E1 h))) ?_; rintro _ w2 ⟨rfl, E2⟩
    have hs2 := E2.size; refine Wo rfl (opv_pick_t (v := .bool _) rfl rfl) ?_; refine Wo rfl (opv_assign (v := .bool _) rfl) ?_; refine Wo_nil ?_; refine W_ret ?_; exact ⟨rfl, (E1.trans E2)⟩

theorem impl_PicOk_ok (w : World) (v : Value) (p : List (List Int)) (h : ESl Ints w v p) : Does Try.prog 48 [v] w (Ret w (.bool (decide (Pic p)))) := by
  refine fn_of_W1 Try.func48 rfl Try.results48 Try.ntmps48 rfl ?_
  focus
    refine W_seq ?_; refine W_region rfl ?_; refine Wo rfl (opv_assign (v := .bool _) rfl) ?_; refine Wo_nil ?_; refine W_seq ?_; refine W_region rfl ?_; refine Wo rfl (opv_move (v := v) rfl) ?_
    refine Wo_call rfl (opc1 (a := v) Try.call77 rfl) (isPicture_ok _ _ _ (h)) ?_; rintro _ w1 ⟨rfl, E1⟩; have hs1 := E1.size; refine Wo rfl (opv_assign (v := .bool _) rfl) ?_; refine Wo_nil ?_; refine W_ret ?_; exact ⟨rfl, E1⟩

theorem sdV_yes {A B : List Int} (h : sdOkP A B) : sdV A B = (sdP (shL (bat A B)) (shR (bat A B)), true) := if_pos h
theorem sdV_no {A B : List Int} (h : ¬ sdOkP A B) : sdV A B = ([], false) := if_neg h
theorem sd_nod {X Y : List Int} (h1 : 1 ≤ Y.length) (h4 : X.length + Y.length ≤ 4) (k : Nat) : Nod (sdP X Y) (sdN X Y k : Int) := by
  refine ⟨sdP_pic h1 h4, by omega, ?_⟩
  have := sdN_lt (A := X) h1 k
  rw [sdP_len]; unfold sdM; split <;> omega
theorem sset_sd {X Y Z T : List Int} (h1 : Stm X Y) (h2 : Stm Z T) (h4 : X.length + Y.length ≤ 4) (h4' : Z.length + T.length ≤ 4) (i j : Nat) : ssetV (sdP X Y) (sdN X Y i : Int) (sdP Z T) (sdN Z T j : Int) = true ↔ ∀ k, bat X Y (i + k) = bat Z T (j + k) := by
  classical
  unfold ssetV
  rw [decide_eq_true_iff, Int.toNat_natCast, Int.toNat_natCast, ← sd_bis h1.2.2.1 h2.2.2.1 h1.bit h2.bit i j]
  exact ⟨fun h => h.2.2, fun h => ⟨sd_nod h1.2.2.1 h4 i, sd_nod h2.2.2.1 h4' j, h⟩⟩
theorem sd_law1 {A B A' B' : List Int} (h : sdOkP A B) (h' : sdOkP A' B') : ssetV (sdP (shL (bat A B)) (shR (bat A B))) 0 (sdP (shL (bat A' B')) (shR (bat A' B'))) 0 = ssV A B A' B' := by
  have h1 := h.1.short_stm
  have h2 := h'.1.short_stm
  have key := sset_sd h1 h2 h.2 h'.2 0 0
  rw [sdN_zero h1.2.2.1, sdN_zero h2.2.2.1, h.1.short_bat, h'.1.short_bat] at key
  rw [Bool.eq_iff_iff]
  refine Iff.trans key ?_
  classical
  unfold ssV
  rw [decide_eq_true_iff]
  simp only [Nat.zero_add]
  exact ⟨fun h9 => ⟨h.1, h'.1, funext h9⟩, fun h9 k => by rw [h9.2.2]⟩
theorem sd_rest {A B : List Int} (h : sdOkP A B) : sdV (shL (shf (bat A B) 1)) (shR (shf (bat A B) 1)) = (sdP (shL (shf (bat A B) 1)) (shR (shf (bat A B) 1)), true) ∧ ssetV (sdP (shL (bat A B)) (shR (bat A B))) (sdNext (shL (bat A B)) (shR (bat A B)) 0 : Int) (sdP (shL (shf (bat A B) 1)) (shR (shf (bat A B) 1))) 0 = true := by
  obtain ⟨hS, hb⟩ := rst_stm h.1 1
  have h1 := h.1.short_stm
  have hsh := h.1.sh
  have e1 : (shL (bat A B)).length = shA (bat A B) := win_len
  have e2 : (shR (bat A B)).length = shP (bat A B) := win_len
  obtain ⟨b, q, hs⟩ := IsSh.ex (per_shf hsh.1 1)
  obtain ⟨e3, e4⟩ := hs.eq
  have h3 := hs.2 _ _ (per_shf hsh.1 1)
  have e5 : (shL (shf (bat A B) 1)).length = shA (shf (bat A B) 1) := win_len
  have e6 : (shR (shf (bat A B) 1)).length = shP (shf (bat A B) 1) := win_len
  have h4 := h.2
  have h5 : (shL (shf (bat A B) 1)).length + (shR (shf (bat A B) 1)).length ≤ 4 := by omega
  constructor
  · rw [sdV_yes ⟨hS, by rw [hb]; exact h5⟩, hb]
  · have key := sset_sd h1 hS h.2 h5 1 0
    rw [sdN_zero hS.2.2.1, hb, h.1.short_bat] at key
    have e7 : sdN (shL (bat A B)) (shR (bat A B)) 1 = sdNext (shL (bat A B)) (shR (bat A B)) 0 := by
      have := sdN_succ (A := shL (bat A B)) h1.2.2.1 0
      rw [sdN_zero h1.2.2.1] at this
      exact this
    rw [e7] at key
    refine key.2 fun k => ?_
    show bat A B (1 + k) = bat A B (0 + k + 1)
    congr 1; omega
theorem sd_first {X Y : List Int} (h1 : 1 ≤ Y.length) (hM : 0 < (sdP X Y).length) : (sdP X Y)[0] = sdRow X Y 0 (sdM X Y) := by
  simp only [sdP, List.getElem_map, List.getElem_range]
  rw [if_pos (by omega)]
/-- how the law finds the next node -/
theorem sd_next {X Y : List Int} (hs : Stm X Y) (h0 : 0 < (sdP X Y).length) :
    ((sdP X Y).length ≤ 1 ∧ sdNext X Y 0 = 0) ∨ (∃ (h1 : 1 < (sdP X Y)[0].length) (h2 : 1 < (sdP X Y).length), (sdP X Y)[0][1] = 1 ∧ ((sdP X Y)[0][0] = 1 ∧ sdNext X Y 0 = 0 ∨ (sdP X Y)[0][0] = 0 ∧ sdNext X Y 0 = 1)) := by
  have hY := hs.2.2.1
  have e := sd_first hY h0
  have hl : (sdP X Y).length = sdM X Y := sdP_len
  by_cases hn : X.length + Y.length = 1
  · have hnx : sdNext X Y 0 = 0 := by unfold sdNext; rw [if_pos (by omega)]; omega
    by_cases h9 : (1 : Int) ∈ X ++ Y
    · right
      have hM : sdM X Y = 2 := by unfold sdM; rw [if_pos h9]; omega
      have hb : (X ++ Y).getD 0 0 = 1 := by
        obtain ⟨i, hi, e9⟩ := List.mem_iff_getElem.1 h9
        have : i = 0 := by simp at hi; omega
        subst this
        rw [getD_lt hi]; exact e9
      have hrl : 1 < (sdP X Y)[0].length := by rw [e]; simp [sdRow]; omega
      refine ⟨hrl, by omega, ?_, .inl ⟨?_, hnx⟩⟩
      · simp only [e, sdRow, List.getElem_map, List.getElem_range]
        rw [b01_one]
        simp only [hb, decide_true, Bool.and_true, Bool.or_eq_true, decide_eq_true_eq]
        right; omega
      · simp only [e, sdRow, List.getElem_map, List.getElem_range]
        rw [b01_one]
        simp [hnx]
    · left
      have hM : sdM X Y = 1 := by unfold sdM; rw [if_neg h9]; omega
      exact ⟨by omega, hnx⟩
  · right
    have hnx : sdNext X Y 0 = 1 := by unfold sdNext; rw [if_neg (by omega)]
    have hM : 2 ≤ sdM X Y := by unfold sdM; split <;> omega
    have hrl : 1 < (sdP X Y)[0].length := by rw [e]; simp [sdRow]; omega
    refine ⟨hrl, by omega, ?_, .inr ⟨?_, hnx⟩⟩
    · simp only [e, sdRow, List.getElem_map, List.getElem_range]
      rw [b01_one]
      simp [hnx]
    · simp only [e, sdRow, List.getElem_map, List.getElem_range]
      unfold b01
      rw [if_neg]
      simp [hnx]; omega
theorem FnStreamDrawn_walk (w : World) (v : Value) (xs : List UInt8) (h : Bytes w v xs) (hc : CapOk v) (v' : Value) (xs' : List UInt8) (h' : Bytes w v' xs') (hc' : CapOk v') : Does Try.prog 12 [v, v'] w (Ret w (.bool true)) := by
  classical
  have hle := h.le
  have hle' := h'.le
  refine fn_of_W1 Try.func12 rfl Try.results12 Try.ntmps12 rfl ?_
  have stop4 : True := trivial
  focus
    refine W_seq ?_; refine W_region rfl ?_; refine Wo rfl (opv_assign (v := .bool _) rfl) ?_; refine Wo_nil ?_; refine W_seq ?_; refine W_seq ?_; refine W_region rfl ?_; refine Wo rfl (opv_move (v := v) rfl) ?_
    refine Wo rfl (opv_len Try.underlying22 rfl h) ?_; refine Wo rfl (opv_gtr rfl rfl) ?_; refine Wo_split_dec rfl (opv_move (v := .bool _) rfl) (fun h1 => ?_) (fun h1 => ?_); refine Wo_skip rfl ?_; refine Wo_skip rfl ?_
    refine Wo_skip rfl ?_; refine Wo rfl (opv_pick_t (v := .bool _) rfl rfl) ?_; refine Wo_nil ?_; refine W_cond_true rfl ?_; refine W_seq ?_; refine W_region rfl ?_; refine Wo rfl (opv_assign (v := .bool _) rfl) ?_; refine Wo_nil ?_
    refine W_ret ?_; exact ⟨rfl, (Ext.refl _)⟩; refine Wo rfl (opv_move (v := v') rfl) ?_; refine Wo rfl (opv_len Try.underlying22 rfl h') ?_; refine Wo rfl (opv_gtr rfl rfl) ?_; refine Wo rfl (opv_pick_f (v := .bool _) rfl rfl) ?_
    refine Wo_nil ?_; refine W_cond_dec rfl (fun h2 => ?_) (fun h2 => ?_); refine W_seq ?_; refine W_region rfl ?_; refine Wo rfl (opv_assign (v := .bool _) rfl) ?_; refine Wo_nil ?_; refine W_ret ?_; exact ⟨rfl, (Ext.refl _)⟩
    refine W_skip ?_; refine W_seq ?_; refine W_region rfl ?_; refine Wo rfl (opv_move (v := v) rfl) ?_; refine Wo_call rfl (opc1 (a := v) Try.call45 rfl) (DrawStreamDrawn_ok _ _ _ (h) (by assumption)) ?_
    rintro _ w1 ⟨u1, q1, x1, y1, rfl, E1, hO1, hQ1, hy1⟩; have icu1 := OwnedB.isC (Owned.toB hO1); have cpu1 := OwnedB.capOk (Owned.toB hO1); have icq1 := OwnedB.isC (Owned.toB hQ1); have cpq1 := OwnedB.capOk (Owned.toB hQ1)
    have hs1 := E1.size; refine Wo_alloc2 rfl flat25 ?_; rintro b1 w2 hb1 E2 hB1; have hlb1 := hB1.lt; have hs2 := E2.size
    refine Wo_st2 rfl Try.sizeOf25 rfl rfl (by first | rfl | assumption) (by first | rfl | assumption) hB1 (by omega) (E1.trans E2) ?_; rintro w3 E3 hB1 K1 hz1; have E4 := E2.wroteAt (E1.trans E2) E3 K1 hz1 (by omega)
    have szE4 := E4.size; have hO1 := (hO1.toB.ext E2).wrote K1 (by omega); have hQ1 := (hQ1.toB.ext E2).wrote K1 (by omega); refine Wo_nil ?_; refine W_seq ?_
  clear stop4
  obtain ⟨hA, hB⟩ := hy1
  have r1 := hO1.read
  have r2 := hQ1.read
  clear hO1 hQ1
  by_cases ho : sdOkP x1 y1
  · obtain ⟨hR1, hR2⟩ := sd_rest ho
    have hst := ho.1.short_stm
    obtain ⟨hS, _⟩ := rst_stm ho.1 1
    have hS2 := hS.2.2
    have hpic := sdP_pic hst.2.2.1 ho.2
    have hpl := hpic.1
    have hpl5 := hpic.2.1
    have hrow := fun (i : Nat) (hi : i < (sdP (shL (bat x1 y1)) (shR (bat x1 y1))).length) => hpic.row hi
    have hnx := sd_next hst hpl
    have hcb := sd_back (A := shL (bat x1 y1)) hst.2.2.1 (by have := ho.2; omega)
    have k1 : ∀ (w : World) (u1 u2 : Value), Ints w u1 x1 → Ints w u2 y1 → Does Try.prog 41 [.agg #[u1, u2]] w (RetOB w XR (sdP (shL (bat x1 y1)) (shR (bat x1 y1))) true) := fun w u1 u2 h1 h2 => by
      have := impl_StreamDrawn_ok w u1 u2 _ _ h1 h2 (by omega) (by omega)
      rw [sdV_yes ho] at this; exact this
    have k2 : ∀ (w : World) (u1 u2 : Value), Ints w u1 x1 → Ints w u2 y1 → Does Try.prog 40 [.agg #[u1, u2]] w (RetOB w XR (sdP (shL (bat x1 y1)) (shR (bat x1 y1))) true) := fun w u1 u2 h1 h2 => by
      have := spec_StreamDrawn_ok w u1 u2 _ _ h1 h2 (by omega) (by omega)
      rw [sdV_yes ho] at this; exact this
    have k3 := same_rows (sdP (shL (bat x1 y1)) (shR (bat x1 y1)))
    have k4 : ∀ (w : World) (u1 u2 : Value), Ints w u1 x1 → Ints w u2 y1 → Does Try.prog 20 [.agg #[u1, u2], .int .i64 1] w (RetS2 w 3 (shL (shf (bat x1 y1) 1)) (shR (shf (bat x1 y1) 1))) := fun w u1 u2 h1 h2 => by
      have := impl_RestOf_ok w u1 u2 _ _ h1 h2 (by omega) (by omega) 1
      rw [show rstV x1 y1 1 = (shL (shf (bat x1 y1) 1), shR (shf (bat x1 y1) 1)) from if_pos ⟨ho.1, by omega, by omega⟩] at this
      exact this
    have k5 : ∀ (w : World) (u1 u2 : Value), Ints w u1 (shL (shf (bat x1 y1) 1)) → Ints w u2 (shR (shf (bat x1 y1) 1)) → Does Try.prog 41 [.agg #[u1, u2]] w (RetOB w XR (sdP (shL (shf (bat x1 y1) 1)) (shR (shf (bat x1 y1) 1))) true) := fun w u1 u2 h1 h2 => by
      have := impl_StreamDrawn_ok w u1 u2 _ _ h1 h2 (by omega) (by omega)
      rw [hR1] at this; exact this
    have k6 : ∀ (w : World) (v u : Value), ESl Ints w v (sdP (shL (bat x1 y1)) (shR (bat x1 y1))) → ESl Ints w u (sdP (shL (shf (bat x1 y1) 1)) (shR (shf (bat x1 y1) 1))) → Does Try.prog 47 [v, .int .i64 (sdNext (shL (bat x1 y1)) (shR (bat x1 y1)) 0 : Int), u, .int .i64 0] w (Ret w (.bool true)) := fun w v u h h' => by
      have := impl_SameSet_ok w v u _ _ h h' (sdNext (shL (bat x1 y1)) (shR (bat x1 y1)) 0 : Int) 0
      rw [hR2] at this; exact this
    have k7 : ∀ (w : World) (v : Value), ESl Ints w v (sdP (shL (bat x1 y1)) (shR (bat x1 y1))) → Does Try.prog 48 [v] w (Ret w (.bool true)) := fun w v h => by
      have := impl_PicOk_ok w v _ h
      rw [decide_eq_true hpic] at this; exact this
    have k8 : ∀ (w : World) (v : Value), ESl Ints w v (sdP (shL (bat x1 y1)) (shR (bat x1 y1))) → Does Try.prog 49 [v, .int .i64 0] w (Ret w (.bool true)) := fun w v h => by
      have := impl_ComesBack_ok w v _ h hpic 0 ⟨by omega, by omega⟩
      rw [show (0 : Int).toNat = 0 from rfl, hcb] at this; exact this
    clear hR1 hR2 hst hS hS2 hpic hcb ho
    generalize sdP (shL (shf (bat x1 y1) 1)) (shR (shf (bat x1 y1) 1)) = Q at *
    generalize shL (bat x1 y1) = X at *
    generalize shR (bat x1 y1) = Y at *
    generalize shL (shf (bat x1 y1) 1) = Z at *
    generalize shR (shf (bat x1 y1) 1) = T at *
    have stop11 : True := trivial
    focus
      have szE4 := E4.size; have szE3 := E3.size; have szE2 := E2.size; have szE1 := E1.size; refine W_region rfl ?_; refine Wo (v := .agg _) rfl (opv_load2 Try.isAgg25 Try.sizeOf25 rfl hB1) ?_
      refine Wo_call rfl (opc1 (a := .agg _) Try.call41 rfl) (k1 _ _ _ (r1) (r2)) ?_; rintro _ w4 ⟨u2, rfl, E5, hO2⟩; have hs3 := E5.size; refine Wo rfl (opv_move (v := .tuple _) rfl) ?_; refine Wo rfl (opv_extract (v := u2) rfl rfl) ?_
      refine Wo rfl (opv_extract (v := .bool _) rfl rfl) ?_; refine Wo rfl (opv_assign (v := u2) rfl) ?_; refine Wo rfl (opv_assign (v := .bool _) rfl) ?_; refine Wo_nil ?_; refine W_seq ?_; refine W_region rfl ?_
      refine Wo (v := .agg _) rfl (opv_load2 Try.isAgg25 Try.sizeOf25 rfl (hB1.ext E5)) ?_; refine Wo_call rfl (opc1 (a := .agg _) Try.call40 rfl) (k2 _ _ _ ((Mono.mono E5 r1)) ((Mono.mono E5 r2))) ?_; rintro _ w5 ⟨u3, rfl, E6, hO3⟩
      have hs4 := E6.size; refine Wo rfl (opv_move (v := .tuple _) rfl) ?_; refine Wo rfl (opv_extract (v := u3) rfl rfl) ?_; refine Wo rfl (opv_extract (v := .bool _) rfl rfl) ?_; refine Wo rfl (opv_assign (v := u3) rfl) ?_
      refine Wo rfl (opv_assign (v := .bool _) rfl) ?_; refine Wo_nil ?_; refine W_seq ?_; refine W_seq ?_; refine W_region rfl ?_; refine Wo rfl (opv_move (v := u2) rfl) ?_; refine Wo rfl (opv_move (v := u3) rfl) ?_
      refine Wo_call rfl (opc2 (a := u2) (b := u3) Try.call46 rfl rfl) (k3 _ _ _ ((Mono.mono E6 (Owned.read hO2))) ((Owned.read hO3))) ?_; rintro _ w6 ⟨rfl, E7⟩; have hs5 := E7.size; refine Wo rfl (opv_not rfl) ?_
      refine Wo_split rfl (opv_move (v := .bool _) rfl) (fun h3 => ?_) (fun h3 => ?_); contradiction; refine Wo rfl (opv_move (v := .bool _) rfl) ?_; refine Wo rfl (opv_move (v := .bool _) rfl) ?_
      refine Wo rfl (opv_neq_bool Try.underlying4 rfl rfl) ?_; refine Wo rfl (opv_pick_f (v := .bool _) rfl rfl) ?_; refine Wo_nil ?_; refine W_cond_ndec rfl (fun h4 => ?_) (fun h4 => ?_); contradiction; refine W_skip ?_; refine W_seq ?_
      refine W_seq ?_; refine W_region rfl ?_; refine Wo rfl (opv_move (v := .bool _) rfl) ?_; refine Wo rfl (opv_not rfl) ?_; refine Wo_nil ?_; refine W_cond rfl (fun h5 => ?_) (fun h5 => ?_); contradiction; refine W_skip ?_
      refine W_seq ?_; refine W_region rfl ?_; refine Wo rfl (opv_move (v := v') rfl) ?_
      refine Wo_call rfl (opc1 (a := v') Try.call13 rfl) (DrawSameStreams_ok _ _ _ ((Mono.mono (((E3.trans E5).trans E6).trans E7) h')) (by assumption)) ?_
      rintro _ w7 ⟨u4, q2, r3, s1, x2, y2, x'1, y'1, rfl, E8, hO4, hQ2, hR1, hS1, hy1, hy1'⟩; have icu4 := OwnedB.isC (Owned.toB hO4); have cpu4 := OwnedB.capOk (Owned.toB hO4); have icq2 := OwnedB.isC (Owned.toB hQ2)
      have cpq2 := OwnedB.capOk (Owned.toB hQ2); have icr3 := OwnedB.isC (Owned.toB hR1); have cpr3 := OwnedB.capOk (Owned.toB hR1); have ics1 := OwnedB.isC (Owned.toB hS1); have cps1 := OwnedB.capOk (Owned.toB hS1); have hs6 := E8.size
      refine Wo rfl (opv_move (v := .tuple _) rfl) ?_; refine Wo rfl (opv_extract (v := .agg _) rfl rfl) ?_; refine Wo rfl (opv_extract (v := .agg _) rfl rfl) ?_; refine Wo_alloc2 rfl flat25 ?_; rintro b2 w8 hb2 E9 hB2
      have hlb2 := hB2.lt; have hs7 := E9.size; refine Wo_alloc2 rfl flat25 ?_; rintro b3 w9 hb3 E10 hB3; have hlb3 := hB3.lt; have hs8 := E10.size
      refine Wo_st2 rfl Try.sizeOf25 rfl rfl (by first | rfl | assumption) (by first | rfl | assumption) (hB2.ext E10) (by omega) ((((((E3.trans E5).trans E6).trans E7).trans E8).trans E9).trans E10) ?_; rintro w10 E11 hB2 K2 hz2
      have E12 := ((((((E4.trans E5).trans E6).trans E7).trans E8).trans E9).trans E10).wroteAt ((((((E3.trans E5).trans E6).trans E7).trans E8).trans E9).trans E10) E11 K2 hz2 (by omega); have szE12 := E12.size
      have E13 := (((((E5.trans E6).trans E7).trans E8).trans E9).trans E10).wroteAt ((((((E3.trans E5).trans E6).trans E7).trans E8).trans E9).trans E10) E11 K2 hz2 (by omega); have szE13 := E13.size
      have E14 := ((((E6.trans E7).trans E8).trans E9).trans E10).wroteAt ((((((E3.trans E5).trans E6).trans E7).trans E8).trans E9).trans E10) E11 K2 hz2 (by omega); have szE14 := E14.size
      have E15 := (((E7.trans E8).trans E9).trans E10).wroteAt ((((((E3.trans E5).trans E6).trans E7).trans E8).trans E9).trans E10) E11 K2 hz2 (by omega); have szE15 := E15.size
      have E16 := ((E8.trans E9).trans E10).wroteAt ((((((E3.trans E5).trans E6).trans E7).trans E8).trans E9).trans E10) E11 K2 hz2 (by omega); have szE16 := E16.size
      have E17 := (E9.trans E10).wroteAt ((((((E3.trans E5).trans E6).trans E7).trans E8).trans E9).trans E10) E11 K2 hz2 (by omega); have szE17 := E17.size
      have hO1 := (hO1.toB.ext ((((((E4.trans E5).trans E6).trans E7).trans E8).trans E9).trans E10)).wrote K2 (by omega); have hQ1 := (hQ1.toB.ext ((((((E4.trans E5).trans E6).trans E7).trans E8).trans E9).trans E10)).wrote K2 (by omega)
      have hB1 := (hB1.ext (((((E5.trans E6).trans E7).trans E8).trans E9).trans E10)).of_heap (K2 _ (by omega)); have hO2 := (hO2.toB.ext ((((E6.trans E7).trans E8).trans E9).trans E10)).wrote K2 (by omega)
      have hO3 := (hO3.toB.ext (((E7.trans E8).trans E9).trans E10)).wrote K2 (by omega); have hO4 := (hO4.toB.ext (E9.trans E10)).wrote K2 (by omega); have hQ2 := (hQ2.toB.ext (E9.trans E10)).wrote K2 (by omega)
      have hR1 := (hR1.toB.ext (E9.trans E10)).wrote K2 (by omega); have hS1 := (hS1.toB.ext (E9.trans E10)).wrote K2 (by omega); have hB3 := hB3.of_heap (K2 _ (by omega))
      refine Wo_st2 rfl Try.sizeOf25 rfl rfl (by first | rfl | assumption) (by first | rfl | assumption) hB3 (by omega) E11 ?_; rintro w11 E18 hB3 K3 hz3; have E19 := E12.wroteAt E11 E18 K3 hz3 (by omega); have szE19 := E19.size
      have E20 := E13.wroteAt E11 E18 K3 hz3 (by omega); have szE20 := E20.size; have E21 := E14.wroteAt E11 E18 K3 hz3 (by omega); have szE21 := E21.size; have E22 := E15.wroteAt E11 E18 K3 hz3 (by omega); have szE22 := E22.size
      have E23 := E16.wroteAt E11 E18 K3 hz3 (by omega); have szE23 := E23.size; have E24 := E17.wroteAt E11 E18 K3 hz3 (by omega); have szE24 := E24.size; have hB2 := hB2.of_heap (K3 _ (by omega)); have hO1 := hO1.wrote K3 (by omega)
      have hQ1 := hQ1.wrote K3 (by omega); have hB1 := hB1.of_heap (K3 _ (by omega)); have hO2 := hO2.wrote K3 (by omega); have hO3 := hO3.wrote K3 (by omega); have hO4 := hO4.wrote K3 (by omega); have hQ2 := hQ2.wrote K3 (by omega)
      have hR1 := hR1.wrote K3 (by omega); have hS1 := hS1.wrote K3 (by omega); refine Wo_nil ?_; refine W_seq ?_
    clear stop11 k1 k2 k3
    obtain ⟨hA2, hB2'⟩ := hy1
    obtain ⟨hA3, hB3'⟩ := hy1'
    have r3 := hO4.read
    have r4 := hQ2.read
    have r5 := hR1.read
    have r6 := hS1.read
    have r7 := hO2.read
    clear hO1 hQ1 hO2 hO3 hO4 hQ2 hR1 hS1
    have hlaw : (sdV x2 y2).2 = true → (sdV x'1 y'1).2 = true → ssetV (sdV x2 y2).1 0 (sdV x'1 y'1).1 0 = ssV x2 y2 x'1 y'1 := fun h1 h2 => by
      have h3 : sdOkP x2 y2 := Classical.byContradiction fun hn => by rw [sdV_no hn] at h1; cases h1
      have h4 : sdOkP x'1 y'1 := Classical.byContradiction fun hn => by rw [sdV_no hn] at h2; cases h2
      rw [sdV_yes h3, sdV_yes h4]
      exact sd_law1 h3 h4
    have q1' : ∀ (w : World) (u1 u2 : Value), Ints w u1 x2 → Ints w u2 y2 → Does Try.prog 41 [.agg #[u1, u2]] w (RetOB w XR (sdV x2 y2).1 (sdV x2 y2).2) := fun w u1 u2 h1 h2 => impl_StreamDrawn_ok w u1 u2 _ _ h1 h2 (by omega) (by omega)
    have q2' : ∀ (w : World) (u1 u2 : Value), Ints w u1 x'1 → Ints w u2 y'1 → Does Try.prog 41 [.agg #[u1, u2]] w (RetOB w XR (sdV x'1 y'1).1 (sdV x'1 y'1).2) := fun w u1 u2 h1 h2 => impl_StreamDrawn_ok w u1 u2 _ _ h1 h2 (by omega) (by omega)
    have q3' : ∀ (w : World) (v u : Value), ESl Ints w v (sdV x2 y2).1 → ESl Ints w u (sdV x'1 y'1).1 → Does Try.prog 47 [v, .int .i64 0, u, .int .i64 0] w (Ret w (.bool (ssetV (sdV x2 y2).1 0 (sdV x'1 y'1).1 0))) := fun w v u h h' => impl_SameSet_ok w v u _ _ h h' 0 0
    have q4' : ∀ (w : World) (u1 u2 v1 v2 : Value), Ints w u1 x2 → Ints w u2 y2 → Ints w v1 x'1 → Ints w v2 y'1 → Does Try.prog 14 [.agg #[u1, u2], .agg #[v1, v2]] w (Ret w (.bool (ssV x2 y2 x'1 y'1))) := fun w u1 u2 v1 v2 h1 h2 h3 h4 => impl_SameStreams_ok w u1 u2 v1 v2 _ _ _ _ h1 h2 h3 h4 (by omega) (by omega) (by omega) (by omega)
    generalize (sdV x2 y2).1 = P2 at *
    generalize (sdV x2 y2).2 = o2 at *
    generalize (sdV x'1 y'1).1 = P3 at *
    generalize (sdV x'1 y'1).2 = o3 at *
    generalize ssetV P2 0 P3 0 = b2' at *
    generalize ssV x2 y2 x'1 y'1 = b3' at *
    have stop13 : True := trivial
    focus
      have szE24 := E24.size; have szE23 := E23.size; have szE22 := E22.size; have szE21 := E21.size; have szE20 := E20.size; have szE19 := E19.size; have szE18 := E18.size; have szE17 := E17.size; have szE16 := E16.size
      have szE15 := E15.size; have szE14 := E14.size; have szE13 := E13.size; have szE12 := E12.size; have szE11 := E11.size; have szE10 := E10.size; have szE9 := E9.size; have szE8 := E8.size; have szE7 := E7.size; have szE6 := E6.size
      have szE5 := E5.size; have szE4 := E4.size; have szE3 := E3.size; have szE2 := E2.size; have szE1 := E1.size; refine W_region rfl ?_; refine Wo (v := .agg _) rfl (opv_load2 Try.isAgg25 Try.sizeOf25 rfl hB2) ?_
      refine Wo_call rfl (opc1 (a := .agg _) Try.call41 rfl) (q1' _ _ _ (r3) (r4)) ?_; rintro _ w12 ⟨u5, rfl, E25, hO5⟩; have hs9 := E25.size; refine Wo rfl (opv_move (v := .tuple _) rfl) ?_
      refine Wo rfl (opv_extract (v := u5) rfl rfl) ?_; refine Wo rfl (opv_extract (v := .bool _) rfl rfl) ?_; refine Wo rfl (opv_assign (v := u5) rfl) ?_; refine Wo rfl (opv_assign (v := .bool _) rfl) ?_; refine Wo_nil ?_
      refine W_seq ?_; refine W_region rfl ?_; refine Wo (v := .agg _) rfl (opv_load2 Try.isAgg25 Try.sizeOf25 rfl (hB3.ext E25)) ?_
      refine Wo_call rfl (opc1 (a := .agg _) Try.call41 rfl) (q2' _ _ _ ((Mono.mono E25 r5)) ((Mono.mono E25 r6))) ?_; rintro _ w13 ⟨u6, rfl, E26, hO6⟩; have hs10 := E26.size; refine Wo rfl (opv_move (v := .tuple _) rfl) ?_
      refine Wo rfl (opv_extract (v := u6) rfl rfl) ?_; refine Wo rfl (opv_extract (v := .bool _) rfl rfl) ?_; refine Wo rfl (opv_assign (v := u6) rfl) ?_; refine Wo rfl (opv_assign (v := .bool _) rfl) ?_; refine Wo_nil ?_
      refine W_seq ?_; refine W_seq ?_
    clear stop13 q1' q2'
    have heldS : w13 = w13 := rfl
    refine W_mid [71, 72, 73, 74, 75, 76, 77, 78, 79, 80, 81, 82, 83] (fun (_ : Unit) => [(83, .bool false)]) (fun _ w' => Ext w13 w') ?_ ?_
    · cases o2
      · focus
          have szE26 := E26.size; have szE25 := E25.size; have szE24 := E24.size; have szE23 := E23.size; have szE22 := E22.size; have szE21 := E21.size; have szE20 := E20.size; have szE19 := E19.size; have szE18 := E18.size
          have szE17 := E17.size; have szE16 := E16.size; have szE15 := E15.size; have szE14 := E14.size; have szE13 := E13.size; have szE12 := E12.size; have szE11 := E11.size; have szE10 := E10.size; have szE9 := E9.size
          have szE8 := E8.size; have szE7 := E7.size; have szE6 := E6.size; have szE5 := E5.size; have szE4 := E4.size; have szE3 := E3.size; have szE2 := E2.size; have szE1 := E1.size; refine W_draw mixed (by kernel_rfl) rfl ?_
          refine Wq_o rfl (fun _ _ => opv_move (v := .bool _) rfl) ?_; refine Wq_o rfl (fun _ _ => opv_move (v := .bool _) rfl) ?_; refine Wq_skip rfl ?_; refine Wq_o rfl (fun _ _ => opv_pick_f (v := .bool _) rfl rfl) ?_
          refine Wq_o rfl (fun _ _ => opv_move (v := .bool _) rfl) ?_; refine Wq_skip rfl ?_; refine Wq_skip rfl ?_; refine Wq_skip rfl ?_; refine Wq_skip rfl ?_; refine Wq_skip rfl ?_; refine Wq_skip rfl ?_; refine Wq_skip rfl ?_
          refine Wq_o rfl (fun _ _ => opv_pick_f (v := .bool _) rfl rfl) ?_; refine Wq_nil (fun w14 E27 => ?_); have hs11 := E27.size
        all_goals exact ⟨(), ⟨rfl, trivial⟩, by repeat (first | with_reducible exact Same.refl | refine Same.upd rfl ?_ | refine Same.upds rfl ?_ | refine Same.mix rfl ?_), by assumption⟩
      · cases o3
        · focus
            have szE26 := E26.size; have szE25 := E25.size; have szE24 := E24.size; have szE23 := E23.size; have szE22 := E22.size; have szE21 := E21.size; have szE20 := E20.size; have szE19 := E19.size; have szE18 := E18.size
            have szE17 := E17.size; have szE16 := E16.size; have szE15 := E15.size; have szE14 := E14.size; have szE13 := E13.size; have szE12 := E12.size; have szE11 := E11.size; have szE10 := E10.size; have szE9 := E9.size
            have szE8 := E8.size; have szE7 := E7.size; have szE6 := E6.size; have szE5 := E5.size; have szE4 := E4.size; have szE3 := E3.size; have szE2 := E2.size; have szE1 := E1.size; refine W_draw mixed (by kernel_rfl) rfl ?_
            refine Wq_o rfl (fun _ _ => opv_move (v := .bool _) rfl) ?_; refine Wq_o rfl (fun _ _ => opv_move (v := .bool _) rfl) ?_; refine Wq_o rfl (fun _ _ => opv_move (v := .bool _) rfl) ?_
            refine Wq_o rfl (fun _ _ => opv_pick_t (v := .bool _) rfl rfl) ?_; refine Wq_o rfl (fun _ _ => opv_move (v := .bool _) rfl) ?_; refine Wq_skip rfl ?_; refine Wq_skip rfl ?_; refine Wq_skip rfl ?_; refine Wq_skip rfl ?_
            refine Wq_skip rfl ?_; refine Wq_skip rfl ?_; refine Wq_skip rfl ?_; refine Wq_o rfl (fun _ _ => opv_pick_f (v := .bool _) rfl rfl) ?_; refine Wq_nil (fun w14 E27 => ?_); have hs11 := E27.size
          all_goals exact ⟨(), ⟨rfl, trivial⟩, by repeat (first | with_reducible exact Same.refl | refine Same.upd rfl ?_ | refine Same.upds rfl ?_ | refine Same.mix rfl ?_), by assumption⟩
        · have hl := hlaw rfl rfl
          subst hl
          cases b2'
          · focus
              have szE26 := E26.size; have szE25 := E25.size; have szE24 := E24.size; have szE23 := E23.size; have szE22 := E22.size; have szE21 := E21.size; have szE20 := E20.size; have szE19 := E19.size; have szE18 := E18.size
              have szE17 := E17.size; have szE16 := E16.size; have szE15 := E15.size; have szE14 := E14.size; have szE13 := E13.size; have szE12 := E12.size; have szE11 := E11.size; have szE10 := E10.size; have szE9 := E9.size
              have szE8 := E8.size; have szE7 := E7.size; have szE6 := E6.size; have szE5 := E5.size; have szE4 := E4.size; have szE3 := E3.size; have szE2 := E2.size; have szE1 := E1.size; refine W_draw mixed (by kernel_rfl) rfl ?_
              refine Wq_o rfl (fun _ _ => opv_move (v := .bool _) rfl) ?_; refine Wq_o rfl (fun _ _ => opv_move (v := .bool _) rfl) ?_; refine Wq_o rfl (fun _ _ => opv_move (v := .bool _) rfl) ?_
              refine Wq_o rfl (fun _ _ => opv_pick_t (v := .bool _) rfl rfl) ?_; refine Wq_o rfl (fun _ _ => opv_move (v := .bool _) rfl) ?_; refine Wq_o rfl (fun _ _ => opv_move (v := u5) rfl) ?_
              refine Wq_o rfl (fun _ _ => opv_move (v := u6) rfl) ?_
              refine Wq_call rfl (fun _ _ => opc4 (a := u5) (b := .int _ _) (c := u6) (d := .int _ _) Try.call47 rfl rfl rfl rfl) (fun w' hw' => (q3' _ _ _ ((Mono.mono (E26.trans hw') (Owned.read hO5))) ((Mono.mono hw' (Owned.read hO6))))) ?_
              refine Wq_o (v := .agg _) rfl (fun w' hw' => opv_load2 Try.isAgg25 Try.sizeOf25 rfl ((hB2.ext (E25.trans E26)).ext hw')) ?_
              refine Wq_o (v := .agg _) rfl (fun w' hw' => opv_load2 Try.isAgg25 Try.sizeOf25 rfl ((hB3.ext (E25.trans E26)).ext hw')) ?_
              refine Wq_call rfl (fun _ _ => opc2 (a := .agg _) (b := .agg _) Try.call14 rfl rfl) (fun w' hw' => (q4' _ _ _ _ _ ((Mono.mono ((E25.trans E26).trans hw') r3)) ((Mono.mono ((E25.trans E26).trans hw') r4)) ((Mono.mono ((E25.trans E26).trans hw') r5)) ((Mono.mono ((E25.trans E26).trans hw') r6)))) ?_
              refine Wq_o rfl (fun _ _ => opv_neq_bool Try.underlying4 rfl rfl) ?_; refine Wq_o rfl (fun _ _ => opv_pick_t (v := .bool _) rfl rfl) ?_; refine Wq_nil (fun w14 E27 => ?_); have hs11 := E27.size
            all_goals exact ⟨(), ⟨rfl, trivial⟩, by repeat (first | with_reducible exact Same.refl | refine Same.upd rfl ?_ | refine Same.upds rfl ?_ | refine Same.mix rfl ?_), by first | assumption | exact E25.trans (E26.trans E27)⟩
          · focus
              have szE26 := E26.size; have szE25 := E25.size; have szE24 := E24.size; have szE23 := E23.size; have szE22 := E22.size; have szE21 := E21.size; have szE20 := E20.size; have szE19 := E19.size; have szE18 := E18.size
              have szE17 := E17.size; have szE16 := E16.size; have szE15 := E15.size; have szE14 := E14.size; have szE13 := E13.size; have szE12 := E12.size; have szE11 := E11.size; have szE10 := E10.size; have szE9 := E9.size
              have szE8 := E8.size; have szE7 := E7.size; have szE6 := E6.size; have szE5 := E5.size; have szE4 := E4.size; have szE3 := E3.size; have szE2 := E2.size; have szE1 := E1.size; refine W_draw mixed (by kernel_rfl) rfl ?_
              refine Wq_o rfl (fun _ _ => opv_move (v := .bool _) rfl) ?_; refine Wq_o rfl (fun _ _ => opv_move (v := .bool _) rfl) ?_; refine Wq_o rfl (fun _ _ => opv_move (v := .bool _) rfl) ?_
              refine Wq_o rfl (fun _ _ => opv_pick_t (v := .bool _) rfl rfl) ?_; refine Wq_o rfl (fun _ _ => opv_move (v := .bool _) rfl) ?_; refine Wq_o rfl (fun _ _ => opv_move (v := u5) rfl) ?_
              refine Wq_o rfl (fun _ _ => opv_move (v := u6) rfl) ?_
              refine Wq_call rfl (fun _ _ => opc4 (a := u5) (b := .int _ _) (c := u6) (d := .int _ _) Try.call47 rfl rfl rfl rfl) (fun w' hw' => (q3' _ _ _ ((Mono.mono (E26.trans hw') (Owned.read hO5))) ((Mono.mono hw' (Owned.read hO6))))) ?_
              refine Wq_o (v := .agg _) rfl (fun w' hw' => opv_load2 Try.isAgg25 Try.sizeOf25 rfl ((hB2.ext (E25.trans E26)).ext hw')) ?_
              refine Wq_o (v := .agg _) rfl (fun w' hw' => opv_load2 Try.isAgg25 Try.sizeOf25 rfl ((hB3.ext (E25.trans E26)).ext hw')) ?_
              refine Wq_call rfl (fun _ _ => opc2 (a := .agg _) (b := .agg _) Try.call14 rfl rfl) (fun w' hw' => (q4' _ _ _ _ _ ((Mono.mono ((E25.trans E26).trans hw') r3)) ((Mono.mono ((E25.trans E26).trans hw') r4)) ((Mono.mono ((E25.trans E26).trans hw') r5)) ((Mono.mono ((E25.trans E26).trans hw') r6)))) ?_
              refine Wq_o rfl (fun _ _ => opv_neq_bool Try.underlying4 rfl rfl) ?_; refine Wq_o rfl (fun _ _ => opv_pick_t (v := .bool _) rfl rfl) ?_; refine Wq_nil (fun w14 E27 => ?_); have hs11 := E27.size
            all_goals exact ⟨(), ⟨rfl, trivial⟩, by repeat (first | with_reducible exact Same.refl | refine Same.upd rfl ?_ | refine Same.upds rfl ?_ | refine Same.mix rfl ?_), by first | assumption | exact E25.trans (E26.trans E27)⟩
    rintro _ ρ13 w14 E14'
    clear heldS q3' q4' hlaw
    have stop17 : True := trivial
    focus
      have szE14' := E14'.size; have szE26 := E26.size; have szE25 := E25.size; have szE24 := E24.size; have szE23 := E23.size; have szE22 := E22.size; have szE21 := E21.size; have szE20 := E20.size; have szE19 := E19.size
      have szE18 := E18.size; have szE17 := E17.size; have szE16 := E16.size; have szE15 := E15.size; have szE14 := E14.size; have szE13 := E13.size; have szE12 := E12.size; have szE11 := E11.size; have szE10 := E10.size
      have szE9 := E9.size; have szE8 := E8.size; have szE7 := E7.size; have szE6 := E6.size; have szE5 := E5.size; have szE4 := E4.size; have szE3 := E3.size; have szE2 := E2.size; have szE1 := E1.size; refine W_cond_false rfl ?_
      refine W_skip ?_; refine W_seq ?_; refine W_region rfl ?_; refine Wo (v := .agg _) rfl (opv_load2 Try.isAgg25 Try.sizeOf25 rfl (hB1.ext ((E25.trans E26).trans E14'))) ?_
      refine Wo_call rfl (opc2 (a := .agg _) (b := .int _ _) Try.call20 rfl rfl) (k4 _ _ _ ((Mono.mono (((E20.trans E25).trans E26).trans E14') r1)) ((Mono.mono (((E20.trans E25).trans E26).trans E14') r2))) ?_
      rintro _ w15 ⟨u7, q3, rfl, E27, hO7, hQ3, hd1⟩; have icu7 := OwnedB.isC (Owned.toB hO7); have cpu7 := OwnedB.capOk (Owned.toB hO7); have icq3 := OwnedB.isC (Owned.toB hQ3); have cpq3 := OwnedB.capOk (Owned.toB hQ3)
      have hs11 := E27.size; refine Wo_call rfl (opc1 (a := .agg _) Try.call41 rfl) (k5 _ _ _ ((Owned.read hO7)) ((Owned.read hQ3))) ?_; rintro _ w16 ⟨u8, rfl, E28, hO8⟩; have hs12 := E28.size
      refine Wo rfl (opv_move (v := .tuple _) rfl) ?_; refine Wo rfl (opv_extract (v := u8) rfl rfl) ?_; refine Wo rfl (opv_extract (v := .bool _) rfl rfl) ?_; refine Wo rfl (opv_assign (v := u8) rfl) ?_
      refine Wo rfl (opv_assign (v := .bool _) rfl) ?_; refine Wo_nil ?_; refine W_seq ?_; refine W_region rfl ?_; refine Wo rfl (opv_assign (v := .int _ _) rfl) ?_; refine Wo_nil ?_; refine W_seq ?_; refine W_seq ?_
    clear stop17
    have hr0 := hrow 0 (by omega)
    refine W_mid [90, 91, 92, 93, 94, 95, 96, 97, 98, 99, 100, 101, 102, 103, 104, 105, 106, 107, 108] (fun (_ : Unit) => [(108, .bool (decide ((sdNext X Y 0 : Int) = 1)))]) (fun _ w' => w16 = w') ?_ ?_
    · rcases hnx with ⟨h5, h6⟩ | ⟨h5, h6, h7, ⟨h8, h9⟩ | ⟨h8, h9⟩⟩
      · focus
          have szE28 := E28.size; have szE27 := E27.size; have szE14' := E14'.size; have szE26 := E26.size; have szE25 := E25.size; have szE24 := E24.size; have szE23 := E23.size; have szE22 := E22.size; have szE21 := E21.size
          have szE20 := E20.size; have szE19 := E19.size; have szE18 := E18.size; have szE17 := E17.size; have szE16 := E16.size; have szE15 := E15.size; have szE14 := E14.size; have szE13 := E13.size; have szE12 := E12.size
          have szE11 := E11.size; have szE10 := E10.size; have szE9 := E9.size; have szE8 := E8.size; have szE7 := E7.size; have szE6 := E6.size; have szE5 := E5.size; have szE4 := E4.size; have szE3 := E3.size; have szE2 := E2.size
          have szE1 := E1.size; refine W_region rfl ?_; refine Wo rfl (opv_move (v := u2) rfl) ?_; refine Wo rfl (opv_len Try.underlying50 rfl r7) ?_; refine Wo rfl (opv_gtr rfl rfl) ?_
          refine Wo_split_dec rfl (opv_move (v := .bool _) rfl) (fun h7 => ?_) (fun h7 => ?_); (exfalso; omega); refine Wo_skip rfl ?_; refine Wo_skip rfl ?_; refine Wo_skip rfl ?_; refine Wo_skip rfl ?_; refine Wo_skip rfl ?_
          refine Wo_skip rfl ?_; refine Wo rfl (opv_pick_f (v := .bool _) rfl rfl) ?_; refine Wo rfl (opv_move (v := .bool _) rfl) ?_; refine Wo_skip rfl ?_; refine Wo_skip rfl ?_; refine Wo_skip rfl ?_; refine Wo_skip rfl ?_
          refine Wo_skip rfl ?_; refine Wo_skip rfl ?_; refine Wo rfl (opv_pick_f (v := .bool _) rfl rfl) ?_; refine Wo_nil ?_
        exact ⟨(), ⟨by rw [h6]; rfl, trivial⟩, by repeat (first | with_reducible exact Same.refl | refine Same.upd rfl ?_ | refine Same.upds rfl ?_ | refine Same.mix rfl ?_), rfl⟩
      · focus
          have szE28 := E28.size; have szE27 := E27.size; have szE14' := E14'.size; have szE26 := E26.size; have szE25 := E25.size; have szE24 := E24.size; have szE23 := E23.size; have szE22 := E22.size; have szE21 := E21.size
          have szE20 := E20.size; have szE19 := E19.size; have szE18 := E18.size; have szE17 := E17.size; have szE16 := E16.size; have szE15 := E15.size; have szE14 := E14.size; have szE13 := E13.size; have szE12 := E12.size
          have szE11 := E11.size; have szE10 := E10.size; have szE9 := E9.size; have szE8 := E8.size; have szE7 := E7.size; have szE6 := E6.size; have szE5 := E5.size; have szE4 := E4.size; have szE3 := E3.size; have szE2 := E2.size
          have szE1 := E1.size; refine W_region rfl ?_; refine Wo rfl (opv_move (v := u2) rfl) ?_; refine Wo rfl (opv_len Try.underlying50 rfl r7) ?_; refine Wo rfl (opv_gtr rfl rfl) ?_
          refine Wo_split_dec rfl (opv_move (v := .bool _) rfl) (fun h10 => ?_) (fun h10 => ?_); refine Wo rfl (opv_move (v := u2) rfl) ?_
          refine Wo_get (k := 0) Try.underlying50 Try.sizeOf23 Try.isAgg23 rfl (fun _ => rfl) rfl r7 ((((E25.trans E26).trans E14').trans E27).trans E28) rfl (by first | omega | (simp <;> omega)) ?_; rintro _ u9 hu1
          refine Wo_get (k := 1) Try.underlying23 Try.sizeOf3 Try.isAgg3 rfl (fun _ => rfl) rfl hu1 ((((E25.trans E26).trans E14').trans E27).trans E28) rfl (by first | omega | (simp <;> omega)) ?_; rintro _ _ rfl
          refine Wo rfl (opv_eql rfl rfl) ?_; refine Wo rfl (opv_pick_t (v := .bool _) rfl rfl) ?_; refine Wo_split_dec rfl (opv_move (v := .bool _) rfl) (fun h11 => ?_) (fun h11 => ?_); refine Wo rfl (opv_move (v := u2) rfl) ?_
          refine Wo_get (k := 0) Try.underlying50 Try.sizeOf23 Try.isAgg23 rfl (fun _ => rfl) rfl r7 ((((E25.trans E26).trans E14').trans E27).trans E28) rfl (by first | omega | (simp <;> omega)) ?_; rintro _ u10 hu2
          refine Wo_get (k := 0) Try.underlying23 Try.sizeOf3 Try.isAgg3 rfl (fun _ => rfl) rfl hu2 ((((E25.trans E26).trans E14').trans E27).trans E28) rfl (by first | omega | (simp <;> omega)) ?_; rintro _ _ rfl
          refine Wo rfl (opv_eql rfl rfl) ?_; refine Wo rfl (opv_pick_t (v := .bool _) rfl rfl) ?_; refine Wo_nil ?_; rotate_left; contradiction; (exfalso; omega)
        exact ⟨(), ⟨congrArg Value.bool (show decide ((sdP X Y)[0][0] = 0) = decide ((sdNext X Y 0 : Int) = 1) from decide_eq_decide.2 (by omega)), trivial⟩, by repeat (first | with_reducible exact Same.refl | refine Same.upd rfl ?_ | refine Same.upds rfl ?_ | refine Same.mix rfl ?_), rfl⟩
      · focus
          have szE28 := E28.size; have szE27 := E27.size; have szE14' := E14'.size; have szE26 := E26.size; have szE25 := E25.size; have szE24 := E24.size; have szE23 := E23.size; have szE22 := E22.size; have szE21 := E21.size
          have szE20 := E20.size; have szE19 := E19.size; have szE18 := E18.size; have szE17 := E17.size; have szE16 := E16.size; have szE15 := E15.size; have szE14 := E14.size; have szE13 := E13.size; have szE12 := E12.size
          have szE11 := E11.size; have szE10 := E10.size; have szE9 := E9.size; have szE8 := E8.size; have szE7 := E7.size; have szE6 := E6.size; have szE5 := E5.size; have szE4 := E4.size; have szE3 := E3.size; have szE2 := E2.size
          have szE1 := E1.size; refine W_region rfl ?_; refine Wo rfl (opv_move (v := u2) rfl) ?_; refine Wo rfl (opv_len Try.underlying50 rfl r7) ?_; refine Wo rfl (opv_gtr rfl rfl) ?_
          refine Wo_split_dec rfl (opv_move (v := .bool _) rfl) (fun h10 => ?_) (fun h10 => ?_); refine Wo rfl (opv_move (v := u2) rfl) ?_
          refine Wo_get (k := 0) Try.underlying50 Try.sizeOf23 Try.isAgg23 rfl (fun _ => rfl) rfl r7 ((((E25.trans E26).trans E14').trans E27).trans E28) rfl (by first | omega | (simp <;> omega)) ?_; rintro _ u9 hu1
          refine Wo_get (k := 1) Try.underlying23 Try.sizeOf3 Try.isAgg3 rfl (fun _ => rfl) rfl hu1 ((((E25.trans E26).trans E14').trans E27).trans E28) rfl (by first | omega | (simp <;> omega)) ?_; rintro _ _ rfl
          refine Wo rfl (opv_eql rfl rfl) ?_; refine Wo rfl (opv_pick_t (v := .bool _) rfl rfl) ?_; refine Wo_split_dec rfl (opv_move (v := .bool _) rfl) (fun h11 => ?_) (fun h11 => ?_); refine Wo rfl (opv_move (v := u2) rfl) ?_
          refine Wo_get (k := 0) Try.underlying50 Try.sizeOf23 Try.isAgg23 rfl (fun _ => rfl) rfl r7 ((((E25.trans E26).trans E14').trans E27).trans E28) rfl (by first | omega | (simp <;> omega)) ?_; rintro _ u10 hu2
          refine Wo_get (k := 0) Try.underlying23 Try.sizeOf3 Try.isAgg3 rfl (fun _ => rfl) rfl hu2 ((((E25.trans E26).trans E14').trans E27).trans E28) rfl (by first | omega | (simp <;> omega)) ?_; rintro _ _ rfl
          refine Wo rfl (opv_eql rfl rfl) ?_; refine Wo rfl (opv_pick_t (v := .bool _) rfl rfl) ?_; refine Wo_nil ?_; rotate_left; contradiction; (exfalso; omega)
        exact ⟨(), ⟨congrArg Value.bool (show decide ((sdP X Y)[0][0] = 0) = decide ((sdNext X Y 0 : Int) = 1) from decide_eq_decide.2 (by omega)), trivial⟩, by repeat (first | with_reducible exact Same.refl | refine Same.upd rfl ?_ | refine Same.upds rfl ?_ | refine Same.mix rfl ?_), rfl⟩
    rintro _ ρ17 _ rfl
    have hn01 : sdNext X Y 0 = 0 ∨ sdNext X Y 0 = 1 := by
      rcases hnx with ⟨h5, h6⟩ | ⟨h5, h6, h7, ⟨h8, h9⟩ | ⟨h8, h9⟩⟩ <;> omega
    refine W_mid [18] (fun (_ : Unit) => [(18, .int .i64 (sdNext X Y 0 : Int))]) (fun _ w' => w16 = w') ?_ ?_
    · focus
        have szE28 := E28.size; have szE27 := E27.size; have szE14' := E14'.size; have szE26 := E26.size; have szE25 := E25.size; have szE24 := E24.size; have szE23 := E23.size; have szE22 := E22.size; have szE21 := E21.size
        have szE20 := E20.size; have szE19 := E19.size; have szE18 := E18.size; have szE17 := E17.size; have szE16 := E16.size; have szE15 := E15.size; have szE14 := E14.size; have szE13 := E13.size; have szE12 := E12.size
        have szE11 := E11.size; have szE10 := E10.size; have szE9 := E9.size; have szE8 := E8.size; have szE7 := E7.size; have szE6 := E6.size; have szE5 := E5.size; have szE4 := E4.size; have szE3 := E3.size; have szE2 := E2.size
        have szE1 := E1.size; refine W_cond_dec rfl (fun h6 => ?_) (fun h6 => ?_); refine W_region rfl ?_; refine Wo rfl (opv_assign (v := .int _ _) rfl) ?_; refine Wo_nil ?_; rotate_left; refine W_skip ?_; rotate_left
      · exact ⟨(), ⟨congrArg (Value.int .i64) (by omega), trivial⟩, by repeat (first | with_reducible exact Same.refl | refine Same.upd rfl ?_ | refine Same.upds rfl ?_ | refine Same.mix rfl ?_), rfl⟩
      · exact ⟨(), ⟨congrArg (Value.int .i64) (by omega), trivial⟩, by repeat (first | with_reducible exact Same.refl | refine Same.upd rfl ?_ | refine Same.upds rfl ?_ | refine Same.mix rfl ?_), rfl⟩
    rintro _ ρ18 _ rfl
    focus
      have szE28 := E28.size; have szE27 := E27.size; have szE14' := E14'.size; have szE26 := E26.size; have szE25 := E25.size; have szE24 := E24.size; have szE23 := E23.size; have szE22 := E22.size; have szE21 := E21.size
      have szE20 := E20.size; have szE19 := E19.size; have szE18 := E18.size; have szE17 := E17.size; have szE16 := E16.size; have szE15 := E15.size; have szE14 := E14.size; have szE13 := E13.size; have szE12 := E12.size
      have szE11 := E11.size; have szE10 := E10.size; have szE9 := E9.size; have szE8 := E8.size; have szE7 := E7.size; have szE6 := E6.size; have szE5 := E5.size; have szE4 := E4.size; have szE3 := E3.size; have szE2 := E2.size
      have szE1 := E1.size; refine W_seq ?_; refine W_region rfl ?_; refine Wo rfl (opv_move (v := u2) rfl) ?_
      refine Wo_call rfl (opc1 (a := u2) Try.call48 rfl) (k7 _ _ ((Mono.mono ((((E25.trans E26).trans E14').trans E27).trans E28) r7))) ?_; rintro _ w17 ⟨rfl, E29⟩; have hs13 := E29.size; refine Wo rfl (opv_move (v := .bool _) rfl) ?_
      refine Wo rfl (opv_move (v := u2) rfl) ?_; refine Wo_call rfl (opc2 (a := u2) (b := .int _ _) Try.call49 rfl rfl) (k8 _ _ ((Mono.mono (((((E25.trans E26).trans E14').trans E27).trans E28).trans E29) r7))) ?_; rintro _ w18 ⟨rfl, E30⟩
      have hs14 := E30.size; refine Wo rfl (opv_pick_t (v := .bool _) rfl rfl) ?_; refine Wo rfl (opv_move (v := .bool _) rfl) ?_; refine Wo rfl (opv_move (v := .bool _) rfl) ?_; refine Wo rfl (opv_pick_t (v := .bool _) rfl rfl) ?_
      refine Wo rfl (opv_move (v := .bool _) rfl) ?_; refine Wo rfl (opv_move (v := u2) rfl) ?_; refine Wo rfl (opv_move (v := .int _ _) rfl) ?_; refine Wo rfl (opv_move (v := u8) rfl) ?_
      refine Wo_call rfl (opc4 (a := u2) (b := .int _ _) (c := u8) (d := .int _ _) Try.call47 rfl rfl rfl rfl) (k6 _ _ _ ((Mono.mono ((((((E25.trans E26).trans E14').trans E27).trans E28).trans E29).trans E30) r7)) ((Mono.mono (E29.trans E30) (Owned.read hO8)))) ?_
      rintro _ w19 ⟨rfl, E31⟩; have hs15 := E31.size; refine Wo rfl (opv_pick_t (v := .bool _) rfl rfl) ?_; refine Wo rfl (opv_assign (v := .bool _) rfl) ?_; refine Wo_nil ?_; refine W_ret ?_
      exact ⟨rfl, ((((((((E18.trans E25).trans E26).trans E14').trans E27).trans E28).trans E29).trans E30).trans E31)⟩
  · have k1 : ∀ (w : World) (u1 u2 : Value), Ints w u1 x1 → Ints w u2 y1 → Does Try.prog 41 [.agg #[u1, u2]] w (RetOB w XR [] false) := fun w u1 u2 h1 h2 => by
      have := impl_StreamDrawn_ok w u1 u2 _ _ h1 h2 (by omega) (by omega)
      rw [sdV_no ho] at this; exact this
    have k2 : ∀ (w : World) (u1 u2 : Value), Ints w u1 x1 → Ints w u2 y1 → Does Try.prog 40 [.agg #[u1, u2]] w (RetOB w XR [] false) := fun w u1 u2 h1 h2 => by
      have := spec_StreamDrawn_ok w u1 u2 _ _ h1 h2 (by omega) (by omega)
      rw [sdV_no ho] at this; exact this
    have k3 := same_rows []
    have hz9 : (([] : List (List Int)).length : Int) = 0 := rfl
    focus
      have szE4 := E4.size; have szE3 := E3.size; have szE2 := E2.size; have szE1 := E1.size; refine W_region rfl ?_; refine Wo (v := .agg _) rfl (opv_load2 Try.isAgg25 Try.sizeOf25 rfl hB1) ?_
      refine Wo_call rfl (opc1 (a := .agg _) Try.call41 rfl) (k1 _ _ _ (r1) (r2)) ?_; rintro _ w4 ⟨u2, rfl, E5, hO2⟩; have hs3 := E5.size; refine Wo rfl (opv_move (v := .tuple _) rfl) ?_; refine Wo rfl (opv_extract (v := u2) rfl rfl) ?_
      refine Wo rfl (opv_extract (v := .bool _) rfl rfl) ?_; refine Wo rfl (opv_assign (v := u2) rfl) ?_; refine Wo rfl (opv_assign (v := .bool _) rfl) ?_; refine Wo_nil ?_; refine W_seq ?_; refine W_region rfl ?_
      refine Wo (v := .agg _) rfl (opv_load2 Try.isAgg25 Try.sizeOf25 rfl (hB1.ext E5)) ?_; refine Wo_call rfl (opc1 (a := .agg _) Try.call40 rfl) (k2 _ _ _ ((Mono.mono E5 r1)) ((Mono.mono E5 r2))) ?_; rintro _ w5 ⟨u3, rfl, E6, hO3⟩
      have hs4 := E6.size; refine Wo rfl (opv_move (v := .tuple _) rfl) ?_; refine Wo rfl (opv_extract (v := u3) rfl rfl) ?_; refine Wo rfl (opv_extract (v := .bool _) rfl rfl) ?_; refine Wo rfl (opv_assign (v := u3) rfl) ?_
      refine Wo rfl (opv_assign (v := .bool _) rfl) ?_; refine Wo_nil ?_; refine W_seq ?_; refine W_seq ?_; refine W_region rfl ?_; refine Wo rfl (opv_move (v := u2) rfl) ?_; refine Wo rfl (opv_move (v := u3) rfl) ?_
      refine Wo_call rfl (opc2 (a := u2) (b := u3) Try.call46 rfl rfl) (k3 _ _ _ ((Mono.mono E6 (Owned.read hO2))) ((Owned.read hO3))) ?_; rintro _ w6 ⟨rfl, E7⟩; have hs5 := E7.size; refine Wo rfl (opv_not rfl) ?_
      refine Wo_split rfl (opv_move (v := .bool _) rfl) (fun h3 => ?_) (fun h3 => ?_); contradiction; refine Wo rfl (opv_move (v := .bool _) rfl) ?_; refine Wo rfl (opv_move (v := .bool _) rfl) ?_
      refine Wo rfl (opv_neq_bool Try.underlying4 rfl rfl) ?_; refine Wo rfl (opv_pick_f (v := .bool _) rfl rfl) ?_; refine Wo_nil ?_; refine W_cond_ndec rfl (fun h4 => ?_) (fun h4 => ?_); contradiction; refine W_skip ?_; refine W_seq ?_
      refine W_seq ?_; refine W_region rfl ?_; refine Wo rfl (opv_move (v := .bool _) rfl) ?_; refine Wo rfl (opv_not rfl) ?_; refine Wo_nil ?_; refine W_cond rfl (fun h5 => ?_) (fun h5 => ?_); refine W_seq ?_; refine W_region rfl ?_
      refine Wo rfl (opv_move (v := u2) rfl) ?_; refine Wo rfl (opv_len Try.underlying50 rfl (Owned.read hO2)) ?_; refine Wo rfl (opv_eql rfl rfl) ?_; refine Wo_split_dec rfl (opv_move (v := .bool _) rfl) (fun h6 => ?_) (fun h6 => ?_)
      refine Wo_call rfl (opc0 Try.call17) (alive_ok _) ?_; rintro _ w7 ⟨rfl, E8⟩; have hs6 := E8.size; refine Wo rfl (opv_pick_t (v := .bool _) rfl rfl) ?_; refine Wo rfl (opv_assign (v := .bool _) rfl) ?_; refine Wo_nil ?_
      refine W_ret ?_; exact ⟨rfl, ((((E3.trans E5).trans E6).trans E7).trans E8)⟩; contradiction; contradiction

end Go.Proofs.Ytlalfmialbolhaa
