/- Walks: every other bit of a stream, on both sides. -/
import Derived.Test.YtlalfmialbolhaaHsWStrE
import Derived.Test.YtlalfmialbolhaaHsStr2
namespace Go.Proofs.Ytlalfmialbolhaa
open Go.Hs
set_option maxRecDepth 10000
set_option maxHeartbeats 4000000
set_option linter.unusedVariables false
set_option linter.unusedSimpArgs false
def tk (f : Nat → Int) (c : Nat) : Nat → Int := fun k => f (2 * k + c)
theorem per_tk {f : Nat → Int} {a p : Nat} (h : Per f a p) (c : Nat) : Per (tk f c) ((a + 1) / 2) p := ⟨h.1, fun n hn => by
  show f (2 * (n + p) + c) = f (2 * n + c)
  have h2 := h.2 (2 * n + c) (by omega)
  have h3 := h.2 (2 * n + c + p) (by omega)
  rw [show 2 * (n + p) + c = 2 * n + c + p + p by omega, h3, h2]⟩
noncomputable def evV (A B : List Int) (c : Nat) : List Int × List Int := if Stm A B then (shL (tk (bat A B) c), shR (tk (bat A B) c)) else ([], [])

theorem impl_EveryOther_ok (w : World) (u1 u2 : Value) (A B : List Int) (h1 : Ints w u1 A) (h2 : Ints w u2 B) (hA : A.length ≤ 4000000) (hB : B.length ≤ 4000000) : Does Try.prog 28 [.agg #[u1, u2]] w (RetS22 w 3 (evV A B 0).1 (evV A B 0).2 (evV A B 1).1 (evV A B 1).2) := by
  have hle1 := h1.le
  have hle2 := h2.le
  have hok : ∀ (x : Bool), decide (Stm A B) = x → ∀ (w : World) (u1 u2 : Value), Ints w u1 A → Ints w u2 B → Does Try.prog 54 [.agg #[u1, u2]] w (Ret w (.bool x)) := fun x e w u1 u2 h1 h2 => e ▸ isStream_ok w u1 u2 A B h1 h2 hA hB
  by_cases hs : Stm A B
  · have k1 := hok true (decide_eq_true hs)
    have hsl := hs.2.2
    have e0 : ∀ c, evV A B c = (shL (tk (bat A B) c), shR (tk (bat A B) c)) := fun c => if_pos hs
    rw [e0, e0]
    have hper := fun c => per_tk hs.per c
    have hcl0 : ∀ (w1 : World) (b1 k : Nat), Ext w w1 → Blk w1 b1 [u1, u2] → k ≤ 100 → Does Try.prog 70 [.int .i64 (k : Int), .pointer (some ⟨b1, 0, none⟩)] w1 (Ret w1 (.int .i64 (tk (bat A B) 0 k))) := by
      intro w1 b1 k E0 hB1 hk
      have k2 : ∀ (w : World) (u1 u2 : Value), Ints w u1 A → Ints w u2 B → Does Try.prog 63 [.agg #[u1, u2], .int .i64 (2 * (k : Int))] w (Ret w (.int .i64 (tk (bat A B) 0 k))) := fun w u1 u2 h1 h2 => bitAt_ok w u1 u2 A B h1 h2 hs (2 * k) (by omega)
      refine fn_of_W1 Try.func70 rfl Try.results70 Try.ntmps70 rfl ?_
      focus
        have szE0 := E0.size; refine W_seq ?_; refine W_region rfl ?_; refine Wo rfl (opv_assign (v := .int _ _) rfl) ?_; refine Wo_nil ?_; refine W_seq ?_; refine W_region rfl ?_
        refine Wo (v := .agg _) rfl (opv_load2 Try.isAgg25 Try.sizeOf25 rfl hB1) ?_; refine Wo rfl (opv_move (v := .int _ _) rfl) ?_; refine Wo rfl (opv_mul rfl rfl (by omega)) ?_
        refine Wo_call rfl (opc2 (a := .agg _) (b := .int _ _) Try.call63 rfl rfl) (k2 _ _ _ ((Mono.mono E0 h1)) ((Mono.mono E0 h2))) ?_; rintro _ w2 ⟨rfl, E1⟩; have hs1 := E1.size; refine Wo rfl (opv_assign (v := .int _ _) rfl) ?_
        refine Wo_nil ?_; refine W_ret ?_; exact ⟨rfl, E1⟩
    have hcl1 : ∀ (w1 : World) (b1 k : Nat), Ext w w1 → Blk w1 b1 [u1, u2] → k ≤ 100 → Does Try.prog 71 [.int .i64 (k : Int), .pointer (some ⟨b1, 0, none⟩)] w1 (Ret w1 (.int .i64 (tk (bat A B) 1 k))) := by
      intro w1 b1 k E0 hB1 hk
      have k2 : ∀ (w : World) (u1 u2 : Value), Ints w u1 A → Ints w u2 B → Does Try.prog 63 [.agg #[u1, u2], .int .i64 (2 * (k : Int) + 1)] w (Ret w (.int .i64 (tk (bat A B) 1 k))) := fun w u1 u2 h1 h2 => bitAt_ok w u1 u2 A B h1 h2 hs (2 * k + 1) (by omega)
      refine fn_of_W1 Try.func71 rfl Try.results71 Try.ntmps71 rfl ?_
      focus
        have szE0 := E0.size; refine W_seq ?_; refine W_region rfl ?_; refine Wo rfl (opv_assign (v := .int _ _) rfl) ?_; refine Wo_nil ?_; refine W_seq ?_; refine W_region rfl ?_
        refine Wo (v := .agg _) rfl (opv_load2 Try.isAgg25 Try.sizeOf25 rfl hB1) ?_; refine Wo rfl (opv_move (v := .int _ _) rfl) ?_; refine Wo rfl (opv_mul rfl rfl (by omega)) ?_; refine Wo rfl (opv_add rfl rfl (by omega)) ?_
        refine Wo_call rfl (opc2 (a := .agg _) (b := .int _ _) Try.call63 rfl rfl) (k2 _ _ _ ((Mono.mono E0 h1)) ((Mono.mono E0 h2))) ?_; rintro _ w2 ⟨rfl, E1⟩; have hs1 := E1.size; refine Wo rfl (opv_assign (v := .int _ _) rfl) ?_
        refine Wo_nil ?_; refine W_ret ?_; exact ⟨rfl, E1⟩
    have hsb0 : ∀ (w1 : World) (b1 : Nat) (z : Int), Ext w w1 → Blk w1 b1 [u1, u2] → z = (((A.length + 1) / 2 : Nat) : Int) → Does Try.prog 61 [.int .i64 z, .int .i64 (B.length : Int), .func (.func 70) [].toArray [.pointer (some ⟨b1, 0, none⟩)].toArray] w1 (RetS2 w1 3 (shL (tk (bat A B) 0)) (shR (tk (bat A B) 0))) := by
      intro w1 b1 z E0 hB1 e
      subst e
      exact streamBy_ok w1 70 [.pointer (some ⟨b1, 0, none⟩)] _ ((A.length + 1) / 2) B.length (by omega) (by omega) (hper 0) Try.call70 (fun k w' hk e => hcl0 w' b1 k (E0.trans e) (hB1.ext e) (by omega))
    have hsb1 : ∀ (w1 : World) (b1 : Nat) (z : Int), Ext w w1 → Blk w1 b1 [u1, u2] → z = (((A.length + 1) / 2 : Nat) : Int) → Does Try.prog 61 [.int .i64 z, .int .i64 (B.length : Int), .func (.func 71) [].toArray [.pointer (some ⟨b1, 0, none⟩)].toArray] w1 (RetS2 w1 3 (shL (tk (bat A B) 1)) (shR (tk (bat A B) 1))) := by
      intro w1 b1 z E0 hB1 e
      subst e
      exact streamBy_ok w1 71 [.pointer (some ⟨b1, 0, none⟩)] _ ((A.length + 1) / 2) B.length (by omega) (by omega) (hper 1) Try.call71 (fun k w' hk e => hcl1 w' b1 k (E0.trans e) (hB1.ext e) (by omega))
    clear hok hcl0 hcl1
    refine fn_of_Wcc Try.func28 rfl Try.results28 Try.ntmps28 rfl Try.isAgg25 Try.sizeOf25 ?_
    focus
      refine W_seq ?_; refine W_region rfl ?_; refine Wo_box rfl rfl rfl ?_; rintro b1 w1 hb1 E1 hB1; have hlb1 := hB1.lt; have hs1 := E1.size; refine Wo_alloc2 rfl flat25 ?_; rintro b2 w2 hb2 E2 hB2; have hlb2 := hB2.lt
      have hs2 := E2.size; refine Wo_alloc2 rfl flat25 ?_; rintro b3 w3 hb3 E3 hB3; have hlb3 := hB3.lt; have hs3 := E3.size; refine Wo_nil ?_; refine W_seq ?_; refine W_seq ?_; refine W_region rfl ?_
      refine Wo (v := .agg _) rfl (opv_load2 Try.isAgg25 Try.sizeOf25 rfl (hB1.ext (E2.trans E3))) ?_
      refine Wo_call rfl (opc1 (a := .agg _) Try.call54 rfl) (k1 _ _ _ ((Mono.mono ((E1.trans E2).trans E3) h1)) ((Mono.mono ((E1.trans E2).trans E3) h2))) ?_; rintro _ w4 ⟨rfl, E4⟩; have hs4 := E4.size; refine Wo rfl (opv_not rfl) ?_
      refine Wo_nil ?_; refine W_cond rfl (fun h3 => ?_) (fun h3 => ?_); contradiction; refine W_skip ?_; refine W_seq ?_; refine W_region rfl ?_; refine Wo rfl (opv_fieldAddr Try.underlying25 rfl rfl Try.sizeOf23 rfl) ?_
      refine Wo (v := u1) rfl (opv_load Try.isAgg23 rfl ((hB1.ext ((E2.trans E3).trans E4)).cell rfl)) ?_; refine Wo rfl (opv_len Try.underlying23 rfl h1) ?_; refine Wo rfl (opv_add rfl rfl (by omega)) ?_
      refine Wo rfl (opv_quo rfl rfl (by omega)) ?_; refine Wo rfl (opv_assign (v := .int _ _) rfl) ?_; refine Wo_nil ?_; refine W_seq ?_; refine W_region rfl ?_; refine Wo rfl (opv_move (v := .int _ _) rfl) ?_
      refine Wo rfl (opv_fieldAddr Try.underlying25 rfl rfl Try.sizeOf23 rfl) ?_; refine Wo (v := u2) rfl (opv_load Try.isAgg23 rfl ((hB1.ext ((E2.trans E3).trans E4)).cell rfl)) ?_; refine Wo rfl (opv_len Try.underlying23 rfl h2) ?_
      refine Wo rfl (opv_makeFunc rfl rfl) ?_
      refine Wo_call rfl (opc3 (a := .int _ _) (b := .int _ _) (c := .func _ _ _) Try.call61 rfl rfl rfl) (hsb0 _ _ _ ((((E1.trans E2).trans E3).trans E4)) ((hB1.ext ((E2.trans E3).trans E4))) (by omega)) ?_
      rintro _ w5 ⟨u3, q1, rfl, E5, hO1, hQ1, hd1⟩; have icu3 := OwnedB.isC (Owned.toB hO1); have cpu3 := OwnedB.capOk (Owned.toB hO1); have icq1 := OwnedB.isC (Owned.toB hQ1); have cpq1 := OwnedB.capOk (Owned.toB hQ1)
      have hs5 := E5.size; refine Wo_alloc2 rfl flat25 ?_; rintro b4 w6 hb4 E6 hB4; have hlb4 := hB4.lt; have hs6 := E6.size
      refine Wo_st2 rfl Try.sizeOf25 rfl rfl (by first | rfl | assumption) (by first | rfl | assumption) hB4 (by omega) (((((E1.trans E2).trans E3).trans E4).trans E5).trans E6) ?_; rintro w7 E7 hB4 K1 hz1
      have E8 := ((((E2.trans E3).trans E4).trans E5).trans E6).wroteAt (((((E1.trans E2).trans E3).trans E4).trans E5).trans E6) E7 K1 hz1 (by omega); have szE8 := E8.size
      have E9 := (((E3.trans E4).trans E5).trans E6).wroteAt (((((E1.trans E2).trans E3).trans E4).trans E5).trans E6) E7 K1 hz1 (by omega); have szE9 := E9.size
      have E10 := ((E4.trans E5).trans E6).wroteAt (((((E1.trans E2).trans E3).trans E4).trans E5).trans E6) E7 K1 hz1 (by omega); have szE10 := E10.size
      have E11 := (E5.trans E6).wroteAt (((((E1.trans E2).trans E3).trans E4).trans E5).trans E6) E7 K1 hz1 (by omega); have szE11 := E11.size
      have E12 := E6.wroteAt (((((E1.trans E2).trans E3).trans E4).trans E5).trans E6) E7 K1 hz1 (by omega); have szE12 := E12.size; have hB1 := (hB1.ext ((((E2.trans E3).trans E4).trans E5).trans E6)).of_heap (K1 _ (by omega))
      have hB2 := (hB2.ext (((E3.trans E4).trans E5).trans E6)).of_heap (K1 _ (by omega)); have hB3 := (hB3.ext ((E4.trans E5).trans E6)).of_heap (K1 _ (by omega)); have hO1 := (hO1.toB.ext E6).wrote K1 (by omega)
      have hQ1 := (hQ1.toB.ext E6).wrote K1 (by omega); refine Wo_nil ?_; refine W_seq ?_; refine W_region rfl ?_; refine Wo rfl (opv_move (v := .int _ _) rfl) ?_; refine Wo rfl (opv_fieldAddr Try.underlying25 rfl rfl Try.sizeOf23 rfl) ?_
      refine Wo (v := u2) rfl (opv_load Try.isAgg23 rfl (hB1.cell rfl)) ?_; refine Wo rfl (opv_len Try.underlying23 rfl h2) ?_; refine Wo rfl (opv_makeFunc rfl rfl) ?_
      refine Wo_call rfl (opc3 (a := .int _ _) (b := .int _ _) (c := .func _ _ _) Try.call61 rfl rfl rfl) (hsb1 _ _ _ (E7) (hB1) (by omega)) ?_; rintro _ w8 ⟨u4, q2, rfl, E13, hO2, hQ2, hd2⟩; have icu4 := OwnedB.isC (Owned.toB hO2)
      have cpu4 := OwnedB.capOk (Owned.toB hO2); have icq2 := OwnedB.isC (Owned.toB hQ2); have cpq2 := OwnedB.capOk (Owned.toB hQ2); have hs7 := E13.size; refine Wo_alloc2 rfl flat25 ?_; rintro b5 w9 hb5 E14 hB5; have hlb5 := hB5.lt
      have hs8 := E14.size; refine Wo_st2 rfl Try.sizeOf25 rfl rfl (by first | rfl | assumption) (by first | rfl | assumption) hB5 (by omega) ((E7.trans E13).trans E14) ?_; rintro w10 E15 hB5 K2 hz2
      have E16 := ((E8.trans E13).trans E14).wroteAt ((E7.trans E13).trans E14) E15 K2 hz2 (by omega); have szE16 := E16.size; have E17 := ((E9.trans E13).trans E14).wroteAt ((E7.trans E13).trans E14) E15 K2 hz2 (by omega)
      have szE17 := E17.size; have E18 := ((E10.trans E13).trans E14).wroteAt ((E7.trans E13).trans E14) E15 K2 hz2 (by omega); have szE18 := E18.size
      have E19 := ((E11.trans E13).trans E14).wroteAt ((E7.trans E13).trans E14) E15 K2 hz2 (by omega); have szE19 := E19.size; have E20 := ((E12.trans E13).trans E14).wroteAt ((E7.trans E13).trans E14) E15 K2 hz2 (by omega)
      have szE20 := E20.size; have E21 := (E13.trans E14).wroteAt ((E7.trans E13).trans E14) E15 K2 hz2 (by omega); have szE21 := E21.size; have E22 := E14.wroteAt ((E7.trans E13).trans E14) E15 K2 hz2 (by omega); have szE22 := E22.size
      have hB4 := (hB4.ext (E13.trans E14)).of_heap (K2 _ (by omega)); have hB1 := (hB1.ext (E13.trans E14)).of_heap (K2 _ (by omega)); have hB2 := (hB2.ext (E13.trans E14)).of_heap (K2 _ (by omega))
      have hB3 := (hB3.ext (E13.trans E14)).of_heap (K2 _ (by omega)); have hO1 := (hO1.ext (E13.trans E14)).wrote K2 (by omega); have hQ1 := (hQ1.ext (E13.trans E14)).wrote K2 (by omega); have hO2 := (hO2.toB.ext E14).wrote K2 (by omega)
      have hQ2 := (hQ2.toB.ext E14).wrote K2 (by omega); refine Wo_nil ?_; refine W_seq ?_; refine W_held (fun _ => True) mixed rfl (by kernel_rfl) ?_; intro w11 E23 K3 hz3; have hs9 := E23.size
      refine Wh_all (rs := [0, 1]) (by kernel_rfl) rfl ?_; refine WhAll_cons rfl ?_ ?_; refine Wo (v := .agg _) rfl (opv_load2 Try.isAgg25 Try.sizeOf25 rfl (hB4.ext E23)) ?_; refine Wo_nil ?_; refine ⟨trivial, ?_⟩
      refine Wh_all (rs := [1, 2]) (by kernel_rfl) rfl ?_; refine WhAll_cons rfl ?_ ?_; refine Wo (v := .agg _) rfl (opv_load2 Try.isAgg25 Try.sizeOf25 rfl (hB5.ext E23)) ?_; refine Wo_nil ?_; refine ⟨trivial, ?_⟩
      refine Wh_all (rs := [2]) (by kernel_rfl) rfl ?_; refine WhAll_cons rfl ?_ ?_; refine Wo_st2 rfl Try.sizeOf25 rfl rfl (by first | rfl | assumption) (by first | rfl | assumption) (hB2.ext E23) (by omega) (E15.trans E23) ?_
      rintro w12 E24 hB2 K4 hz4; have E25 := (E16.trans E23).wroteAt (E15.trans E23) E24 K4 hz4 (by omega); have szE25 := E25.size; have hB5 := (hB5.ext E23).of_heap (K4 _ (by omega)); have hB4 := (hB4.ext E23).of_heap (K4 _ (by omega))
      have hB1 := (hB1.ext E23).of_heap (K4 _ (by omega)); have hB3 := (hB3.ext E23).of_heap (K4 _ (by omega)); have hO1 := (hO1.ext E23).wrote K4 (by omega); have hQ1 := (hQ1.ext E23).wrote K4 (by omega)
      have hO2 := (hO2.ext E23).wrote K4 (by omega); have hQ2 := (hQ2.ext E23).wrote K4 (by omega); refine Wo_nil ?_; refine ⟨trivial, ?_⟩; refine Wh_all (rs := [3]) (by kernel_rfl) rfl ?_; refine WhAll_cons rfl ?_ ?_
      refine Wo_st2 rfl Try.sizeOf25 rfl rfl (by first | rfl | assumption) (by first | rfl | assumption) hB3 (by omega) E24 ?_; rintro w13 E26 hB3 K5 hz5; have E27 := E25.wroteAt E24 E26 K5 hz5 (by omega); have szE27 := E27.size
      have hB2 := hB2.of_heap (K5 _ (by omega)); have hB5 := hB5.of_heap (K5 _ (by omega)); have hB4 := hB4.of_heap (K5 _ (by omega)); have hB1 := hB1.of_heap (K5 _ (by omega)); have hO1 := hO1.wrote K5 (by omega)
      have hQ1 := hQ1.wrote K5 (by omega); have hO2 := hO2.wrote K5 (by omega); have hQ2 := hQ2.wrote K5 (by omega); refine Wo_nil ?_; refine ⟨trivial, ?_⟩; refine Wh_done (by kernel_rfl) ?_; refine W_ret ?_; rotate_left; exact WhAll_nil
      exact WhAll_nil; refine WhAll_cons rfl ?_ ?_; refine Wo_st2 rfl Try.sizeOf25 rfl rfl (by first | rfl | assumption) (by first | rfl | assumption) (hB2.ext E23) (by omega) (E15.trans E23) ?_; rintro w12 E24 hB2 K4 hz4
      have E25 := (E16.trans E23).wroteAt (E15.trans E23) E24 K4 hz4 (by omega); have szE25 := E25.size; have hB5 := (hB5.ext E23).of_heap (K4 _ (by omega)); have hB4 := (hB4.ext E23).of_heap (K4 _ (by omega))
      have hB1 := (hB1.ext E23).of_heap (K4 _ (by omega)); have hB3 := (hB3.ext E23).of_heap (K4 _ (by omega)); have hO1 := (hO1.ext E23).wrote K4 (by omega); have hQ1 := (hQ1.ext E23).wrote K4 (by omega)
      have hO2 := (hO2.ext E23).wrote K4 (by omega); have hQ2 := (hQ2.ext E23).wrote K4 (by omega); refine Wo_nil ?_; refine ⟨trivial, ?_⟩; refine Wh_all (rs := [1]) (by kernel_rfl) rfl ?_; refine WhAll_cons rfl ?_ ?_
      refine Wo (v := .agg _) rfl (opv_load2 Try.isAgg25 Try.sizeOf25 rfl hB5) ?_; refine Wo_nil ?_; refine ⟨trivial, ?_⟩; refine Wh_all (rs := [3]) (by kernel_rfl) rfl ?_; refine WhAll_cons rfl ?_ ?_
      refine Wo_st2 rfl Try.sizeOf25 rfl rfl (by first | rfl | assumption) (by first | rfl | assumption) hB3 (by omega) E24 ?_; rintro w13 E26 hB3 K5 hz5; have E27 := E25.wroteAt E24 E26 K5 hz5 (by omega); have szE27 := E27.size
      have hB2 := hB2.of_heap (K5 _ (by omega)); have hB5 := hB5.of_heap (K5 _ (by omega)); have hB4 := hB4.of_heap (K5 _ (by omega)); have hB1 := hB1.of_heap (K5 _ (by omega)); have hO1 := hO1.wrote K5 (by omega)
      have hQ1 := hQ1.wrote K5 (by omega); have hO2 := hO2.wrote K5 (by omega); have hQ2 := hQ2.wrote K5 (by omega); refine Wo_nil ?_; refine ⟨trivial, ?_⟩; refine Wh_done (by kernel_rfl) ?_; refine W_ret ?_; rotate_left; exact WhAll_nil
      exact WhAll_nil; exact WhAll_nil; refine WhAll_cons rfl ?_ ?_; refine Wo (v := .agg _) rfl (opv_load2 Try.isAgg25 Try.sizeOf25 rfl (hB5.ext E23)) ?_; refine Wo_nil ?_; refine ⟨trivial, ?_⟩
      refine Wh_all (rs := [0]) (by kernel_rfl) rfl ?_; refine WhAll_cons rfl ?_ ?_; refine Wo (v := .agg _) rfl (opv_load2 Try.isAgg25 Try.sizeOf25 rfl (hB4.ext E23)) ?_; refine Wo_nil ?_; refine ⟨trivial, ?_⟩
      refine Wh_all (rs := [2]) (by kernel_rfl) rfl ?_; refine WhAll_cons rfl ?_ ?_; refine Wo_st2 rfl Try.sizeOf25 rfl rfl (by first | rfl | assumption) (by first | rfl | assumption) (hB2.ext E23) (by omega) (E15.trans E23) ?_
      rintro w12 E24 hB2 K4 hz4; have E25 := (E16.trans E23).wroteAt (E15.trans E23) E24 K4 hz4 (by omega); have szE25 := E25.size; have hB5 := (hB5.ext E23).of_heap (K4 _ (by omega)); have hB4 := (hB4.ext E23).of_heap (K4 _ (by omega))
      have hB1 := (hB1.ext E23).of_heap (K4 _ (by omega)); have hB3 := (hB3.ext E23).of_heap (K4 _ (by omega)); have hO1 := (hO1.ext E23).wrote K4 (by omega); have hQ1 := (hQ1.ext E23).wrote K4 (by omega)
      have hO2 := (hO2.ext E23).wrote K4 (by omega); have hQ2 := (hQ2.ext E23).wrote K4 (by omega); refine Wo_nil ?_; refine ⟨trivial, ?_⟩; refine Wh_all (rs := [3]) (by kernel_rfl) rfl ?_; refine WhAll_cons rfl ?_ ?_
      refine Wo_st2 rfl Try.sizeOf25 rfl rfl (by first | rfl | assumption) (by first | rfl | assumption) hB3 (by omega) E24 ?_; rintro w13 E26 hB3 K5 hz5; have E27 := E25.wroteAt E24 E26 K5 hz5 (by omega); have szE27 := E27.size
      have hB2 := hB2.of_heap (K5 _ (by omega)); have hB5 := hB5.of_heap (K5 _ (by omega)); have hB4 := hB4.of_heap (K5 _ (by omega)); have hB1 := hB1.of_heap (K5 _ (by omega)); have hO1 := hO1.wrote K5 (by omega)
      have hQ1 := hQ1.wrote K5 (by omega); have hO2 := hO2.wrote K5 (by omega); have hQ2 := hQ2.wrote K5 (by omega); refine Wo_nil ?_; refine ⟨trivial, ?_⟩; refine Wh_done (by kernel_rfl) ?_; refine W_ret ?_; rotate_left; exact WhAll_nil
      exact WhAll_nil; exact WhAll_nil; exact WhAll_nil
    all_goals exact ⟨_, _, _, rfl, by assumption, _, _, _, rfl, by assumption, _, _, _, _, w5.heap.size, rfl, by assumption, own_wide hO1 (by omega) (Nat.le_refl _), own_wide hQ1 (by omega) (Nat.le_refl _), hd1, hO2.o.mono (by omega), hQ2.o.mono (by omega), hd2, by omega, by omega⟩
  · have k1 := hok false (decide_eq_false hs)
    have e0 : ∀ c, evV A B c = ([], []) := fun c => if_neg hs
    rw [e0, e0]
    clear hok
    refine fn_of_Wcc Try.func28 rfl Try.results28 Try.ntmps28 rfl Try.isAgg25 Try.sizeOf25 ?_
    focus
      refine W_seq ?_; refine W_region rfl ?_; refine Wo_box rfl rfl rfl ?_; rintro b1 w1 hb1 E1 hB1; have hlb1 := hB1.lt; have hs1 := E1.size; refine Wo_alloc2 rfl flat25 ?_; rintro b2 w2 hb2 E2 hB2; have hlb2 := hB2.lt
      have hs2 := E2.size; refine Wo_alloc2 rfl flat25 ?_; rintro b3 w3 hb3 E3 hB3; have hlb3 := hB3.lt; have hs3 := E3.size; refine Wo_nil ?_; refine W_seq ?_; refine W_seq ?_; refine W_region rfl ?_
      refine Wo (v := .agg _) rfl (opv_load2 Try.isAgg25 Try.sizeOf25 rfl (hB1.ext (E2.trans E3))) ?_
      refine Wo_call rfl (opc1 (a := .agg _) Try.call54 rfl) (k1 _ _ _ ((Mono.mono ((E1.trans E2).trans E3) h1)) ((Mono.mono ((E1.trans E2).trans E3) h2))) ?_; rintro _ w4 ⟨rfl, E4⟩; have hs4 := E4.size; refine Wo rfl (opv_not rfl) ?_
      refine Wo_nil ?_; refine W_cond rfl (fun h3 => ?_) (fun h3 => ?_); refine W_seq ?_; refine W_region rfl ?_; refine Wo rfl (opv_build (ps := []) (cs := [_, _]) flat25 rfl rfl) ?_
      refine Wo rfl (opv_build (ps := []) (cs := [_, _]) flat25 rfl rfl) ?_
      refine Wo_st2 rfl Try.sizeOf25 rfl rfl (by first | rfl | assumption) (by first | rfl | assumption) (hB2.ext (E3.trans E4)) (by omega) (((E1.trans E2).trans E3).trans E4) ?_; rintro w5 E5 hB2 K1 hz1
      have E6 := ((E2.trans E3).trans E4).wroteAt (((E1.trans E2).trans E3).trans E4) E5 K1 hz1 (by omega); have szE6 := E6.size; have hB1 := (hB1.ext ((E2.trans E3).trans E4)).of_heap (K1 _ (by omega))
      have hB3 := (hB3.ext E4).of_heap (K1 _ (by omega)); refine Wo_st2 rfl Try.sizeOf25 rfl rfl (by first | rfl | assumption) (by first | rfl | assumption) hB3 (by omega) E5 ?_; rintro w6 E7 hB3 K2 hz2
      have E8 := E6.wroteAt E5 E7 K2 hz2 (by omega); have szE8 := E8.size; have hB2 := hB2.of_heap (K2 _ (by omega)); have hB1 := hB1.of_heap (K2 _ (by omega)); refine Wo_nil ?_; refine W_ret ?_; rotate_left; contradiction
    all_goals exact ⟨_, _, _, rfl, by assumption, _, _, _, rfl, by assumption, _, _, _, _, w.heap.size, rfl, by assumption, OwnedB.nil, OwnedB.nil, .inr rfl, Owned.nil, Owned.nil, .inr rfl, Nat.le_refl _, by omega⟩

theorem l8Taken_ok (w : World) (u1 u2 : Value) (A B : List Int) (h1 : Ints w u1 A) (h2 : Ints w u2 B) (hs : Stm A B) (c : Int) (hc : c = 0 ∨ c = 1) : Does Try.prog 69 [.agg #[u1, u2], .int .i64 c, .int .i64 2] w (RetS2 w 3 (evV A B c.toNat).1 (evV A B c.toNat).2) := by
  have hle1 := h1.le
  have hle2 := h2.le
  have hsl := hs.2.2
  have hA : A.length ≤ 4000000 := by omega
  have hB : B.length ≤ 4000000 := by omega
  obtain ⟨n, rfl⟩ : ∃ n : Nat, c = (n : Int) := ⟨c.toNat, by omega⟩
  have e0 : evV A B (n : Int).toNat = (shL (tk (bat A B) n), shR (tk (bat A B) n)) := if_pos hs
  rw [e0]
  have hper0 : Per (tk (bat A B) n) A.length B.length := (per_tk hs.per n).up (by omega)
  obtain ⟨g, hg⟩ : ∃ g, g = tk (bat A B) n := ⟨_, rfl⟩
  have hbit : ∀ k, g k = 0 ∨ g k = 1 := fun k => by rw [hg]; exact hs.bit _
  have hat : ∀ k : Nat, k < 100 → ∀ (w : World) (u1 u2 : Value) (z : Int), Ints w u1 A → Ints w u2 B → z = ((2 * k + n : Nat) : Int) → Does Try.prog 57 [.agg #[u1, u2], .int .i64 z] w (Ret w (.int .i64 (g k))) := fun k hk w u1 u2 z h1 h2 e => by
    subst e
    have := spec_BitAt_ok w u1 u2 A B h1 h2 hA hB ((2 * k + n : Nat) : Int)
    rw [show batV A B ((2 * k + n : Nat) : Int) = g k by rw [hg]; exact if_pos ⟨hs, by omega, by omega⟩] at this; exact this
  rw [← hg] at hper0 ⊢
  have hst : Stm (win g 0 A.length) (win g A.length B.length) := stm_win hbit hsl.1 (by omega)
  have hsO : ∀ (w : World) (u1 u2 : Value), Ints w u1 (win g 0 A.length) → Ints w u2 (win g A.length B.length) → Does Try.prog 53 [.agg #[u1, u2]] w (RetS2 w 3 (shL g) (shR g)) := fun w u1 u2 h1 h2 => by
    have := spec_ShortOf_ok w u1 u2 _ _ h1 h2 (by rw [win_len]; omega) (by rw [win_len]; omega)
    rw [show shV (win g 0 A.length) (win g A.length B.length) = (shL g, shR g) by unfold shV; rw [if_pos hst, bat_win hper0]] at this
    exact this
  clear e0 hbit hst hg
  refine fn_of_Wc Try.func69 rfl Try.results69 Try.ntmps69 rfl Try.isAgg25 Try.sizeOf25 ?_
  focus
    refine W_seq ?_; refine W_region rfl ?_; refine Wo_box rfl rfl rfl ?_; rintro b1 w1 hb1 E1 hB1; have hlb1 := hB1.lt; have hs1 := E1.size; refine Wo_alloc2 rfl flat25 ?_; rintro b2 w2 hb2 E2 hB2; have hlb2 := hB2.lt
    have hs2 := E2.size; refine Wo_nil ?_; refine W_seq ?_; refine W_region rfl ?_; refine Wo rfl (opv_build (ps := []) (cs := [_, _]) flat25 rfl rfl) ?_; refine Wo_alloc2 rfl flat25 ?_; rintro b3 w3 hb3 E3 hB3; have hlb3 := hB3.lt
    have hs3 := E3.size; refine Wo_st2 rfl Try.sizeOf25 rfl rfl (by first | rfl | assumption) (by first | rfl | assumption) hB3 (by omega) ((E1.trans E2).trans E3) ?_; rintro w4 E4 hB3 K1 hz1
    have E5 := (E2.trans E3).wroteAt ((E1.trans E2).trans E3) E4 K1 hz1 (by omega); have szE5 := E5.size; have E6 := E3.wroteAt ((E1.trans E2).trans E3) E4 K1 hz1 (by omega); have szE6 := E6.size
    have hB1 := (hB1.ext (E2.trans E3)).of_heap (K1 _ (by omega)); have hB2 := (hB2.ext E3).of_heap (K1 _ (by omega)); refine Wo_nil ?_; refine W_seq ?_; refine W_seq ?_; refine W_region rfl ?_
    refine Wo rfl (opv_assign (v := .int _ _) rfl) ?_; refine Wo_nil ?_; refine W_block ?_
  refine W_loop [8, 11, 12, 13, 14, 15, 16, 17, 18, 19, 20, 21, 22, 23, 24, 25, 26, 27, 28, 29] (fun (k, o) => [(8, .int .i64 (k : Nat))]) (fun (k, (o : Value)) w' => Ext w2 w' ∧ w4.heap.size ≤ w'.heap.size ∧ k ≤ A.length ∧ Blk w' b3 [o, .slice none 0 0] ∧ Owned w4.heap.size XI w' o (win g 0 k)) (fun x => A.length - x.1) (0, .slice none 0 0) (by repeat (first | exact trivial | refine And.intro rfl ?_)) ?_ ?_
  · exact ⟨by assumption, Nat.le_refl _, Nat.zero_le _, by assumption, by simpa [win] using (Owned.nil : Owned w4.heap.size XI w4 (.slice none 0 0) [])⟩
  clear hB3 hB2 hB1
  rintro ⟨k, o⟩ ρj w5 ⟨E5, hs4, hk, hB3, hO⟩
  have hwl := win_len (f := g) (a := 0) (p := k)
  by_cases hka : k < A.length
  · have hsn : win g 0 (k + 1) = win g 0 k ++ [g k] := by rw [win_succ, Nat.zero_add]
    have hfk := hat k (by omega)
    focus
      have szE5 := E5.size; have szE6 := E6.size; have szE5 := E5.size; have szE4 := E4.size; have szE3 := E3.size; have szE2 := E2.size; have szE1 := E1.size; refine W_seq ?_; refine W_seq ?_; refine W_region rfl ?_
      refine Wo rfl (opv_move (v := .int _ _) rfl) ?_; refine Wo rfl (opv_fieldAddr Try.underlying25 rfl rfl Try.sizeOf23 rfl) ?_; refine Wo (v := u1) rfl (opv_load Try.isAgg23 rfl ((hB1.ext (E2.trans E5)).cell rfl)) ?_
      refine Wo rfl (opv_len Try.underlying23 rfl h1) ?_; refine Wo rfl (opv_lss rfl rfl) ?_; refine Wo_nil ?_; refine W_cond_dec rfl (fun h3 => ?_) (fun h3 => ?_); refine W_skip ?_; refine W_seq ?_; refine W_block ?_
      refine W_held (fun _ => True) mixed rfl (by kernel_rfl) ?_; intro w6 E7 K2 hz2; have hs5 := E7.size
      refine Wh_take 0 rfl (by kernel_rfl) (by kernel_rfl) rfl (fun _ _ => opv_fieldAddr Try.underlying25 rfl rfl Try.sizeOf23 rfl) trivial ?_
      refine Wh_take 3 rfl (by kernel_rfl) (by kernel_rfl) rfl (fun _ _ => opv_move (v := .int _ _) rfl) trivial ?_; refine Wh_take 4 rfl (by kernel_rfl) (by kernel_rfl) rfl (fun _ _ => opv_move (v := .int _ _) rfl) trivial ?_
      refine Wh_take 5 rfl (by kernel_rfl) (by kernel_rfl) rfl (fun _ _ => opv_move (v := .int _ _) rfl) trivial ?_; refine Wh_take 6 rfl (by kernel_rfl) (by kernel_rfl) rfl (fun _ _ => opv_mul rfl rfl (by omega)) trivial ?_
      refine Wh_take 7 rfl (by kernel_rfl) (by kernel_rfl) rfl (fun _ _ => opv_add rfl rfl (by omega)) trivial ?_; refine Wh_all (rs := [1, 2]) (by kernel_rfl) rfl ?_; refine WhAll_cons rfl ?_ ?_
      refine Wo (v := o) rfl (opv_load Try.isAgg23 rfl ((hB3.ext E7).cell rfl)) ?_; refine Wo_nil ?_; refine ⟨trivial, ?_⟩; refine Wh_all (rs := [2]) (by kernel_rfl) rfl ?_; refine WhAll_cons rfl ?_ ?_
      refine Wo (v := .agg _) rfl (opv_load2 Try.isAgg25 Try.sizeOf25 rfl (hB1.ext ((E2.trans E5).trans E7))) ?_; refine Wo_nil ?_; refine ⟨trivial, ?_⟩; refine Wh_all (rs := [8]) (by kernel_rfl) rfl ?_; refine WhAll_cons rfl ?_ ?_
      refine Wo_call rfl (opc2 (a := .agg _) (b := .int _ _) Try.call57 rfl rfl) (hfk _ _ _ _ ((Mono.mono (((E1.trans E2).trans E5).trans E7) h1)) ((Mono.mono (((E1.trans E2).trans E5).trans E7) h2)) (by omega)) ?_; rintro _ w7 ⟨rfl, E8⟩
      have hs6 := E8.size; refine Wo_nil ?_; refine ⟨trivial, ?_⟩; refine Wh_all (rs := [9]) (by kernel_rfl) rfl ?_; refine WhAll_cons rfl ?_ ?_
      refine Wo_buildSliceH (ps := [(0, .int _ _)]) (cs := [_]) rfl Try.underlying23 Try.sizeOf3 Try.zeroValue3 rfl rfl rfl rfl ?_; rintro b4 w8 hb4 E9 hB4 hHb4; have hlb4 := hB4.lt; have hs7 := E9.size; refine Wo_nil ?_
      refine ⟨trivial, ?_⟩; refine Wh_all (rs := [10]) (by kernel_rfl) rfl ?_; refine WhAll_cons rfl ?_ ?_
      refine Wo_app1 rfl el23 rfl rfl hB4 (hO.toB.ext ((E7.trans E8).trans E9)) Owned.int (Nat.le_refl _) (by first | omega | (simp <;> omega)) (by omega) (by omega) (((((E1.trans E2).trans E5).trans E7).trans E8).trans E9) (by omega) ?_
      have hT1 := (hO.toB.ext ((E7.trans E8).trans E9)); rintro v1 w9 hO E10 M1; have E11 := M1.ext hT1 ((((E2.trans E5).trans E7).trans E8).trans E9) (by omega); have szE11 := E11.size
      have E12 := M1.ext hT1 (((E5.trans E7).trans E8).trans E9) (by omega); have szE12 := E12.size; have hB1 := (hB1.ext ((((E2.trans E5).trans E7).trans E8).trans E9)).moves M1 hT1 (by omega)
      have hB2 := (hB2.ext (((E5.trans E7).trans E8).trans E9)).moves M1 hT1 (by omega); have hB3 := (hB3.ext ((E7.trans E8).trans E9)).moves M1 hT1 (by omega); have hB4 := hB4.moves M1 hT1 (by omega); have hs8 := E10.size
      refine Wo_nil ?_; refine ⟨trivial, ?_⟩; refine Wh_take 11 rfl (by kernel_rfl) (by kernel_rfl) rfl (fun _ _ => opv_fieldAddr Try.underlying25 rfl rfl Try.sizeOf23 rfl) trivial ?_; refine Wh_all (rs := [12]) (by kernel_rfl) rfl ?_
      refine WhAll_cons rfl ?_ ?_; refine Wo_st (v := v1) rfl Try.sizeOf23 rfl rfl (OwnedB.isC hO.toB) hB3 (by simp) (by omega) E10 ?_; rintro w10 E13 hB3 K3 hz3; have E14 := E11.wroteAt E10 E13 K3 hz3 (by omega); have szE14 := E14.size
      have E15 := E12.wroteAt E10 E13 K3 hz3 (by omega); have szE15 := E15.size; simp only [List.set] at hB3; have hO := hO.toB.wrote K3 (by omega); have hB1 := hB1.of_heap (K3 _ (by omega)); have hB2 := hB2.of_heap (K3 _ (by omega))
      have hB4 := hB4.of_heap (K3 _ (by omega)); refine Wo_nil ?_; refine ⟨trivial, ?_⟩; refine Wh_done (by kernel_rfl) ?_; refine W_region rfl ?_; refine Wo rfl (opv_move (v := .int _ _) rfl) ?_
      refine Wo rfl (opv_add rfl rfl (by omega)) ?_; refine Wo rfl (opv_assign (v := .int _ _) rfl) ?_; refine Wo_nil ?_; rotate_left; exact WhAll_nil; exact WhAll_nil; exact WhAll_nil; exact WhAll_nil; exact WhAll_nil
      refine WhAll_cons rfl ?_ ?_; refine Wo (v := .agg _) rfl (opv_load2 Try.isAgg25 Try.sizeOf25 rfl (hB1.ext ((E2.trans E5).trans E7))) ?_; refine Wo_nil ?_; refine ⟨trivial, ?_⟩; refine Wh_all (rs := [1, 8]) (by kernel_rfl) rfl ?_
      refine WhAll_cons rfl ?_ ?_; refine Wo (v := o) rfl (opv_load Try.isAgg23 rfl ((hB3.ext E7).cell rfl)) ?_; refine Wo_nil ?_; refine ⟨trivial, ?_⟩; refine Wh_all (rs := [8]) (by kernel_rfl) rfl ?_; refine WhAll_cons rfl ?_ ?_
      refine Wo_call rfl (opc2 (a := .agg _) (b := .int _ _) Try.call57 rfl rfl) (hfk _ _ _ _ ((Mono.mono (((E1.trans E2).trans E5).trans E7) h1)) ((Mono.mono (((E1.trans E2).trans E5).trans E7) h2)) (by omega)) ?_; rintro _ w7 ⟨rfl, E8⟩
      have hs6 := E8.size; refine Wo_nil ?_; refine ⟨trivial, ?_⟩; refine Wh_all (rs := [9]) (by kernel_rfl) rfl ?_; refine WhAll_cons rfl ?_ ?_
      refine Wo_buildSliceH (ps := [(0, .int _ _)]) (cs := [_]) rfl Try.underlying23 Try.sizeOf3 Try.zeroValue3 rfl rfl rfl rfl ?_; rintro b4 w8 hb4 E9 hB4 hHb4; have hlb4 := hB4.lt; have hs7 := E9.size; refine Wo_nil ?_
      refine ⟨trivial, ?_⟩; refine Wh_all (rs := [10]) (by kernel_rfl) rfl ?_; refine WhAll_cons rfl ?_ ?_
      refine Wo_app1 rfl el23 rfl rfl hB4 (hO.toB.ext ((E7.trans E8).trans E9)) Owned.int (Nat.le_refl _) (by first | omega | (simp <;> omega)) (by omega) (by omega) (((((E1.trans E2).trans E5).trans E7).trans E8).trans E9) (by omega) ?_
      have hT1 := (hO.toB.ext ((E7.trans E8).trans E9)); rintro v1 w9 hO E10 M1; have E11 := M1.ext hT1 ((((E2.trans E5).trans E7).trans E8).trans E9) (by omega); have szE11 := E11.size
      have E12 := M1.ext hT1 (((E5.trans E7).trans E8).trans E9) (by omega); have szE12 := E12.size; have hB1 := (hB1.ext ((((E2.trans E5).trans E7).trans E8).trans E9)).moves M1 hT1 (by omega)
      have hB2 := (hB2.ext (((E5.trans E7).trans E8).trans E9)).moves M1 hT1 (by omega); have hB3 := (hB3.ext ((E7.trans E8).trans E9)).moves M1 hT1 (by omega); have hB4 := hB4.moves M1 hT1 (by omega); have hs8 := E10.size
      refine Wo_nil ?_; refine ⟨trivial, ?_⟩; refine Wh_take 11 rfl (by kernel_rfl) (by kernel_rfl) rfl (fun _ _ => opv_fieldAddr Try.underlying25 rfl rfl Try.sizeOf23 rfl) trivial ?_; refine Wh_all (rs := [12]) (by kernel_rfl) rfl ?_
      refine WhAll_cons rfl ?_ ?_; refine Wo_st (v := v1) rfl Try.sizeOf23 rfl rfl (OwnedB.isC hO.toB) hB3 (by simp) (by omega) E10 ?_; rintro w10 E13 hB3 K3 hz3; have E14 := E11.wroteAt E10 E13 K3 hz3 (by omega); have szE14 := E14.size
      have E15 := E12.wroteAt E10 E13 K3 hz3 (by omega); have szE15 := E15.size; simp only [List.set] at hB3; have hO := hO.toB.wrote K3 (by omega); have hB1 := hB1.of_heap (K3 _ (by omega)); have hB2 := hB2.of_heap (K3 _ (by omega))
      have hB4 := hB4.of_heap (K3 _ (by omega)); refine Wo_nil ?_; refine ⟨trivial, ?_⟩; refine Wh_done (by kernel_rfl) ?_; refine W_region rfl ?_; refine Wo rfl (opv_move (v := .int _ _) rfl) ?_
      refine Wo rfl (opv_add rfl rfl (by omega)) ?_; refine Wo rfl (opv_assign (v := .int _ _) rfl) ?_; refine Wo_nil ?_; rotate_left; exact WhAll_nil; exact WhAll_nil; exact WhAll_nil; exact WhAll_nil; refine WhAll_cons rfl ?_ ?_
      refine Wo_call rfl (opc2 (a := .agg _) (b := .int _ _) Try.call57 rfl rfl) (hfk _ _ _ _ ((Mono.mono (((E1.trans E2).trans E5).trans E7) h1)) ((Mono.mono (((E1.trans E2).trans E5).trans E7) h2)) (by omega)) ?_; rintro _ w7 ⟨rfl, E8⟩
      have hs6 := E8.size; refine Wo_nil ?_; refine ⟨trivial, ?_⟩; refine Wh_all (rs := [1, 9]) (by kernel_rfl) rfl ?_; refine WhAll_cons rfl ?_ ?_; refine Wo (v := o) rfl (opv_load Try.isAgg23 rfl ((hB3.ext (E7.trans E8)).cell rfl)) ?_
      refine Wo_nil ?_; refine ⟨trivial, ?_⟩; refine Wh_all (rs := [9]) (by kernel_rfl) rfl ?_; refine WhAll_cons rfl ?_ ?_
      refine Wo_buildSliceH (ps := [(0, .int _ _)]) (cs := [_]) rfl Try.underlying23 Try.sizeOf3 Try.zeroValue3 rfl rfl rfl rfl ?_; rintro b4 w8 hb4 E9 hB4 hHb4; have hlb4 := hB4.lt; have hs7 := E9.size; refine Wo_nil ?_
      refine ⟨trivial, ?_⟩; refine Wh_all (rs := [10]) (by kernel_rfl) rfl ?_; refine WhAll_cons rfl ?_ ?_
      refine Wo_app1 rfl el23 rfl rfl hB4 (hO.toB.ext ((E7.trans E8).trans E9)) Owned.int (Nat.le_refl _) (by first | omega | (simp <;> omega)) (by omega) (by omega) (((((E1.trans E2).trans E5).trans E7).trans E8).trans E9) (by omega) ?_
      have hT1 := (hO.toB.ext ((E7.trans E8).trans E9)); rintro v1 w9 hO E10 M1; have E11 := M1.ext hT1 ((((E2.trans E5).trans E7).trans E8).trans E9) (by omega); have szE11 := E11.size
      have E12 := M1.ext hT1 (((E5.trans E7).trans E8).trans E9) (by omega); have szE12 := E12.size; have hB1 := (hB1.ext ((((E2.trans E5).trans E7).trans E8).trans E9)).moves M1 hT1 (by omega)
      have hB2 := (hB2.ext (((E5.trans E7).trans E8).trans E9)).moves M1 hT1 (by omega); have hB3 := (hB3.ext ((E7.trans E8).trans E9)).moves M1 hT1 (by omega); have hB4 := hB4.moves M1 hT1 (by omega); have hs8 := E10.size
      refine Wo_nil ?_; refine ⟨trivial, ?_⟩; refine Wh_take 11 rfl (by kernel_rfl) (by kernel_rfl) rfl (fun _ _ => opv_fieldAddr Try.underlying25 rfl rfl Try.sizeOf23 rfl) trivial ?_; refine Wh_all (rs := [12]) (by kernel_rfl) rfl ?_
      refine WhAll_cons rfl ?_ ?_; refine Wo_st (v := v1) rfl Try.sizeOf23 rfl rfl (OwnedB.isC hO.toB) hB3 (by simp) (by omega) E10 ?_; rintro w10 E13 hB3 K3 hz3; have E14 := E11.wroteAt E10 E13 K3 hz3 (by omega); have szE14 := E14.size
      have E15 := E12.wroteAt E10 E13 K3 hz3 (by omega); have szE15 := E15.size; simp only [List.set] at hB3; have hO := hO.toB.wrote K3 (by omega); have hB1 := hB1.of_heap (K3 _ (by omega)); have hB2 := hB2.of_heap (K3 _ (by omega))
      have hB4 := hB4.of_heap (K3 _ (by omega)); refine Wo_nil ?_; refine ⟨trivial, ?_⟩; refine Wh_done (by kernel_rfl) ?_; refine W_region rfl ?_; refine Wo rfl (opv_move (v := .int _ _) rfl) ?_
      refine Wo rfl (opv_add rfl rfl (by omega)) ?_; refine Wo rfl (opv_assign (v := .int _ _) rfl) ?_; refine Wo_nil ?_; rotate_left; exact WhAll_nil; exact WhAll_nil; exact WhAll_nil; refine WhAll_cons rfl ?_ ?_
      refine Wo_buildSliceH (ps := [(0, .int _ _)]) (cs := [_]) rfl Try.underlying23 Try.sizeOf3 Try.zeroValue3 rfl rfl rfl rfl ?_; rintro b4 w8 hb4 E9 hB4 hHb4; have hlb4 := hB4.lt; have hs7 := E9.size; refine Wo_nil ?_
      refine ⟨trivial, ?_⟩; refine Wh_all (rs := [1]) (by kernel_rfl) rfl ?_; refine WhAll_cons rfl ?_ ?_; refine Wo (v := o) rfl (opv_load Try.isAgg23 rfl ((hB3.ext ((E7.trans E8).trans E9)).cell rfl)) ?_; refine Wo_nil ?_
      refine ⟨trivial, ?_⟩; refine Wh_all (rs := [10]) (by kernel_rfl) rfl ?_; refine WhAll_cons rfl ?_ ?_
      refine Wo_app1 rfl el23 rfl rfl hB4 (hO.toB.ext ((E7.trans E8).trans E9)) Owned.int (Nat.le_refl _) (by first | omega | (simp <;> omega)) (by omega) (by omega) (((((E1.trans E2).trans E5).trans E7).trans E8).trans E9) (by omega) ?_
      have hT1 := (hO.toB.ext ((E7.trans E8).trans E9)); rintro v1 w9 hO E10 M1; have E11 := M1.ext hT1 ((((E2.trans E5).trans E7).trans E8).trans E9) (by omega); have szE11 := E11.size
      have E12 := M1.ext hT1 (((E5.trans E7).trans E8).trans E9) (by omega); have szE12 := E12.size; have hB1 := (hB1.ext ((((E2.trans E5).trans E7).trans E8).trans E9)).moves M1 hT1 (by omega)
      have hB2 := (hB2.ext (((E5.trans E7).trans E8).trans E9)).moves M1 hT1 (by omega); have hB3 := (hB3.ext ((E7.trans E8).trans E9)).moves M1 hT1 (by omega); have hB4 := hB4.moves M1 hT1 (by omega); have hs8 := E10.size
      refine Wo_nil ?_; refine ⟨trivial, ?_⟩; refine Wh_take 11 rfl (by kernel_rfl) (by kernel_rfl) rfl (fun _ _ => opv_fieldAddr Try.underlying25 rfl rfl Try.sizeOf23 rfl) trivial ?_; refine Wh_all (rs := [12]) (by kernel_rfl) rfl ?_
      refine WhAll_cons rfl ?_ ?_; refine Wo_st (v := v1) rfl Try.sizeOf23 rfl rfl (OwnedB.isC hO.toB) hB3 (by simp) (by omega) E10 ?_; rintro w10 E13 hB3 K3 hz3; have E14 := E11.wroteAt E10 E13 K3 hz3 (by omega); have szE14 := E14.size
      have E15 := E12.wroteAt E10 E13 K3 hz3 (by omega); have szE15 := E15.size; simp only [List.set] at hB3; have hO := hO.toB.wrote K3 (by omega); have hB1 := hB1.of_heap (K3 _ (by omega)); have hB2 := hB2.of_heap (K3 _ (by omega))
      have hB4 := hB4.of_heap (K3 _ (by omega)); refine Wo_nil ?_; refine ⟨trivial, ?_⟩; refine Wh_done (by kernel_rfl) ?_; refine W_region rfl ?_; refine Wo rfl (opv_move (v := .int _ _) rfl) ?_
      refine Wo rfl (opv_add rfl rfl (by omega)) ?_; refine Wo rfl (opv_assign (v := .int _ _) rfl) ?_; refine Wo_nil ?_; rotate_left; exact WhAll_nil; exact WhAll_nil; exact WhAll_nil; exact WhAll_nil; exact WhAll_nil; exact WhAll_nil
      (exfalso; omega)
    all_goals
      refine ⟨(k + 1, v1), by repeat (first | exact trivial | refine And.intro rfl ?_), by repeat (first | with_reducible exact Same.refl | refine Same.upd rfl ?_ | refine Same.upds rfl ?_ | refine Same.mix rfl ?_), ?_, ?_⟩
      · exact ⟨by assumption, by have := M1.1.size; omega, by omega, by assumption, by rw [hsn]; exact OwnedB.o (by assumption)⟩
      · simp only; omega
  · obtain rfl : k = A.length := by omega
    focus
      have szE5 := E5.size; have szE6 := E6.size; have szE5 := E5.size; have szE4 := E4.size; have szE3 := E3.size; have szE2 := E2.size; have szE1 := E1.size; refine W_seq ?_; refine W_seq ?_; refine W_region rfl ?_
      refine Wo rfl (opv_move (v := .int _ _) rfl) ?_; refine Wo rfl (opv_fieldAddr Try.underlying25 rfl rfl Try.sizeOf23 rfl) ?_; refine Wo (v := u1) rfl (opv_load Try.isAgg23 rfl ((hB1.ext (E2.trans E5)).cell rfl)) ?_
      refine Wo rfl (opv_len Try.underlying23 rfl h1) ?_; refine Wo rfl (opv_lss rfl rfl) ?_; refine Wo_nil ?_; refine W_cond_dec rfl (fun h3 => ?_) (fun h3 => ?_); (exfalso; omega); refine W_exit ?_; refine exitX_same ?_; refine W_seq ?_
      refine W_seq ?_; refine W_region rfl ?_; refine Wo rfl (opv_assign (v := .int _ _) rfl) ?_; refine Wo_nil ?_; refine W_block ?_
    refine W_loop [9, 30, 31, 32, 33, 34, 35, 36, 37, 38, 39, 40, 41, 42, 43, 44, 45, 46, 47, 48, 49, 50, 51, 52] (fun (j, q) => [(9, .int .i64 (j : Nat))]) (fun (j, (q : Value)) w' => Ext w2 w' ∧ w5.heap.size ≤ w'.heap.size ∧ j ≤ B.length ∧ Blk w' b3 [o, q] ∧ OwnedB w4.heap.size w5.heap.size XI w' o (win g 0 A.length) ∧ Owned w5.heap.size XI w' q (win g A.length j)) (fun x => B.length - x.1) (0, .slice none 0 0) (by repeat (first | exact trivial | refine And.intro rfl ?_)) ?_ ?_
    · exact ⟨E5, Nat.le_refl _, Nat.zero_le _, hB3, hO.toB, by simpa [win] using (Owned.nil : Owned w5.heap.size XI w5 (.slice none 0 0) [])⟩
    clear hB3 hO
    rintro ⟨j, q⟩ ρm w6 ⟨E6, hs5, hj, hB3, hO, hQ⟩
    have hwl2 := win_len (f := g) (a := A.length) (p := j)
    by_cases hjp : j < B.length
    · have hsn : win g A.length (j + 1) = win g A.length j ++ [g (A.length + j)] := win_succ
      have hfk := hat (A.length + j) (by omega)
      focus
        have szE6 := E6.size; have szE5 := E5.size; have szE6 := E6.size; have szE5 := E5.size; have szE4 := E4.size; have szE3 := E3.size; have szE2 := E2.size; have szE1 := E1.size; refine W_seq ?_; refine W_seq ?_; refine W_region rfl ?_
        refine Wo rfl (opv_move (v := .int _ _) rfl) ?_; refine Wo rfl (opv_fieldAddr Try.underlying25 rfl rfl Try.sizeOf23 rfl) ?_; refine Wo (v := u2) rfl (opv_load Try.isAgg23 rfl ((hB1.ext (E2.trans E6)).cell rfl)) ?_
        refine Wo rfl (opv_len Try.underlying23 rfl h2) ?_; refine Wo rfl (opv_lss rfl rfl) ?_; refine Wo_nil ?_; refine W_cond_dec rfl (fun h4 => ?_) (fun h4 => ?_); refine W_skip ?_; refine W_seq ?_; refine W_block ?_
        refine W_held (fun _ => True) mixed rfl (by kernel_rfl) ?_; intro w7 E7 K2 hz2; have hs6 := E7.size
        refine Wh_take 0 rfl (by kernel_rfl) (by kernel_rfl) rfl (fun _ _ => opv_fieldAddr Try.underlying25 rfl rfl Try.sizeOf23 rfl) trivial ?_
        refine Wh_take 3 rfl (by kernel_rfl) (by kernel_rfl) rfl (fun _ _ => opv_move (v := .int _ _) rfl) trivial ?_
        refine Wh_take 4 rfl (by kernel_rfl) (by kernel_rfl) rfl (fun _ _ => opv_fieldAddr Try.underlying25 rfl rfl Try.sizeOf23 rfl) trivial ?_
        refine Wh_take 7 rfl (by kernel_rfl) (by kernel_rfl) rfl (fun _ _ => opv_move (v := .int _ _) rfl) trivial ?_; refine Wh_take 9 rfl (by kernel_rfl) (by kernel_rfl) rfl (fun _ _ => opv_move (v := .int _ _) rfl) trivial ?_
        refine Wh_all (rs := [1, 2, 5]) (by kernel_rfl) rfl ?_; refine WhAll_cons rfl ?_ ?_; refine Wo (v := q) rfl (opv_load Try.isAgg23 rfl ((hB3.ext E7).cell rfl)) ?_; refine Wo_nil ?_; refine ⟨trivial, ?_⟩
        refine Wh_all (rs := [2, 5]) (by kernel_rfl) rfl ?_; refine WhAll_cons rfl ?_ ?_; refine Wo (v := .agg _) rfl (opv_load2 Try.isAgg25 Try.sizeOf25 rfl (hB1.ext ((E2.trans E6).trans E7))) ?_; refine Wo_nil ?_; refine ⟨trivial, ?_⟩
        refine Wh_all (rs := [5]) (by kernel_rfl) rfl ?_; refine WhAll_cons rfl ?_ ?_; refine Wo (v := u1) rfl (opv_load Try.isAgg23 rfl ((hB1.ext ((E2.trans E6).trans E7)).cell rfl)) ?_; refine Wo_nil ?_; refine ⟨trivial, ?_⟩
        refine Wh_take 6 rfl (by kernel_rfl) (by kernel_rfl) rfl (fun _ _ => opv_len Try.underlying23 rfl h1) trivial ?_; refine Wh_take 8 rfl (by kernel_rfl) (by kernel_rfl) rfl (fun _ _ => opv_add rfl rfl (by omega)) trivial ?_
        refine Wh_take 10 rfl (by kernel_rfl) (by kernel_rfl) rfl (fun _ _ => opv_mul rfl rfl (by omega)) trivial ?_; refine Wh_take 11 rfl (by kernel_rfl) (by kernel_rfl) rfl (fun _ _ => opv_add rfl rfl (by omega)) trivial ?_
        refine Wh_all (rs := [12]) (by kernel_rfl) rfl ?_; refine WhAll_cons rfl ?_ ?_
        refine Wo_call rfl (opc2 (a := .agg _) (b := .int _ _) Try.call57 rfl rfl) (hfk _ _ _ _ ((Mono.mono (((E1.trans E2).trans E6).trans E7) h1)) ((Mono.mono (((E1.trans E2).trans E6).trans E7) h2)) (by omega)) ?_; rintro _ w8 ⟨rfl, E8⟩
        have hs7 := E8.size; refine Wo_nil ?_; refine ⟨trivial, ?_⟩; refine Wh_all (rs := [13]) (by kernel_rfl) rfl ?_; refine WhAll_cons rfl ?_ ?_
        refine Wo_buildSliceH (ps := [(0, .int _ _)]) (cs := [_]) rfl Try.underlying23 Try.sizeOf3 Try.zeroValue3 rfl rfl rfl rfl ?_; rintro b4 w9 hb4 E9 hB4 hHb4; have hlb4 := hB4.lt; have hs8 := E9.size; refine Wo_nil ?_
        refine ⟨trivial, ?_⟩; refine Wh_all (rs := [14]) (by kernel_rfl) rfl ?_; refine WhAll_cons rfl ?_ ?_
        refine Wo_app1 rfl el23 rfl rfl hB4 (hQ.toB.ext ((E7.trans E8).trans E9)) Owned.int (Nat.le_refl _) (by first | omega | (simp <;> omega)) (by omega) (by omega) (((((E1.trans E2).trans E6).trans E7).trans E8).trans E9) (by omega) ?_
        have hT1 := (hQ.toB.ext ((E7.trans E8).trans E9)); rintro v1 w10 hQ E10 M1; have E11 := M1.ext hT1 ((((E2.trans E6).trans E7).trans E8).trans E9) (by omega); have szE11 := E11.size
        have E12 := M1.ext hT1 (((E6.trans E7).trans E8).trans E9) (by omega); have szE12 := E12.size; have hB1 := (hB1.ext ((((E2.trans E6).trans E7).trans E8).trans E9)).moves M1 hT1 (by omega)
        have hB2 := (hB2.ext (((E6.trans E7).trans E8).trans E9)).moves M1 hT1 (by omega); have hB3 := (hB3.ext ((E7.trans E8).trans E9)).moves M1 hT1 (by omega); have hO := (hO.ext ((E7.trans E8).trans E9)).moves M1 hT1 (by omega)
        have hB4 := hB4.moves M1 hT1 (by omega); have hs9 := E10.size; refine Wo_nil ?_; refine ⟨trivial, ?_⟩
        refine Wh_take 15 rfl (by kernel_rfl) (by kernel_rfl) rfl (fun _ _ => opv_fieldAddr Try.underlying25 rfl rfl Try.sizeOf23 rfl) trivial ?_; refine Wh_all (rs := [16]) (by kernel_rfl) rfl ?_; refine WhAll_cons rfl ?_ ?_
        refine Wo_st (v := v1) rfl Try.sizeOf23 rfl rfl (OwnedB.isC hQ.toB) hB3 (by simp) (by omega) E10 ?_; rintro w11 E13 hB3 K3 hz3; have E14 := E11.wroteAt E10 E13 K3 hz3 (by omega); have szE14 := E14.size
        have E15 := E12.wroteAt E10 E13 K3 hz3 (by omega); have szE15 := E15.size; simp only [List.set] at hB3; have hQ := hQ.toB.wrote K3 (by omega); have hB1 := hB1.of_heap (K3 _ (by omega)); have hB2 := hB2.of_heap (K3 _ (by omega))
        have hO := hO.wrote K3 (by omega); have hB4 := hB4.of_heap (K3 _ (by omega)); refine Wo_nil ?_; refine ⟨trivial, ?_⟩; refine Wh_done (by kernel_rfl) ?_; refine W_region rfl ?_; refine Wo rfl (opv_move (v := .int _ _) rfl) ?_
        refine Wo rfl (opv_add rfl rfl (by omega)) ?_; refine Wo rfl (opv_assign (v := .int _ _) rfl) ?_; refine Wo_nil ?_; rotate_left; exact WhAll_nil; exact WhAll_nil; exact WhAll_nil; exact WhAll_nil; exact WhAll_nil
        refine WhAll_cons rfl ?_ ?_; refine Wo (v := u1) rfl (opv_load Try.isAgg23 rfl ((hB1.ext ((E2.trans E6).trans E7)).cell rfl)) ?_; refine Wo_nil ?_; refine ⟨trivial, ?_⟩
        refine Wh_take 6 rfl (by kernel_rfl) (by kernel_rfl) rfl (fun _ _ => opv_len Try.underlying23 rfl h1) trivial ?_; refine Wh_take 8 rfl (by kernel_rfl) (by kernel_rfl) rfl (fun _ _ => opv_add rfl rfl (by omega)) trivial ?_
        refine Wh_take 10 rfl (by kernel_rfl) (by kernel_rfl) rfl (fun _ _ => opv_mul rfl rfl (by omega)) trivial ?_; refine Wh_take 11 rfl (by kernel_rfl) (by kernel_rfl) rfl (fun _ _ => opv_add rfl rfl (by omega)) trivial ?_
        refine Wh_all (rs := [2]) (by kernel_rfl) rfl ?_; refine WhAll_cons rfl ?_ ?_; refine Wo (v := .agg _) rfl (opv_load2 Try.isAgg25 Try.sizeOf25 rfl (hB1.ext ((E2.trans E6).trans E7))) ?_; refine Wo_nil ?_; refine ⟨trivial, ?_⟩
        refine Wh_all (rs := [12]) (by kernel_rfl) rfl ?_; refine WhAll_cons rfl ?_ ?_
        refine Wo_call rfl (opc2 (a := .agg _) (b := .int _ _) Try.call57 rfl rfl) (hfk _ _ _ _ ((Mono.mono (((E1.trans E2).trans E6).trans E7) h1)) ((Mono.mono (((E1.trans E2).trans E6).trans E7) h2)) (by omega)) ?_; rintro _ w8 ⟨rfl, E8⟩
        have hs7 := E8.size; refine Wo_nil ?_; refine ⟨trivial, ?_⟩; refine Wh_all (rs := [13]) (by kernel_rfl) rfl ?_; refine WhAll_cons rfl ?_ ?_
        refine Wo_buildSliceH (ps := [(0, .int _ _)]) (cs := [_]) rfl Try.underlying23 Try.sizeOf3 Try.zeroValue3 rfl rfl rfl rfl ?_; rintro b4 w9 hb4 E9 hB4 hHb4; have hlb4 := hB4.lt; have hs8 := E9.size; refine Wo_nil ?_
        refine ⟨trivial, ?_⟩; refine Wh_all (rs := [14]) (by kernel_rfl) rfl ?_; refine WhAll_cons rfl ?_ ?_
        refine Wo_app1 rfl el23 rfl rfl hB4 (hQ.toB.ext ((E7.trans E8).trans E9)) Owned.int (Nat.le_refl _) (by first | omega | (simp <;> omega)) (by omega) (by omega) (((((E1.trans E2).trans E6).trans E7).trans E8).trans E9) (by omega) ?_
        have hT1 := (hQ.toB.ext ((E7.trans E8).trans E9)); rintro v1 w10 hQ E10 M1; have E11 := M1.ext hT1 ((((E2.trans E6).trans E7).trans E8).trans E9) (by omega); have szE11 := E11.size
        have E12 := M1.ext hT1 (((E6.trans E7).trans E8).trans E9) (by omega); have szE12 := E12.size; have hB1 := (hB1.ext ((((E2.trans E6).trans E7).trans E8).trans E9)).moves M1 hT1 (by omega)
        have hB2 := (hB2.ext (((E6.trans E7).trans E8).trans E9)).moves M1 hT1 (by omega); have hB3 := (hB3.ext ((E7.trans E8).trans E9)).moves M1 hT1 (by omega); have hO := (hO.ext ((E7.trans E8).trans E9)).moves M1 hT1 (by omega)
        have hB4 := hB4.moves M1 hT1 (by omega); have hs9 := E10.size; refine Wo_nil ?_; refine ⟨trivial, ?_⟩
        refine Wh_take 15 rfl (by kernel_rfl) (by kernel_rfl) rfl (fun _ _ => opv_fieldAddr Try.underlying25 rfl rfl Try.sizeOf23 rfl) trivial ?_; refine Wh_all (rs := [16]) (by kernel_rfl) rfl ?_; refine WhAll_cons rfl ?_ ?_
        refine Wo_st (v := v1) rfl Try.sizeOf23 rfl rfl (OwnedB.isC hQ.toB) hB3 (by simp) (by omega) E10 ?_; rintro w11 E13 hB3 K3 hz3; have E14 := E11.wroteAt E10 E13 K3 hz3 (by omega); have szE14 := E14.size
        have E15 := E12.wroteAt E10 E13 K3 hz3 (by omega); have szE15 := E15.size; simp only [List.set] at hB3; have hQ := hQ.toB.wrote K3 (by omega); have hB1 := hB1.of_heap (K3 _ (by omega)); have hB2 := hB2.of_heap (K3 _ (by omega))
        have hO := hO.wrote K3 (by omega); have hB4 := hB4.of_heap (K3 _ (by omega)); refine Wo_nil ?_; refine ⟨trivial, ?_⟩; refine Wh_done (by kernel_rfl) ?_; refine W_region rfl ?_; refine Wo rfl (opv_move (v := .int _ _) rfl) ?_
        refine Wo rfl (opv_add rfl rfl (by omega)) ?_; refine Wo rfl (opv_assign (v := .int _ _) rfl) ?_; refine Wo_nil ?_; rotate_left; exact WhAll_nil; exact WhAll_nil; exact WhAll_nil; exact WhAll_nil; exact WhAll_nil; exact WhAll_nil
        refine WhAll_cons rfl ?_ ?_; refine Wo (v := .agg _) rfl (opv_load2 Try.isAgg25 Try.sizeOf25 rfl (hB1.ext ((E2.trans E6).trans E7))) ?_; refine Wo_nil ?_; refine ⟨trivial, ?_⟩; refine Wh_all (rs := [1, 5]) (by kernel_rfl) rfl ?_
        refine WhAll_cons rfl ?_ ?_; refine Wo (v := q) rfl (opv_load Try.isAgg23 rfl ((hB3.ext E7).cell rfl)) ?_; refine Wo_nil ?_; refine ⟨trivial, ?_⟩; refine Wh_all (rs := [5]) (by kernel_rfl) rfl ?_; refine WhAll_cons rfl ?_ ?_
        refine Wo (v := u1) rfl (opv_load Try.isAgg23 rfl ((hB1.ext ((E2.trans E6).trans E7)).cell rfl)) ?_; refine Wo_nil ?_; refine ⟨trivial, ?_⟩
        refine Wh_take 6 rfl (by kernel_rfl) (by kernel_rfl) rfl (fun _ _ => opv_len Try.underlying23 rfl h1) trivial ?_; refine Wh_take 8 rfl (by kernel_rfl) (by kernel_rfl) rfl (fun _ _ => opv_add rfl rfl (by omega)) trivial ?_
        refine Wh_take 10 rfl (by kernel_rfl) (by kernel_rfl) rfl (fun _ _ => opv_mul rfl rfl (by omega)) trivial ?_; refine Wh_take 11 rfl (by kernel_rfl) (by kernel_rfl) rfl (fun _ _ => opv_add rfl rfl (by omega)) trivial ?_
        refine Wh_all (rs := [12]) (by kernel_rfl) rfl ?_; refine WhAll_cons rfl ?_ ?_
        refine Wo_call rfl (opc2 (a := .agg _) (b := .int _ _) Try.call57 rfl rfl) (hfk _ _ _ _ ((Mono.mono (((E1.trans E2).trans E6).trans E7) h1)) ((Mono.mono (((E1.trans E2).trans E6).trans E7) h2)) (by omega)) ?_; rintro _ w8 ⟨rfl, E8⟩
        have hs7 := E8.size; refine Wo_nil ?_; refine ⟨trivial, ?_⟩; refine Wh_all (rs := [13]) (by kernel_rfl) rfl ?_; refine WhAll_cons rfl ?_ ?_
        refine Wo_buildSliceH (ps := [(0, .int _ _)]) (cs := [_]) rfl Try.underlying23 Try.sizeOf3 Try.zeroValue3 rfl rfl rfl rfl ?_; rintro b4 w9 hb4 E9 hB4 hHb4; have hlb4 := hB4.lt; have hs8 := E9.size; refine Wo_nil ?_
        refine ⟨trivial, ?_⟩; refine Wh_all (rs := [14]) (by kernel_rfl) rfl ?_; refine WhAll_cons rfl ?_ ?_
        refine Wo_app1 rfl el23 rfl rfl hB4 (hQ.toB.ext ((E7.trans E8).trans E9)) Owned.int (Nat.le_refl _) (by first | omega | (simp <;> omega)) (by omega) (by omega) (((((E1.trans E2).trans E6).trans E7).trans E8).trans E9) (by omega) ?_
        have hT1 := (hQ.toB.ext ((E7.trans E8).trans E9)); rintro v1 w10 hQ E10 M1; have E11 := M1.ext hT1 ((((E2.trans E6).trans E7).trans E8).trans E9) (by omega); have szE11 := E11.size
        have E12 := M1.ext hT1 (((E6.trans E7).trans E8).trans E9) (by omega); have szE12 := E12.size; have hB1 := (hB1.ext ((((E2.trans E6).trans E7).trans E8).trans E9)).moves M1 hT1 (by omega)
        have hB2 := (hB2.ext (((E6.trans E7).trans E8).trans E9)).moves M1 hT1 (by omega); have hB3 := (hB3.ext ((E7.trans E8).trans E9)).moves M1 hT1 (by omega); have hO := (hO.ext ((E7.trans E8).trans E9)).moves M1 hT1 (by omega)
        have hB4 := hB4.moves M1 hT1 (by omega); have hs9 := E10.size; refine Wo_nil ?_; refine ⟨trivial, ?_⟩
        refine Wh_take 15 rfl (by kernel_rfl) (by kernel_rfl) rfl (fun _ _ => opv_fieldAddr Try.underlying25 rfl rfl Try.sizeOf23 rfl) trivial ?_; refine Wh_all (rs := [16]) (by kernel_rfl) rfl ?_; refine WhAll_cons rfl ?_ ?_
        refine Wo_st (v := v1) rfl Try.sizeOf23 rfl rfl (OwnedB.isC hQ.toB) hB3 (by simp) (by omega) E10 ?_; rintro w11 E13 hB3 K3 hz3; have E14 := E11.wroteAt E10 E13 K3 hz3 (by omega); have szE14 := E14.size
        have E15 := E12.wroteAt E10 E13 K3 hz3 (by omega); have szE15 := E15.size; simp only [List.set] at hB3; have hQ := hQ.toB.wrote K3 (by omega); have hB1 := hB1.of_heap (K3 _ (by omega)); have hB2 := hB2.of_heap (K3 _ (by omega))
        have hO := hO.wrote K3 (by omega); have hB4 := hB4.of_heap (K3 _ (by omega)); refine Wo_nil ?_; refine ⟨trivial, ?_⟩; refine Wh_done (by kernel_rfl) ?_; refine W_region rfl ?_; refine Wo rfl (opv_move (v := .int _ _) rfl) ?_
        refine Wo rfl (opv_add rfl rfl (by omega)) ?_; refine Wo rfl (opv_assign (v := .int _ _) rfl) ?_; refine Wo_nil ?_; rotate_left; exact WhAll_nil; exact WhAll_nil; exact WhAll_nil; exact WhAll_nil; exact WhAll_nil
        refine WhAll_cons rfl ?_ ?_; refine Wo (v := u1) rfl (opv_load Try.isAgg23 rfl ((hB1.ext ((E2.trans E6).trans E7)).cell rfl)) ?_; refine Wo_nil ?_; refine ⟨trivial, ?_⟩
        refine Wh_take 6 rfl (by kernel_rfl) (by kernel_rfl) rfl (fun _ _ => opv_len Try.underlying23 rfl h1) trivial ?_; refine Wh_take 8 rfl (by kernel_rfl) (by kernel_rfl) rfl (fun _ _ => opv_add rfl rfl (by omega)) trivial ?_
        refine Wh_take 10 rfl (by kernel_rfl) (by kernel_rfl) rfl (fun _ _ => opv_mul rfl rfl (by omega)) trivial ?_; refine Wh_take 11 rfl (by kernel_rfl) (by kernel_rfl) rfl (fun _ _ => opv_add rfl rfl (by omega)) trivial ?_
        refine Wh_all (rs := [1, 12]) (by kernel_rfl) rfl ?_; refine WhAll_cons rfl ?_ ?_; refine Wo (v := q) rfl (opv_load Try.isAgg23 rfl ((hB3.ext E7).cell rfl)) ?_; refine Wo_nil ?_; refine ⟨trivial, ?_⟩
        refine Wh_all (rs := [12]) (by kernel_rfl) rfl ?_; refine WhAll_cons rfl ?_ ?_
        refine Wo_call rfl (opc2 (a := .agg _) (b := .int _ _) Try.call57 rfl rfl) (hfk _ _ _ _ ((Mono.mono (((E1.trans E2).trans E6).trans E7) h1)) ((Mono.mono (((E1.trans E2).trans E6).trans E7) h2)) (by omega)) ?_; rintro _ w8 ⟨rfl, E8⟩
        have hs7 := E8.size; refine Wo_nil ?_; refine ⟨trivial, ?_⟩; refine Wh_all (rs := [13]) (by kernel_rfl) rfl ?_; refine WhAll_cons rfl ?_ ?_
        refine Wo_buildSliceH (ps := [(0, .int _ _)]) (cs := [_]) rfl Try.underlying23 Try.sizeOf3 Try.zeroValue3 rfl rfl rfl rfl ?_; rintro b4 w9 hb4 E9 hB4 hHb4; have hlb4 := hB4.lt; have hs8 := E9.size; refine Wo_nil ?_
        refine ⟨trivial, ?_⟩; refine Wh_all (rs := [14]) (by kernel_rfl) rfl ?_; refine WhAll_cons rfl ?_ ?_
        refine Wo_app1 rfl el23 rfl rfl hB4 (hQ.toB.ext ((E7.trans E8).trans E9)) Owned.int (Nat.le_refl _) (by first | omega | (simp <;> omega)) (by omega) (by omega) (((((E1.trans E2).trans E6).trans E7).trans E8).trans E9) (by omega) ?_
        have hT1 := (hQ.toB.ext ((E7.trans E8).trans E9)); rintro v1 w10 hQ E10 M1; have E11 := M1.ext hT1 ((((E2.trans E6).trans E7).trans E8).trans E9) (by omega); have szE11 := E11.size
        have E12 := M1.ext hT1 (((E6.trans E7).trans E8).trans E9) (by omega); have szE12 := E12.size; have hB1 := (hB1.ext ((((E2.trans E6).trans E7).trans E8).trans E9)).moves M1 hT1 (by omega)
        have hB2 := (hB2.ext (((E6.trans E7).trans E8).trans E9)).moves M1 hT1 (by omega); have hB3 := (hB3.ext ((E7.trans E8).trans E9)).moves M1 hT1 (by omega); have hO := (hO.ext ((E7.trans E8).trans E9)).moves M1 hT1 (by omega)
        have hB4 := hB4.moves M1 hT1 (by omega); have hs9 := E10.size; refine Wo_nil ?_; refine ⟨trivial, ?_⟩
        refine Wh_take 15 rfl (by kernel_rfl) (by kernel_rfl) rfl (fun _ _ => opv_fieldAddr Try.underlying25 rfl rfl Try.sizeOf23 rfl) trivial ?_; refine Wh_all (rs := [16]) (by kernel_rfl) rfl ?_; refine WhAll_cons rfl ?_ ?_
        refine Wo_st (v := v1) rfl Try.sizeOf23 rfl rfl (OwnedB.isC hQ.toB) hB3 (by simp) (by omega) E10 ?_; rintro w11 E13 hB3 K3 hz3; have E14 := E11.wroteAt E10 E13 K3 hz3 (by omega); have szE14 := E14.size
        have E15 := E12.wroteAt E10 E13 K3 hz3 (by omega); have szE15 := E15.size; simp only [List.set] at hB3; have hQ := hQ.toB.wrote K3 (by omega); have hB1 := hB1.of_heap (K3 _ (by omega)); have hB2 := hB2.of_heap (K3 _ (by omega))
        have hO := hO.wrote K3 (by omega); have hB4 := hB4.of_heap (K3 _ (by omega)); refine Wo_nil ?_; refine ⟨trivial, ?_⟩; refine Wh_done (by kernel_rfl) ?_; refine W_region rfl ?_; refine Wo rfl (opv_move (v := .int _ _) rfl) ?_
        refine Wo rfl (opv_add rfl rfl (by omega)) ?_; refine Wo rfl (opv_assign (v := .int _ _) rfl) ?_; refine Wo_nil ?_; rotate_left; exact WhAll_nil; exact WhAll_nil; exact WhAll_nil; exact WhAll_nil; refine WhAll_cons rfl ?_ ?_
        refine Wo_call rfl (opc2 (a := .agg _) (b := .int _ _) Try.call57 rfl rfl) (hfk _ _ _ _ ((Mono.mono (((E1.trans E2).trans E6).trans E7) h1)) ((Mono.mono (((E1.trans E2).trans E6).trans E7) h2)) (by omega)) ?_; rintro _ w8 ⟨rfl, E8⟩
        have hs7 := E8.size; refine Wo_nil ?_; refine ⟨trivial, ?_⟩; refine Wh_all (rs := [1, 13]) (by kernel_rfl) rfl ?_; refine WhAll_cons rfl ?_ ?_; refine Wo (v := q) rfl (opv_load Try.isAgg23 rfl ((hB3.ext (E7.trans E8)).cell rfl)) ?_
        refine Wo_nil ?_; refine ⟨trivial, ?_⟩; refine Wh_all (rs := [13]) (by kernel_rfl) rfl ?_; refine WhAll_cons rfl ?_ ?_
        refine Wo_buildSliceH (ps := [(0, .int _ _)]) (cs := [_]) rfl Try.underlying23 Try.sizeOf3 Try.zeroValue3 rfl rfl rfl rfl ?_; rintro b4 w9 hb4 E9 hB4 hHb4; have hlb4 := hB4.lt; have hs8 := E9.size; refine Wo_nil ?_
        refine ⟨trivial, ?_⟩; refine Wh_all (rs := [14]) (by kernel_rfl) rfl ?_; refine WhAll_cons rfl ?_ ?_
        refine Wo_app1 rfl el23 rfl rfl hB4 (hQ.toB.ext ((E7.trans E8).trans E9)) Owned.int (Nat.le_refl _) (by first | omega | (simp <;> omega)) (by omega) (by omega) (((((E1.trans E2).trans E6).trans E7).trans E8).trans E9) (by omega) ?_
        have hT1 := (hQ.toB.ext ((E7.trans E8).trans E9)); rintro v1 w10 hQ E10 M1; have E11 := M1.ext hT1 ((((E2.trans E6).trans E7).trans E8).trans E9) (by omega); have szE11 := E11.size
        have E12 := M1.ext hT1 (((E6.trans E7).trans E8).trans E9) (by omega); have szE12 := E12.size; have hB1 := (hB1.ext ((((E2.trans E6).trans E7).trans E8).trans E9)).moves M1 hT1 (by omega)
        have hB2 := (hB2.ext (((E6.trans E7).trans E8).trans E9)).moves M1 hT1 (by omega); have hB3 := (hB3.ext ((E7.trans E8).trans E9)).moves M1 hT1 (by omega); have hO := (hO.ext ((E7.trans E8).trans E9)).moves M1 hT1 (by omega)
        have hB4 := hB4.moves M1 hT1 (by omega); have hs9 := E10.size; refine Wo_nil ?_; refine ⟨trivial, ?_⟩
        refine Wh_take 15 rfl (by kernel_rfl) (by kernel_rfl) rfl (fun _ _ => opv_fieldAddr Try.underlying25 rfl rfl Try.sizeOf23 rfl) trivial ?_; refine Wh_all (rs := [16]) (by kernel_rfl) rfl ?_; refine WhAll_cons rfl ?_ ?_
        refine Wo_st (v := v1) rfl Try.sizeOf23 rfl rfl (OwnedB.isC hQ.toB) hB3 (by simp) (by omega) E10 ?_; rintro w11 E13 hB3 K3 hz3; have E14 := E11.wroteAt E10 E13 K3 hz3 (by omega); have szE14 := E14.size
        have E15 := E12.wroteAt E10 E13 K3 hz3 (by omega); have szE15 := E15.size; simp only [List.set] at hB3; have hQ := hQ.toB.wrote K3 (by omega); have hB1 := hB1.of_heap (K3 _ (by omega)); have hB2 := hB2.of_heap (K3 _ (by omega))
        have hO := hO.wrote K3 (by omega); have hB4 := hB4.of_heap (K3 _ (by omega)); refine Wo_nil ?_; refine ⟨trivial, ?_⟩; refine Wh_done (by kernel_rfl) ?_; refine W_region rfl ?_; refine Wo rfl (opv_move (v := .int _ _) rfl) ?_
        refine Wo rfl (opv_add rfl rfl (by omega)) ?_; refine Wo rfl (opv_assign (v := .int _ _) rfl) ?_; refine Wo_nil ?_; rotate_left; exact WhAll_nil; exact WhAll_nil; exact WhAll_nil; refine WhAll_cons rfl ?_ ?_
        refine Wo_buildSliceH (ps := [(0, .int _ _)]) (cs := [_]) rfl Try.underlying23 Try.sizeOf3 Try.zeroValue3 rfl rfl rfl rfl ?_; rintro b4 w9 hb4 E9 hB4 hHb4; have hlb4 := hB4.lt; have hs8 := E9.size; refine Wo_nil ?_
        refine ⟨trivial, ?_⟩; refine Wh_all (rs := [1]) (by kernel_rfl) rfl ?_; refine WhAll_cons rfl ?_ ?_; refine Wo (v := q) rfl (opv_load Try.isAgg23 rfl ((hB3.ext ((E7.trans E8).trans E9)).cell rfl)) ?_; refine Wo_nil ?_
        refine ⟨trivial, ?_⟩; refine Wh_all (rs := [14]) (by kernel_rfl) rfl ?_; refine WhAll_cons rfl ?_ ?_
        refine Wo_app1 rfl el23 rfl rfl hB4 (hQ.toB.ext ((E7.trans E8).trans E9)) Owned.int (Nat.le_refl _) (by first | omega | (simp <;> omega)) (by omega) (by omega) (((((E1.trans E2).trans E6).trans E7).trans E8).trans E9) (by omega) ?_
        have hT1 := (hQ.toB.ext ((E7.trans E8).trans E9)); rintro v1 w10 hQ E10 M1; have E11 := M1.ext hT1 ((((E2.trans E6).trans E7).trans E8).trans E9) (by omega); have szE11 := E11.size
        have E12 := M1.ext hT1 (((E6.trans E7).trans E8).trans E9) (by omega); have szE12 := E12.size; have hB1 := (hB1.ext ((((E2.trans E6).trans E7).trans E8).trans E9)).moves M1 hT1 (by omega)
        have hB2 := (hB2.ext (((E6.trans E7).trans E8).trans E9)).moves M1 hT1 (by omega); have hB3 := (hB3.ext ((E7.trans E8).trans E9)).moves M1 hT1 (by omega); have hO := (hO.ext ((E7.trans E8).trans E9)).moves M1 hT1 (by omega)
        have hB4 := hB4.moves M1 hT1 (by omega); have hs9 := E10.size; refine Wo_nil ?_; refine ⟨trivial, ?_⟩
        refine Wh_take 15 rfl (by kernel_rfl) (by kernel_rfl) rfl (fun _ _ => opv_fieldAddr Try.underlying25 rfl rfl Try.sizeOf23 rfl) trivial ?_; refine Wh_all (rs := [16]) (by kernel_rfl) rfl ?_; refine WhAll_cons rfl ?_ ?_
        refine Wo_st (v := v1) rfl Try.sizeOf23 rfl rfl (OwnedB.isC hQ.toB) hB3 (by simp) (by omega) E10 ?_; rintro w11 E13 hB3 K3 hz3; have E14 := E11.wroteAt E10 E13 K3 hz3 (by omega); have szE14 := E14.size
        have E15 := E12.wroteAt E10 E13 K3 hz3 (by omega); have szE15 := E15.size; simp only [List.set] at hB3; have hQ := hQ.toB.wrote K3 (by omega); have hB1 := hB1.of_heap (K3 _ (by omega)); have hB2 := hB2.of_heap (K3 _ (by omega))
        have hO := hO.wrote K3 (by omega); have hB4 := hB4.of_heap (K3 _ (by omega)); refine Wo_nil ?_; refine ⟨trivial, ?_⟩; refine Wh_done (by kernel_rfl) ?_; refine W_region rfl ?_; refine Wo rfl (opv_move (v := .int _ _) rfl) ?_
        refine Wo rfl (opv_add rfl rfl (by omega)) ?_; refine Wo rfl (opv_assign (v := .int _ _) rfl) ?_; refine Wo_nil ?_; rotate_left; exact WhAll_nil; exact WhAll_nil; exact WhAll_nil; exact WhAll_nil; exact WhAll_nil; exact WhAll_nil
        refine WhAll_cons rfl ?_ ?_; refine Wo (v := u1) rfl (opv_load Try.isAgg23 rfl ((hB1.ext ((E2.trans E6).trans E7)).cell rfl)) ?_; refine Wo_nil ?_; refine ⟨trivial, ?_⟩
        refine Wh_take 6 rfl (by kernel_rfl) (by kernel_rfl) rfl (fun _ _ => opv_len Try.underlying23 rfl h1) trivial ?_; refine Wh_take 8 rfl (by kernel_rfl) (by kernel_rfl) rfl (fun _ _ => opv_add rfl rfl (by omega)) trivial ?_
        refine Wh_take 10 rfl (by kernel_rfl) (by kernel_rfl) rfl (fun _ _ => opv_mul rfl rfl (by omega)) trivial ?_; refine Wh_take 11 rfl (by kernel_rfl) (by kernel_rfl) rfl (fun _ _ => opv_add rfl rfl (by omega)) trivial ?_
        refine Wh_all (rs := [1, 2]) (by kernel_rfl) rfl ?_; refine WhAll_cons rfl ?_ ?_; refine Wo (v := q) rfl (opv_load Try.isAgg23 rfl ((hB3.ext E7).cell rfl)) ?_; refine Wo_nil ?_; refine ⟨trivial, ?_⟩
        refine Wh_all (rs := [2]) (by kernel_rfl) rfl ?_; refine WhAll_cons rfl ?_ ?_; refine Wo (v := .agg _) rfl (opv_load2 Try.isAgg25 Try.sizeOf25 rfl (hB1.ext ((E2.trans E6).trans E7))) ?_; refine Wo_nil ?_; refine ⟨trivial, ?_⟩
        refine Wh_all (rs := [12]) (by kernel_rfl) rfl ?_; refine WhAll_cons rfl ?_ ?_
        refine Wo_call rfl (opc2 (a := .agg _) (b := .int _ _) Try.call57 rfl rfl) (hfk _ _ _ _ ((Mono.mono (((E1.trans E2).trans E6).trans E7) h1)) ((Mono.mono (((E1.trans E2).trans E6).trans E7) h2)) (by omega)) ?_; rintro _ w8 ⟨rfl, E8⟩
        have hs7 := E8.size; refine Wo_nil ?_; refine ⟨trivial, ?_⟩; refine Wh_all (rs := [13]) (by kernel_rfl) rfl ?_; refine WhAll_cons rfl ?_ ?_
        refine Wo_buildSliceH (ps := [(0, .int _ _)]) (cs := [_]) rfl Try.underlying23 Try.sizeOf3 Try.zeroValue3 rfl rfl rfl rfl ?_; rintro b4 w9 hb4 E9 hB4 hHb4; have hlb4 := hB4.lt; have hs8 := E9.size; refine Wo_nil ?_
        refine ⟨trivial, ?_⟩; refine Wh_all (rs := [14]) (by kernel_rfl) rfl ?_; refine WhAll_cons rfl ?_ ?_
        refine Wo_app1 rfl el23 rfl rfl hB4 (hQ.toB.ext ((E7.trans E8).trans E9)) Owned.int (Nat.le_refl _) (by first | omega | (simp <;> omega)) (by omega) (by omega) (((((E1.trans E2).trans E6).trans E7).trans E8).trans E9) (by omega) ?_
        have hT1 := (hQ.toB.ext ((E7.trans E8).trans E9)); rintro v1 w10 hQ E10 M1; have E11 := M1.ext hT1 ((((E2.trans E6).trans E7).trans E8).trans E9) (by omega); have szE11 := E11.size
        have E12 := M1.ext hT1 (((E6.trans E7).trans E8).trans E9) (by omega); have szE12 := E12.size; have hB1 := (hB1.ext ((((E2.trans E6).trans E7).trans E8).trans E9)).moves M1 hT1 (by omega)
        have hB2 := (hB2.ext (((E6.trans E7).trans E8).trans E9)).moves M1 hT1 (by omega); have hB3 := (hB3.ext ((E7.trans E8).trans E9)).moves M1 hT1 (by omega); have hO := (hO.ext ((E7.trans E8).trans E9)).moves M1 hT1 (by omega)
        have hB4 := hB4.moves M1 hT1 (by omega); have hs9 := E10.size; refine Wo_nil ?_; refine ⟨trivial, ?_⟩
        refine Wh_take 15 rfl (by kernel_rfl) (by kernel_rfl) rfl (fun _ _ => opv_fieldAddr Try.underlying25 rfl rfl Try.sizeOf23 rfl) trivial ?_; refine Wh_all (rs := [16]) (by kernel_rfl) rfl ?_; refine WhAll_cons rfl ?_ ?_
        refine Wo_st (v := v1) rfl Try.sizeOf23 rfl rfl (OwnedB.isC hQ.toB) hB3 (by simp) (by omega) E10 ?_; rintro w11 E13 hB3 K3 hz3; have E14 := E11.wroteAt E10 E13 K3 hz3 (by omega); have szE14 := E14.size
        have E15 := E12.wroteAt E10 E13 K3 hz3 (by omega); have szE15 := E15.size; simp only [List.set] at hB3; have hQ := hQ.toB.wrote K3 (by omega); have hB1 := hB1.of_heap (K3 _ (by omega)); have hB2 := hB2.of_heap (K3 _ (by omega))
        have hO := hO.wrote K3 (by omega); have hB4 := hB4.of_heap (K3 _ (by omega)); refine Wo_nil ?_; refine ⟨trivial, ?_⟩; refine Wh_done (by kernel_rfl) ?_; refine W_region rfl ?_; refine Wo rfl (opv_move (v := .int _ _) rfl) ?_
        refine Wo rfl (opv_add rfl rfl (by omega)) ?_; refine Wo rfl (opv_assign (v := .int _ _) rfl) ?_; refine Wo_nil ?_; rotate_left; exact WhAll_nil; exact WhAll_nil; exact WhAll_nil; exact WhAll_nil; exact WhAll_nil
        refine WhAll_cons rfl ?_ ?_; refine Wo (v := .agg _) rfl (opv_load2 Try.isAgg25 Try.sizeOf25 rfl (hB1.ext ((E2.trans E6).trans E7))) ?_; refine Wo_nil ?_; refine ⟨trivial, ?_⟩; refine Wh_all (rs := [1, 12]) (by kernel_rfl) rfl ?_
        refine WhAll_cons rfl ?_ ?_; refine Wo (v := q) rfl (opv_load Try.isAgg23 rfl ((hB3.ext E7).cell rfl)) ?_; refine Wo_nil ?_; refine ⟨trivial, ?_⟩; refine Wh_all (rs := [12]) (by kernel_rfl) rfl ?_; refine WhAll_cons rfl ?_ ?_
        refine Wo_call rfl (opc2 (a := .agg _) (b := .int _ _) Try.call57 rfl rfl) (hfk _ _ _ _ ((Mono.mono (((E1.trans E2).trans E6).trans E7) h1)) ((Mono.mono (((E1.trans E2).trans E6).trans E7) h2)) (by omega)) ?_; rintro _ w8 ⟨rfl, E8⟩
        have hs7 := E8.size; refine Wo_nil ?_; refine ⟨trivial, ?_⟩; refine Wh_all (rs := [13]) (by kernel_rfl) rfl ?_; refine WhAll_cons rfl ?_ ?_
        refine Wo_buildSliceH (ps := [(0, .int _ _)]) (cs := [_]) rfl Try.underlying23 Try.sizeOf3 Try.zeroValue3 rfl rfl rfl rfl ?_; rintro b4 w9 hb4 E9 hB4 hHb4; have hlb4 := hB4.lt; have hs8 := E9.size; refine Wo_nil ?_
        refine ⟨trivial, ?_⟩; refine Wh_all (rs := [14]) (by kernel_rfl) rfl ?_; refine WhAll_cons rfl ?_ ?_
        refine Wo_app1 rfl el23 rfl rfl hB4 (hQ.toB.ext ((E7.trans E8).trans E9)) Owned.int (Nat.le_refl _) (by first | omega | (simp <;> omega)) (by omega) (by omega) (((((E1.trans E2).trans E6).trans E7).trans E8).trans E9) (by omega) ?_
        have hT1 := (hQ.toB.ext ((E7.trans E8).trans E9)); rintro v1 w10 hQ E10 M1; have E11 := M1.ext hT1 ((((E2.trans E6).trans E7).trans E8).trans E9) (by omega); have szE11 := E11.size
        have E12 := M1.ext hT1 (((E6.trans E7).trans E8).trans E9) (by omega); have szE12 := E12.size; have hB1 := (hB1.ext ((((E2.trans E6).trans E7).trans E8).trans E9)).moves M1 hT1 (by omega)
        have hB2 := (hB2.ext (((E6.trans E7).trans E8).trans E9)).moves M1 hT1 (by omega); have hB3 := (hB3.ext ((E7.trans E8).trans E9)).moves M1 hT1 (by omega); have hO := (hO.ext ((E7.trans E8).trans E9)).moves M1 hT1 (by omega)
        have hB4 := hB4.moves M1 hT1 (by omega); have hs9 := E10.size; refine Wo_nil ?_; refine ⟨trivial, ?_⟩
        refine Wh_take 15 rfl (by kernel_rfl) (by kernel_rfl) rfl (fun _ _ => opv_fieldAddr Try.underlying25 rfl rfl Try.sizeOf23 rfl) trivial ?_; refine Wh_all (rs := [16]) (by kernel_rfl) rfl ?_; refine WhAll_cons rfl ?_ ?_
        refine Wo_st (v := v1) rfl Try.sizeOf23 rfl rfl (OwnedB.isC hQ.toB) hB3 (by simp) (by omega) E10 ?_; rintro w11 E13 hB3 K3 hz3; have E14 := E11.wroteAt E10 E13 K3 hz3 (by omega); have szE14 := E14.size
        have E15 := E12.wroteAt E10 E13 K3 hz3 (by omega); have szE15 := E15.size; simp only [List.set] at hB3; have hQ := hQ.toB.wrote K3 (by omega); have hB1 := hB1.of_heap (K3 _ (by omega)); have hB2 := hB2.of_heap (K3 _ (by omega))
        have hO := hO.wrote K3 (by omega); have hB4 := hB4.of_heap (K3 _ (by omega)); refine Wo_nil ?_; refine ⟨trivial, ?_⟩; refine Wh_done (by kernel_rfl) ?_; refine W_region rfl ?_; refine Wo rfl (opv_move (v := .int _ _) rfl) ?_
        refine Wo rfl (opv_add rfl rfl (by omega)) ?_; refine Wo rfl (opv_assign (v := .int _ _) rfl) ?_; refine Wo_nil ?_; rotate_left; exact WhAll_nil; exact WhAll_nil; exact WhAll_nil; exact WhAll_nil; refine WhAll_cons rfl ?_ ?_
        refine Wo_call rfl (opc2 (a := .agg _) (b := .int _ _) Try.call57 rfl rfl) (hfk _ _ _ _ ((Mono.mono (((E1.trans E2).trans E6).trans E7) h1)) ((Mono.mono (((E1.trans E2).trans E6).trans E7) h2)) (by omega)) ?_; rintro _ w8 ⟨rfl, E8⟩
        have hs7 := E8.size; refine Wo_nil ?_; refine ⟨trivial, ?_⟩; refine Wh_all (rs := [1, 13]) (by kernel_rfl) rfl ?_; refine WhAll_cons rfl ?_ ?_; refine Wo (v := q) rfl (opv_load Try.isAgg23 rfl ((hB3.ext (E7.trans E8)).cell rfl)) ?_
        refine Wo_nil ?_; refine ⟨trivial, ?_⟩; refine Wh_all (rs := [13]) (by kernel_rfl) rfl ?_; refine WhAll_cons rfl ?_ ?_
        refine Wo_buildSliceH (ps := [(0, .int _ _)]) (cs := [_]) rfl Try.underlying23 Try.sizeOf3 Try.zeroValue3 rfl rfl rfl rfl ?_; rintro b4 w9 hb4 E9 hB4 hHb4; have hlb4 := hB4.lt; have hs8 := E9.size; refine Wo_nil ?_
        refine ⟨trivial, ?_⟩; refine Wh_all (rs := [14]) (by kernel_rfl) rfl ?_; refine WhAll_cons rfl ?_ ?_
        refine Wo_app1 rfl el23 rfl rfl hB4 (hQ.toB.ext ((E7.trans E8).trans E9)) Owned.int (Nat.le_refl _) (by first | omega | (simp <;> omega)) (by omega) (by omega) (((((E1.trans E2).trans E6).trans E7).trans E8).trans E9) (by omega) ?_
        have hT1 := (hQ.toB.ext ((E7.trans E8).trans E9)); rintro v1 w10 hQ E10 M1; have E11 := M1.ext hT1 ((((E2.trans E6).trans E7).trans E8).trans E9) (by omega); have szE11 := E11.size
        have E12 := M1.ext hT1 (((E6.trans E7).trans E8).trans E9) (by omega); have szE12 := E12.size; have hB1 := (hB1.ext ((((E2.trans E6).trans E7).trans E8).trans E9)).moves M1 hT1 (by omega)
        have hB2 := (hB2.ext (((E6.trans E7).trans E8).trans E9)).moves M1 hT1 (by omega); have hB3 := (hB3.ext ((E7.trans E8).trans E9)).moves M1 hT1 (by omega); have hO := (hO.ext ((E7.trans E8).trans E9)).moves M1 hT1 (by omega)
        have hB4 := hB4.moves M1 hT1 (by omega); have hs9 := E10.size; refine Wo_nil ?_; refine ⟨trivial, ?_⟩
        refine Wh_take 15 rfl (by kernel_rfl) (by kernel_rfl) rfl (fun _ _ => opv_fieldAddr Try.underlying25 rfl rfl Try.sizeOf23 rfl) trivial ?_; refine Wh_all (rs := [16]) (by kernel_rfl) rfl ?_; refine WhAll_cons rfl ?_ ?_
        refine Wo_st (v := v1) rfl Try.sizeOf23 rfl rfl (OwnedB.isC hQ.toB) hB3 (by simp) (by omega) E10 ?_; rintro w11 E13 hB3 K3 hz3; have E14 := E11.wroteAt E10 E13 K3 hz3 (by omega); have szE14 := E14.size
        have E15 := E12.wroteAt E10 E13 K3 hz3 (by omega); have szE15 := E15.size; simp only [List.set] at hB3; have hQ := hQ.toB.wrote K3 (by omega); have hB1 := hB1.of_heap (K3 _ (by omega)); have hB2 := hB2.of_heap (K3 _ (by omega))
        have hO := hO.wrote K3 (by omega); have hB4 := hB4.of_heap (K3 _ (by omega)); refine Wo_nil ?_; refine ⟨trivial, ?_⟩; refine Wh_done (by kernel_rfl) ?_; refine W_region rfl ?_; refine Wo rfl (opv_move (v := .int _ _) rfl) ?_
        refine Wo rfl (opv_add rfl rfl (by omega)) ?_; refine Wo rfl (opv_assign (v := .int _ _) rfl) ?_; refine Wo_nil ?_; rotate_left; exact WhAll_nil; exact WhAll_nil; exact WhAll_nil; refine WhAll_cons rfl ?_ ?_
        refine Wo_buildSliceH (ps := [(0, .int _ _)]) (cs := [_]) rfl Try.underlying23 Try.sizeOf3 Try.zeroValue3 rfl rfl rfl rfl ?_; rintro b4 w9 hb4 E9 hB4 hHb4; have hlb4 := hB4.lt; have hs8 := E9.size; refine Wo_nil ?_
        refine ⟨trivial, ?_⟩; refine Wh_all (rs := [1]) (by kernel_rfl) rfl ?_; refine WhAll_cons rfl ?_ ?_; refine Wo (v := q) rfl (opv_load Try.isAgg23 rfl ((hB3.ext ((E7.trans E8).trans E9)).cell rfl)) ?_; refine Wo_nil ?_
        refine ⟨trivial, ?_⟩; refine Wh_all (rs := [14]) (by kernel_rfl) rfl ?_; refine WhAll_cons rfl ?_ ?_
        refine Wo_app1 rfl el23 rfl rfl hB4 (hQ.toB.ext ((E7.trans E8).trans E9)) Owned.int (Nat.le_refl _) (by first | omega | (simp <;> omega)) (by omega) (by omega) (((((E1.trans E2).trans E6).trans E7).trans E8).trans E9) (by omega) ?_
        have hT1 := (hQ.toB.ext ((E7.trans E8).trans E9)); rintro v1 w10 hQ E10 M1; have E11 := M1.ext hT1 ((((E2.trans E6).trans E7).trans E8).trans E9) (by omega); have szE11 := E11.size
        have E12 := M1.ext hT1 (((E6.trans E7).trans E8).trans E9) (by omega); have szE12 := E12.size; have hB1 := (hB1.ext ((((E2.trans E6).trans E7).trans E8).trans E9)).moves M1 hT1 (by omega)
        have hB2 := (hB2.ext (((E6.trans E7).trans E8).trans E9)).moves M1 hT1 (by omega); have hB3 := (hB3.ext ((E7.trans E8).trans E9)).moves M1 hT1 (by omega); have hO := (hO.ext ((E7.trans E8).trans E9)).moves M1 hT1 (by omega)
        have hB4 := hB4.moves M1 hT1 (by omega); have hs9 := E10.size; refine Wo_nil ?_; refine ⟨trivial, ?_⟩
        refine Wh_take 15 rfl (by kernel_rfl) (by kernel_rfl) rfl (fun _ _ => opv_fieldAddr Try.underlying25 rfl rfl Try.sizeOf23 rfl) trivial ?_; refine Wh_all (rs := [16]) (by kernel_rfl) rfl ?_; refine WhAll_cons rfl ?_ ?_
        refine Wo_st (v := v1) rfl Try.sizeOf23 rfl rfl (OwnedB.isC hQ.toB) hB3 (by simp) (by omega) E10 ?_; rintro w11 E13 hB3 K3 hz3; have E14 := E11.wroteAt E10 E13 K3 hz3 (by omega); have szE14 := E14.size
        have E15 := E12.wroteAt E10 E13 K3 hz3 (by omega); have szE15 := E15.size; simp only [List.set] at hB3; have hQ := hQ.toB.wrote K3 (by omega); have hB1 := hB1.of_heap (K3 _ (by omega)); have hB2 := hB2.of_heap (K3 _ (by omega))
        have hO := hO.wrote K3 (by omega); have hB4 := hB4.of_heap (K3 _ (by omega)); refine Wo_nil ?_; refine ⟨trivial, ?_⟩; refine Wh_done (by kernel_rfl) ?_; refine W_region rfl ?_; refine Wo rfl (opv_move (v := .int _ _) rfl) ?_
        refine Wo rfl (opv_add rfl rfl (by omega)) ?_; refine Wo rfl (opv_assign (v := .int _ _) rfl) ?_; refine Wo_nil ?_; rotate_left; exact WhAll_nil; exact WhAll_nil; exact WhAll_nil; exact WhAll_nil; exact WhAll_nil; exact WhAll_nil
        exact WhAll_nil; (exfalso; omega)
      all_goals
        refine ⟨(j + 1, v1), by repeat (first | exact trivial | refine And.intro rfl ?_), by repeat (first | with_reducible exact Same.refl | refine Same.upd rfl ?_ | refine Same.upds rfl ?_ | refine Same.mix rfl ?_), ?_, ?_⟩
        · exact ⟨by assumption, by have := M1.1.size; omega, by omega, by assumption, by assumption, by rw [hsn]; exact OwnedB.o (by assumption)⟩
        · simp only; omega
    · obtain rfl : j = B.length := by omega
      focus
        have szE6 := E6.size; have szE5 := E5.size; have szE6 := E6.size; have szE5 := E5.size; have szE4 := E4.size; have szE3 := E3.size; have szE2 := E2.size; have szE1 := E1.size; refine W_seq ?_; refine W_seq ?_; refine W_region rfl ?_
        refine Wo rfl (opv_move (v := .int _ _) rfl) ?_; refine Wo rfl (opv_fieldAddr Try.underlying25 rfl rfl Try.sizeOf23 rfl) ?_; refine Wo (v := u2) rfl (opv_load Try.isAgg23 rfl ((hB1.ext (E2.trans E6)).cell rfl)) ?_
        refine Wo rfl (opv_len Try.underlying23 rfl h2) ?_; refine Wo rfl (opv_lss rfl rfl) ?_; refine Wo_nil ?_; refine W_cond_dec rfl (fun h4 => ?_) (fun h4 => ?_); (exfalso; omega); refine W_exit ?_; refine exitX_same ?_; refine W_seq ?_
        refine W_region rfl ?_; refine Wo (v := .agg _) rfl (opv_load2 Try.isAgg25 Try.sizeOf25 rfl hB3) ?_; refine Wo_call rfl (opc1 (a := .agg _) Try.call53 rfl) (hsO _ _ _ ((OwnedB.read hO)) ((Owned.read hQ))) ?_
        rintro _ w7 ⟨u3, q1, rfl, E7, hO1, hQ1, hd1⟩; have icu3 := OwnedB.isC (Owned.toB hO1); have cpu3 := OwnedB.capOk (Owned.toB hO1); have icq1 := OwnedB.isC (Owned.toB hQ1); have cpq1 := OwnedB.capOk (Owned.toB hQ1)
        have hs6 := E7.size; refine Wo_st2 rfl Try.sizeOf25 rfl rfl (by first | rfl | assumption) (by first | rfl | assumption) (hB2.ext (E6.trans E7)) (by omega) (((E1.trans E2).trans E6).trans E7) ?_; rintro w8 E8 hB2 K2 hz2
        have E9 := ((E2.trans E6).trans E7).wroteAt (((E1.trans E2).trans E6).trans E7) E8 K2 hz2 (by omega); have szE9 := E9.size; have hB1 := (hB1.ext ((E2.trans E6).trans E7)).of_heap (K2 _ (by omega))
        have hB3 := (hB3.ext E7).of_heap (K2 _ (by omega)); have hO := (hO.ext E7).wrote K2 (by omega); have hQ := (hQ.toB.ext E7).wrote K2 (by omega); have hO1 := hO1.toB.wrote K2 (by omega); have hQ1 := hQ1.toB.wrote K2 (by omega)
        refine Wo_nil ?_; refine W_ret ?_
      exact ⟨_, _, _, rfl, by assumption, _, _, rfl, by assumption, hO1.o.mono (by omega), hQ1.o.mono (by omega), hd1⟩

theorem spec_EveryOther_ok (w : World) (u1 u2 : Value) (A B : List Int) (h1 : Ints w u1 A) (h2 : Ints w u2 B) (hA : A.length ≤ 4000000) (hB : B.length ≤ 4000000) : Does Try.prog 27 [.agg #[u1, u2]] w (RetS22 w 3 (evV A B 0).1 (evV A B 0).2 (evV A B 1).1 (evV A B 1).2) := by
  have hle1 := h1.le
  have hle2 := h2.le
  have hok : ∀ (x : Bool), decide (Stm A B) = x → ∀ (w : World) (u1 u2 : Value), Ints w u1 A → Ints w u2 B → Does Try.prog 16 [.agg #[u1, u2]] w (Ret w (.bool x)) := fun x e w u1 u2 h1 h2 => e ▸ StreamOk_ok w u1 u2 A B h1 h2 hA hB
  by_cases hs : Stm A B
  · have k1 := hok true (decide_eq_true hs)
    have k2 : ∀ (w : World) (u1 u2 : Value), Ints w u1 A → Ints w u2 B → Does Try.prog 69 [.agg #[u1, u2], .int .i64 0, .int .i64 2] w (RetS2 w 3 (evV A B 0).1 (evV A B 0).2) := fun w u1 u2 h1 h2 => l8Taken_ok w u1 u2 A B h1 h2 hs 0 (.inl rfl)
    have k3 : ∀ (w : World) (u1 u2 : Value), Ints w u1 A → Ints w u2 B → Does Try.prog 69 [.agg #[u1, u2], .int .i64 1, .int .i64 2] w (RetS2 w 3 (evV A B 1).1 (evV A B 1).2) := fun w u1 u2 h1 h2 => l8Taken_ok w u1 u2 A B h1 h2 hs 1 (.inr rfl)
    clear hok
    refine fn_of_Wcc Try.func27 rfl Try.results27 Try.ntmps27 rfl Try.isAgg25 Try.sizeOf25 ?_
    focus
      refine W_seq ?_; refine W_region rfl ?_; refine Wo_box rfl rfl rfl ?_; rintro b1 w1 hb1 E1 hB1; have hlb1 := hB1.lt; have hs1 := E1.size; refine Wo_alloc2 rfl flat25 ?_; rintro b2 w2 hb2 E2 hB2; have hlb2 := hB2.lt
      have hs2 := E2.size; refine Wo_alloc2 rfl flat25 ?_; rintro b3 w3 hb3 E3 hB3; have hlb3 := hB3.lt; have hs3 := E3.size; refine Wo_nil ?_; refine W_seq ?_; refine W_seq ?_; refine W_region rfl ?_
      refine Wo (v := .agg _) rfl (opv_load2 Try.isAgg25 Try.sizeOf25 rfl (hB1.ext (E2.trans E3))) ?_
      refine Wo_call rfl (opc1 (a := .agg _) Try.call16 rfl) (k1 _ _ _ ((Mono.mono ((E1.trans E2).trans E3) h1)) ((Mono.mono ((E1.trans E2).trans E3) h2))) ?_; rintro _ w4 ⟨rfl, E4⟩; have hs4 := E4.size; refine Wo rfl (opv_not rfl) ?_
      refine Wo_nil ?_; refine W_cond rfl (fun h3 => ?_) (fun h3 => ?_); contradiction; refine W_skip ?_; refine W_seq ?_; refine W_held (fun _ => True) mixed rfl (by kernel_rfl) ?_; intro w5 E5 K1 hz1; have hs5 := E5.size
      refine Wh_all (rs := [0, 2]) (by kernel_rfl) rfl ?_; refine WhAll_cons rfl ?_ ?_; refine Wo (v := .agg _) rfl (opv_load2 Try.isAgg25 Try.sizeOf25 rfl (hB1.ext (((E2.trans E3).trans E4).trans E5))) ?_; refine Wo_nil ?_
      refine ⟨trivial, ?_⟩; refine Wh_all (rs := [1, 2]) (by kernel_rfl) rfl ?_; refine WhAll_cons rfl ?_ ?_
      refine Wo_call rfl (opc3 (a := .agg _) (b := .int _ _) (c := .int _ _) Try.call69 rfl rfl rfl) (k2 _ _ _ ((Mono.mono ((((E1.trans E2).trans E3).trans E4).trans E5) h1)) ((Mono.mono ((((E1.trans E2).trans E3).trans E4).trans E5) h2))) ?_
      rintro _ w6 ⟨u3, q1, rfl, E6, hO1, hQ1, hd1⟩; have icu3 := OwnedB.isC (Owned.toB hO1); have cpu3 := OwnedB.capOk (Owned.toB hO1); have icq1 := OwnedB.isC (Owned.toB hQ1); have cpq1 := OwnedB.capOk (Owned.toB hQ1)
      have hs6 := E6.size; refine Wo_nil ?_; refine ⟨trivial, ?_⟩; refine Wh_all (rs := [2]) (by kernel_rfl) rfl ?_; refine WhAll_cons rfl ?_ ?_
      refine Wo (v := .agg _) rfl (opv_load2 Try.isAgg25 Try.sizeOf25 rfl (hB1.ext ((((E2.trans E3).trans E4).trans E5).trans E6))) ?_; refine Wo_nil ?_; refine ⟨trivial, ?_⟩; refine Wh_all (rs := [3]) (by kernel_rfl) rfl ?_
      refine WhAll_cons rfl ?_ ?_
      refine Wo_call rfl (opc3 (a := .agg _) (b := .int _ _) (c := .int _ _) Try.call69 rfl rfl rfl) (k3 _ _ _ ((Mono.mono (((((E1.trans E2).trans E3).trans E4).trans E5).trans E6) h1)) ((Mono.mono (((((E1.trans E2).trans E3).trans E4).trans E5).trans E6) h2))) ?_
      rintro _ w7 ⟨u4, q2, rfl, E7, hO2, hQ2, hd2⟩; have icu4 := OwnedB.isC (Owned.toB hO2); have cpu4 := OwnedB.capOk (Owned.toB hO2); have icq2 := OwnedB.isC (Owned.toB hQ2); have cpq2 := OwnedB.capOk (Owned.toB hQ2)
      have hs7 := E7.size; refine Wo_nil ?_; refine ⟨trivial, ?_⟩; refine Wh_all (rs := [4]) (by kernel_rfl) rfl ?_; refine WhAll_cons rfl ?_ ?_
      refine Wo_st2 rfl Try.sizeOf25 rfl rfl (by first | rfl | assumption) (by first | rfl | assumption) (hB2.ext ((((E3.trans E4).trans E5).trans E6).trans E7)) (by omega) ((((((E1.trans E2).trans E3).trans E4).trans E5).trans E6).trans E7) ?_
      rintro w8 E8 hB2 K2 hz2; have E9 := (((((E2.trans E3).trans E4).trans E5).trans E6).trans E7).wroteAt ((((((E1.trans E2).trans E3).trans E4).trans E5).trans E6).trans E7) E8 K2 hz2 (by omega); have szE9 := E9.size
      have hB1 := (hB1.ext (((((E2.trans E3).trans E4).trans E5).trans E6).trans E7)).of_heap (K2 _ (by omega)); have hB3 := (hB3.ext (((E4.trans E5).trans E6).trans E7)).of_heap (K2 _ (by omega))
      have hO1 := (hO1.toB.ext E7).wrote K2 (by omega); have hQ1 := (hQ1.toB.ext E7).wrote K2 (by omega); have hO2 := hO2.toB.wrote K2 (by omega); have hQ2 := hQ2.toB.wrote K2 (by omega); refine Wo_nil ?_; refine ⟨trivial, ?_⟩
      refine Wh_all (rs := [5]) (by kernel_rfl) rfl ?_; refine WhAll_cons rfl ?_ ?_; refine Wo_st2 rfl Try.sizeOf25 rfl rfl (by first | rfl | assumption) (by first | rfl | assumption) hB3 (by omega) E8 ?_; rintro w9 E10 hB3 K3 hz3
      have E11 := E9.wroteAt E8 E10 K3 hz3 (by omega); have szE11 := E11.size; have hB2 := hB2.of_heap (K3 _ (by omega)); have hB1 := hB1.of_heap (K3 _ (by omega)); have hO1 := hO1.wrote K3 (by omega); have hQ1 := hQ1.wrote K3 (by omega)
      have hO2 := hO2.wrote K3 (by omega); have hQ2 := hQ2.wrote K3 (by omega); refine Wo_nil ?_; refine ⟨trivial, ?_⟩; refine Wh_done (by kernel_rfl) ?_; refine W_ret ?_; rotate_left; exact WhAll_nil; exact WhAll_nil; exact WhAll_nil
      exact WhAll_nil; refine WhAll_cons rfl ?_ ?_; refine Wo (v := .agg _) rfl (opv_load2 Try.isAgg25 Try.sizeOf25 rfl (hB1.ext (((E2.trans E3).trans E4).trans E5))) ?_; refine Wo_nil ?_; refine ⟨trivial, ?_⟩
      refine Wh_all (rs := [1]) (by kernel_rfl) rfl ?_; refine WhAll_cons rfl ?_ ?_
      refine Wo_call rfl (opc3 (a := .agg _) (b := .int _ _) (c := .int _ _) Try.call69 rfl rfl rfl) (k2 _ _ _ ((Mono.mono ((((E1.trans E2).trans E3).trans E4).trans E5) h1)) ((Mono.mono ((((E1.trans E2).trans E3).trans E4).trans E5) h2))) ?_
      rintro _ w6 ⟨u3, q1, rfl, E6, hO1, hQ1, hd1⟩; have icu3 := OwnedB.isC (Owned.toB hO1); have cpu3 := OwnedB.capOk (Owned.toB hO1); have icq1 := OwnedB.isC (Owned.toB hQ1); have cpq1 := OwnedB.capOk (Owned.toB hQ1)
      have hs6 := E6.size; refine Wo_nil ?_; refine ⟨trivial, ?_⟩; refine Wh_all (rs := [3]) (by kernel_rfl) rfl ?_; refine WhAll_cons rfl ?_ ?_
      refine Wo_call rfl (opc3 (a := .agg _) (b := .int _ _) (c := .int _ _) Try.call69 rfl rfl rfl) (k3 _ _ _ ((Mono.mono (((((E1.trans E2).trans E3).trans E4).trans E5).trans E6) h1)) ((Mono.mono (((((E1.trans E2).trans E3).trans E4).trans E5).trans E6) h2))) ?_
      rintro _ w7 ⟨u4, q2, rfl, E7, hO2, hQ2, hd2⟩; have icu4 := OwnedB.isC (Owned.toB hO2); have cpu4 := OwnedB.capOk (Owned.toB hO2); have icq2 := OwnedB.isC (Owned.toB hQ2); have cpq2 := OwnedB.capOk (Owned.toB hQ2)
      have hs7 := E7.size; refine Wo_nil ?_; refine ⟨trivial, ?_⟩; refine Wh_all (rs := [4]) (by kernel_rfl) rfl ?_; refine WhAll_cons rfl ?_ ?_
      refine Wo_st2 rfl Try.sizeOf25 rfl rfl (by first | rfl | assumption) (by first | rfl | assumption) (hB2.ext ((((E3.trans E4).trans E5).trans E6).trans E7)) (by omega) ((((((E1.trans E2).trans E3).trans E4).trans E5).trans E6).trans E7) ?_
      rintro w8 E8 hB2 K2 hz2; have E9 := (((((E2.trans E3).trans E4).trans E5).trans E6).trans E7).wroteAt ((((((E1.trans E2).trans E3).trans E4).trans E5).trans E6).trans E7) E8 K2 hz2 (by omega); have szE9 := E9.size
      have hB1 := (hB1.ext (((((E2.trans E3).trans E4).trans E5).trans E6).trans E7)).of_heap (K2 _ (by omega)); have hB3 := (hB3.ext (((E4.trans E5).trans E6).trans E7)).of_heap (K2 _ (by omega))
      have hO1 := (hO1.toB.ext E7).wrote K2 (by omega); have hQ1 := (hQ1.toB.ext E7).wrote K2 (by omega); have hO2 := hO2.toB.wrote K2 (by omega); have hQ2 := hQ2.toB.wrote K2 (by omega); refine Wo_nil ?_; refine ⟨trivial, ?_⟩
      refine Wh_all (rs := [5]) (by kernel_rfl) rfl ?_; refine WhAll_cons rfl ?_ ?_; refine Wo_st2 rfl Try.sizeOf25 rfl rfl (by first | rfl | assumption) (by first | rfl | assumption) hB3 (by omega) E8 ?_; rintro w9 E10 hB3 K3 hz3
      have E11 := E9.wroteAt E8 E10 K3 hz3 (by omega); have szE11 := E11.size; have hB2 := hB2.of_heap (K3 _ (by omega)); have hB1 := hB1.of_heap (K3 _ (by omega)); have hO1 := hO1.wrote K3 (by omega); have hQ1 := hQ1.wrote K3 (by omega)
      have hO2 := hO2.wrote K3 (by omega); have hQ2 := hQ2.wrote K3 (by omega); refine Wo_nil ?_; refine ⟨trivial, ?_⟩; refine Wh_done (by kernel_rfl) ?_; refine W_ret ?_; rotate_left; exact WhAll_nil; exact WhAll_nil; exact WhAll_nil
      exact WhAll_nil; exact WhAll_nil; refine WhAll_cons rfl ?_ ?_; refine Wo (v := .agg _) rfl (opv_load2 Try.isAgg25 Try.sizeOf25 rfl (hB1.ext (((E2.trans E3).trans E4).trans E5))) ?_; refine Wo_nil ?_; refine ⟨trivial, ?_⟩
      refine Wh_all (rs := [0]) (by kernel_rfl) rfl ?_; refine WhAll_cons rfl ?_ ?_; refine Wo (v := .agg _) rfl (opv_load2 Try.isAgg25 Try.sizeOf25 rfl (hB1.ext (((E2.trans E3).trans E4).trans E5))) ?_; refine Wo_nil ?_
      refine ⟨trivial, ?_⟩; refine Wh_all (rs := [1]) (by kernel_rfl) rfl ?_; refine WhAll_cons rfl ?_ ?_
      refine Wo_call rfl (opc3 (a := .agg _) (b := .int _ _) (c := .int _ _) Try.call69 rfl rfl rfl) (k2 _ _ _ ((Mono.mono ((((E1.trans E2).trans E3).trans E4).trans E5) h1)) ((Mono.mono ((((E1.trans E2).trans E3).trans E4).trans E5) h2))) ?_
      rintro _ w6 ⟨u3, q1, rfl, E6, hO1, hQ1, hd1⟩; have icu3 := OwnedB.isC (Owned.toB hO1); have cpu3 := OwnedB.capOk (Owned.toB hO1); have icq1 := OwnedB.isC (Owned.toB hQ1); have cpq1 := OwnedB.capOk (Owned.toB hQ1)
      have hs6 := E6.size; refine Wo_nil ?_; refine ⟨trivial, ?_⟩; refine Wh_all (rs := [3]) (by kernel_rfl) rfl ?_; refine WhAll_cons rfl ?_ ?_
      refine Wo_call rfl (opc3 (a := .agg _) (b := .int _ _) (c := .int _ _) Try.call69 rfl rfl rfl) (k3 _ _ _ ((Mono.mono (((((E1.trans E2).trans E3).trans E4).trans E5).trans E6) h1)) ((Mono.mono (((((E1.trans E2).trans E3).trans E4).trans E5).trans E6) h2))) ?_
      rintro _ w7 ⟨u4, q2, rfl, E7, hO2, hQ2, hd2⟩; have icu4 := OwnedB.isC (Owned.toB hO2); have cpu4 := OwnedB.capOk (Owned.toB hO2); have icq2 := OwnedB.isC (Owned.toB hQ2); have cpq2 := OwnedB.capOk (Owned.toB hQ2)
      have hs7 := E7.size; refine Wo_nil ?_; refine ⟨trivial, ?_⟩; refine Wh_all (rs := [4]) (by kernel_rfl) rfl ?_; refine WhAll_cons rfl ?_ ?_
      refine Wo_st2 rfl Try.sizeOf25 rfl rfl (by first | rfl | assumption) (by first | rfl | assumption) (hB2.ext ((((E3.trans E4).trans E5).trans E6).trans E7)) (by omega) ((((((E1.trans E2).trans E3).trans E4).trans E5).trans E6).trans E7) ?_
      rintro w8 E8 hB2 K2 hz2; have E9 := (((((E2.trans E3).trans E4).trans E5).trans E6).trans E7).wroteAt ((((((E1.trans E2).trans E3).trans E4).trans E5).trans E6).trans E7) E8 K2 hz2 (by omega); have szE9 := E9.size
      have hB1 := (hB1.ext (((((E2.trans E3).trans E4).trans E5).trans E6).trans E7)).of_heap (K2 _ (by omega)); have hB3 := (hB3.ext (((E4.trans E5).trans E6).trans E7)).of_heap (K2 _ (by omega))
      have hO1 := (hO1.toB.ext E7).wrote K2 (by omega); have hQ1 := (hQ1.toB.ext E7).wrote K2 (by omega); have hO2 := hO2.toB.wrote K2 (by omega); have hQ2 := hQ2.toB.wrote K2 (by omega); refine Wo_nil ?_; refine ⟨trivial, ?_⟩
      refine Wh_all (rs := [5]) (by kernel_rfl) rfl ?_; refine WhAll_cons rfl ?_ ?_; refine Wo_st2 rfl Try.sizeOf25 rfl rfl (by first | rfl | assumption) (by first | rfl | assumption) hB3 (by omega) E8 ?_; rintro w9 E10 hB3 K3 hz3
      have E11 := E9.wroteAt E8 E10 K3 hz3 (by omega); have szE11 := E11.size; have hB2 := hB2.of_heap (K3 _ (by omega)); have hB1 := hB1.of_heap (K3 _ (by omega)); have hO1 := hO1.wrote K3 (by omega); have hQ1 := hQ1.wrote K3 (by omega)
      have hO2 := hO2.wrote K3 (by omega); have hQ2 := hQ2.wrote K3 (by omega); refine Wo_nil ?_; refine ⟨trivial, ?_⟩; refine Wh_done (by kernel_rfl) ?_; refine W_ret ?_; rotate_left; exact WhAll_nil; exact WhAll_nil; exact WhAll_nil
      exact WhAll_nil; exact WhAll_nil; exact WhAll_nil
    all_goals exact ⟨_, _, _, rfl, by assumption, _, _, _, rfl, by assumption, _, _, _, _, w6.heap.size, rfl, by assumption, own_wide hO1 (by omega) (Nat.le_refl _), own_wide hQ1 (by omega) (Nat.le_refl _), hd1, hO2.o, hQ2.o, hd2, by omega, by omega⟩
  · have k1 := hok false (decide_eq_false hs)
    have e0 : ∀ c, evV A B c = ([], []) := fun c => if_neg hs
    rw [e0, e0]
    clear hok
    refine fn_of_Wcc Try.func27 rfl Try.results27 Try.ntmps27 rfl Try.isAgg25 Try.sizeOf25 ?_
    focus
      refine W_seq ?_; refine W_region rfl ?_; refine Wo_box rfl rfl rfl ?_; rintro b1 w1 hb1 E1 hB1; have hlb1 := hB1.lt; have hs1 := E1.size; refine Wo_alloc2 rfl flat25 ?_; rintro b2 w2 hb2 E2 hB2; have hlb2 := hB2.lt
      have hs2 := E2.size; refine Wo_alloc2 rfl flat25 ?_; rintro b3 w3 hb3 E3 hB3; have hlb3 := hB3.lt; have hs3 := E3.size; refine Wo_nil ?_; refine W_seq ?_; refine W_seq ?_; refine W_region rfl ?_
      refine Wo (v := .agg _) rfl (opv_load2 Try.isAgg25 Try.sizeOf25 rfl (hB1.ext (E2.trans E3))) ?_
      refine Wo_call rfl (opc1 (a := .agg _) Try.call16 rfl) (k1 _ _ _ ((Mono.mono ((E1.trans E2).trans E3) h1)) ((Mono.mono ((E1.trans E2).trans E3) h2))) ?_; rintro _ w4 ⟨rfl, E4⟩; have hs4 := E4.size; refine Wo rfl (opv_not rfl) ?_
      refine Wo_nil ?_; refine W_cond rfl (fun h3 => ?_) (fun h3 => ?_); refine W_seq ?_; refine W_region rfl ?_; refine Wo rfl (opv_build (ps := []) (cs := [_, _]) flat25 rfl rfl) ?_
      refine Wo rfl (opv_build (ps := []) (cs := [_, _]) flat25 rfl rfl) ?_
      refine Wo_st2 rfl Try.sizeOf25 rfl rfl (by first | rfl | assumption) (by first | rfl | assumption) (hB2.ext (E3.trans E4)) (by omega) (((E1.trans E2).trans E3).trans E4) ?_; rintro w5 E5 hB2 K1 hz1
      have E6 := ((E2.trans E3).trans E4).wroteAt (((E1.trans E2).trans E3).trans E4) E5 K1 hz1 (by omega); have szE6 := E6.size; have hB1 := (hB1.ext ((E2.trans E3).trans E4)).of_heap (K1 _ (by omega))
      have hB3 := (hB3.ext E4).of_heap (K1 _ (by omega)); refine Wo_st2 rfl Try.sizeOf25 rfl rfl (by first | rfl | assumption) (by first | rfl | assumption) hB3 (by omega) E5 ?_; rintro w6 E7 hB3 K2 hz2
      have E8 := E6.wroteAt E5 E7 K2 hz2 (by omega); have szE8 := E8.size; have hB2 := hB2.of_heap (K2 _ (by omega)); have hB1 := hB1.of_heap (K2 _ (by omega)); refine Wo_nil ?_; refine W_ret ?_; rotate_left; contradiction
    all_goals exact ⟨_, _, _, rfl, by assumption, _, _, _, rfl, by assumption, _, _, _, _, w.heap.size, rfl, by assumption, OwnedB.nil, OwnedB.nil, .inr rfl, Owned.nil, Owned.nil, .inr rfl, Nat.le_refl _, by omega⟩

end Go.Proofs.Ytlalfmialbolhaa
