/- Walks: the exact law of streams drawn. -/
import Derived.Test.YtlalfmialbolhaaHsWStrY
import Derived.Test.YtlalfmialbolhaaHsWStrEG
import Derived.Test.YtlalfmialbolhaaHsWMark
import Derived.Test.YtlalfmialbolhaaHsWHeldSS
namespace Go.Proofs.Ytlalfmialbolhaa
open Go.Hs
set_option maxRecDepth 10000
set_option maxHeartbeats 4000000
set_option linter.unusedVariables false
set_option linter.unusedSimpArgs false
theorem sdV_small (A B : List Int) : (sdV A B).1.length ≤ 5 ∧ ∀ r ∈ (sdV A B).1, r.length ≤ 5 := by
  unfold sdV
  split
  · rename_i h
    have hp := sdP_pic h.1.short_stm.2.2.1 h.2
    have h5 := hp.2.1
    exact ⟨h5, fun r hr => by rw [(hp.2.2 r hr).1]; exact h5⟩
  · exact ⟨by simp, fun r hr => by cases hr⟩
theorem total_le {n : Nat} : ∀ (p : List (List Int)), (∀ r ∈ p, r.length ≤ n) → total p ≤ p.length * n
  | [], _ => Nat.zero_le _
  | r :: p, h => by
    have h1 := h r (by simp)
    have h2 := total_le p fun x hx => h x (by simp [hx])
    simp only [total, List.length_cons, Nat.succ_mul]
    omega
theorem eqSS_same (p : List (List Int)) (w : World) (v u : Value) (h : ESl Ints w v p) (h' : ESl Ints w u p) : Does Try.prog 42 [v, u] w (Ret w (.bool true)) := by
  have := eqIntSS_ok w v u p p h h'
  rw [decide_eq_true rfl] at this; exact this

theorem FnExactStreamDrawn_walk (w : World) (u1 u2 : Value) (A B : List Int) (h1 : Ints w u1 A) (h2 : Ints w u2 B) :
    Does Try.prog 11 [.agg #[u1, u2]] w (Ret w (.bool true)) := by
  refine fn_of_W1 Try.func11 rfl Try.results11 Try.ntmps11 rfl ?_
  have stop5 : True := trivial
  focus
    refine W_seq ?_; refine W_region rfl ?_; refine Wo_box rfl rfl rfl ?_; rintro b1 w1 hb1 E1 hB1; have hlb1 := hB1.lt; have hs1 := E1.size; refine Wo rfl (opv_assign (v := .bool _) rfl) ?_; refine Wo_nil ?_; refine W_seq ?_
    refine W_region rfl ?_; refine Wo rfl (opv_assign (v := .int _ _) rfl) ?_; refine Wo_nil ?_; refine W_seq ?_; refine W_region rfl ?_; refine Wo (v := .agg _) rfl (opv_load2 Try.isAgg34 Try.sizeOf34 rfl hB1) ?_
    refine Wo rfl (opv_move (v := .int _ _) rfl) ?_; refine Wo_call rfl (opc2 (a := .agg _) (b := .int _ _) Try.call21 rfl rfl) (szStream_ok _ _ _ _ _ ((Mono.mono E1 h1)) ((Mono.mono E1 h2)) _ (by omega)) ?_
    rintro _ w2 ⟨E2, y1, rfl, hy1⟩; have hs2 := E2.size; refine Wo rfl (opv_assign (v := .int _ _) rfl) ?_; refine Wo_nil ?_; refine W_seq ?_; refine W_seq ?_; refine W_region rfl ?_; refine Wo rfl (opv_move (v := .int _ _) rfl) ?_
    refine Wo rfl (opv_lss rfl rfl) ?_; refine Wo_nil ?_; refine W_cond_dec rfl (fun h3 => ?_) (fun h3 => ?_); refine W_seq ?_; refine W_region rfl ?_; refine Wo rfl (opv_assign (v := .bool _) rfl) ?_; refine Wo_nil ?_; refine W_ret ?_
    exact ⟨rfl, (E1.trans E2)⟩; refine W_skip ?_; refine W_seq ?_
  rcases hy1 with h9 | ⟨h5, h6, h7, h8⟩
  · omega
  obtain ⟨hX, hY⟩ := sdV_small A B
  have ht := total_le _ hY
  have k1 : ∀ (w : World) (u1 u2 : Value), Ints w u1 A → Ints w u2 B → Does Try.prog 40 [.agg #[u1, u2]] w (RetOB w XR (sdV A B).1 (sdV A B).2) := fun w u1 u2 h1 h2 => spec_StreamDrawn_ok w u1 u2 A B h1 h2 (by omega) (by omega)
  have k2 : ∀ (w : World) (u1 u2 : Value), Ints w u1 A → Ints w u2 B → Does Try.prog 41 [.agg #[u1, u2]] w (RetOB w XR (sdV A B).1 (sdV A B).2) := fun w u1 u2 h1 h2 => impl_StreamDrawn_ok w u1 u2 A B h1 h2 (by omega) (by omega)
  have ht2 : total (sdV A B).1 ≤ 1000 := Nat.le_trans ht (Nat.le_trans (Nat.mul_le_mul hX (Nat.le_refl 5)) (by decide))
  generalize (sdV A B).1 = X at *
  generalize (sdV A B).2 = bb at *
  have hml := marksS_len 1 X
  have k5 := eqSS_same X
  clear stop5 ht
  have stop10 : True := trivial
  have stop24 : True := trivial
  cases bb
  · focus
      have szE2 := E2.size; have szE1 := E1.size; refine W_region rfl ?_; refine Wo (v := .agg _) rfl (opv_load2 Try.isAgg34 Try.sizeOf34 rfl (hB1.ext E2)) ?_
      refine Wo_call rfl (opc1 (a := .agg _) Try.call23 rfl) (toStream_ok _ _ _ _ _ ((Mono.mono (E1.trans E2) h1)) ((Mono.mono (E1.trans E2) h2)) (by assumption) (by assumption)) ?_; rintro _ w3 ⟨u3, q1, rfl, E3, hO1, hQ1, hd1⟩
      have icu3 := OwnedB.isC (Owned.toB hO1); have cpu3 := OwnedB.capOk (Owned.toB hO1); have icq1 := OwnedB.isC (Owned.toB hQ1); have cpq1 := OwnedB.capOk (Owned.toB hQ1); have hs3 := E3.size
      refine Wo_call rfl (opc1 (a := .agg _) Try.call40 rfl) (k1 _ _ _ ((Owned.read hO1)) ((Owned.read hQ1))) ?_; rintro _ w4 ⟨u4, rfl, E4, hO2⟩; have hs4 := E4.size; refine Wo rfl (opv_move (v := .tuple _) rfl) ?_
      refine Wo rfl (opv_extract (v := u4) rfl rfl) ?_; refine Wo rfl (opv_extract (v := .bool _) rfl rfl) ?_; refine Wo rfl (opv_assign (v := u4) rfl) ?_; refine Wo rfl (opv_assign (v := .bool _) rfl) ?_; refine Wo_nil ?_
      refine W_seq ?_; refine W_region rfl ?_; refine Wo (v := .agg _) rfl (opv_load2 Try.isAgg34 Try.sizeOf34 rfl (hB1.ext ((E2.trans E3).trans E4))) ?_
      refine Wo_call rfl (opc1 (a := .agg _) Try.call23 rfl) (toStream_ok _ _ _ _ _ ((Mono.mono (((E1.trans E2).trans E3).trans E4) h1)) ((Mono.mono (((E1.trans E2).trans E3).trans E4) h2)) (by assumption) (by assumption)) ?_
      rintro _ w5 ⟨u5, q2, rfl, E5, hO3, hQ2, hd2⟩; have icu5 := OwnedB.isC (Owned.toB hO3); have cpu5 := OwnedB.capOk (Owned.toB hO3); have icq2 := OwnedB.isC (Owned.toB hQ2); have cpq2 := OwnedB.capOk (Owned.toB hQ2)
      have hs5 := E5.size; refine Wo_alloc2 rfl flat25 ?_; rintro b2 w6 hb2 E6 hB2; have hlb2 := hB2.lt; have hs6 := E6.size
      refine Wo_st2 rfl Try.sizeOf25 rfl rfl (by first | rfl | assumption) (by first | rfl | assumption) hB2 (by omega) (((((E1.trans E2).trans E3).trans E4).trans E5).trans E6) ?_; rintro w7 E7 hB2 K1 hz1
      have E8 := ((((E2.trans E3).trans E4).trans E5).trans E6).wroteAt (((((E1.trans E2).trans E3).trans E4).trans E5).trans E6) E7 K1 hz1 (by omega); have szE8 := E8.size
      have E9 := (((E3.trans E4).trans E5).trans E6).wroteAt (((((E1.trans E2).trans E3).trans E4).trans E5).trans E6) E7 K1 hz1 (by omega); have szE9 := E9.size
      have E10 := ((E4.trans E5).trans E6).wroteAt (((((E1.trans E2).trans E3).trans E4).trans E5).trans E6) E7 K1 hz1 (by omega); have szE10 := E10.size
      have E11 := (E5.trans E6).wroteAt (((((E1.trans E2).trans E3).trans E4).trans E5).trans E6) E7 K1 hz1 (by omega); have szE11 := E11.size
      have E12 := E6.wroteAt (((((E1.trans E2).trans E3).trans E4).trans E5).trans E6) E7 K1 hz1 (by omega); have szE12 := E12.size; have hB1 := (hB1.ext ((((E2.trans E3).trans E4).trans E5).trans E6)).of_heap (K1 _ (by omega))
      have hO1 := (hO1.toB.ext ((E4.trans E5).trans E6)).wrote K1 (by omega); have hQ1 := (hQ1.toB.ext ((E4.trans E5).trans E6)).wrote K1 (by omega); have hO2 := (hO2.toB.ext (E5.trans E6)).wrote K1 (by omega)
      have hO3 := (hO3.toB.ext E6).wrote K1 (by omega); have hQ2 := (hQ2.toB.ext E6).wrote K1 (by omega); refine Wo_nil ?_; refine W_seq ?_; refine W_region rfl ?_
      refine Wo (v := .agg _) rfl (opv_load2 Try.isAgg25 Try.sizeOf25 rfl hB2) ?_; refine Wo_call rfl (opc1 (a := .agg _) Try.call41 rfl) (k2 _ _ _ ((OwnedB.read hO3)) ((OwnedB.read hQ2))) ?_; rintro _ w8 ⟨u6, rfl, E13, hO4⟩
      have hs7 := E13.size; refine Wo rfl (opv_move (v := .tuple _) rfl) ?_; refine Wo rfl (opv_extract (v := u6) rfl rfl) ?_; refine Wo rfl (opv_extract (v := .bool _) rfl rfl) ?_; refine Wo rfl (opv_assign (v := u6) rfl) ?_
      refine Wo rfl (opv_assign (v := .bool _) rfl) ?_; refine Wo_nil ?_; refine W_seq ?_; refine W_seq ?_; refine W_region rfl ?_; refine Wo rfl (opv_move (v := u6) rfl) ?_; refine Wo rfl (opv_move (v := u4) rfl) ?_
      refine Wo_call rfl (opc2 (a := u6) (b := u4) Try.call42 rfl rfl) (k5 _ _ _ ((Owned.read hO4)) ((Mono.mono E13 (OwnedB.read hO2)))) ?_; rintro _ w9 ⟨rfl, E14⟩; have hs8 := E14.size; refine Wo rfl (opv_not rfl) ?_
      refine Wo_split rfl (opv_move (v := .bool _) rfl) (fun h4 => ?_) (fun h4 => ?_); contradiction; refine Wo rfl (opv_move (v := .bool _) rfl) ?_; refine Wo rfl (opv_move (v := .bool _) rfl) ?_
      refine Wo rfl (opv_neq_bool Try.underlying4 rfl rfl) ?_; refine Wo rfl (opv_pick_f (v := .bool _) rfl rfl) ?_; refine Wo_nil ?_; refine W_cond_ndec rfl (fun h9 => ?_) (fun h9 => ?_); contradiction; refine W_skip ?_; refine W_seq ?_
      refine W_seq ?_
    clear stop10
    have heldS : w9 = w9 := rfl
    focus
      have szE14 := E14.size; have szE13 := E13.size; have szE12 := E12.size; have szE11 := E11.size; have szE10 := E10.size; have szE9 := E9.size; have szE8 := E8.size; have szE7 := E7.size; have szE6 := E6.size; have szE5 := E5.size
      have szE4 := E4.size; have szE3 := E3.size; have szE2 := E2.size; have szE1 := E1.size; refine W_held (fun w' => Ext w9 w') mixed rfl (by kernel_rfl) ?_; intro w10 E15 K2 hz2; have hs9 := E15.size
      refine Wh_take (v := .agg _) 0 rfl (by kernel_rfl) (by kernel_rfl) rfl (fun w' hw' => opv_load2 Try.isAgg25 Try.sizeOf25 rfl (hB2.ext ((E13.trans E14).trans hw'))) E15 ?_
      refine Wh_take (v := .agg _) 1 rfl (by kernel_rfl) (by kernel_rfl) rfl (fun w' hw' => opv_load2 Try.isAgg34 Try.sizeOf34 rfl (hB1.ext ((E13.trans E14).trans hw'))) E15 ?_; refine Wh_all (rs := [2]) (by kernel_rfl) rfl ?_
      refine WhAll_cons rfl ?_ ?_
      refine Wo_call rfl (opc1 (a := .agg _) Try.call23 rfl) (toStream_ok _ _ _ _ _ ((Mono.mono (((E7.trans E13).trans E14).trans E15) h1)) ((Mono.mono (((E7.trans E13).trans E14).trans E15) h2)) (by assumption) (by assumption)) ?_
      rintro _ w11 ⟨u7, q3, rfl, E16, hO5, hQ3, hd3⟩; have icu7 := OwnedB.isC (Owned.toB hO5); have cpu7 := OwnedB.capOk (Owned.toB hO5); have icq3 := OwnedB.isC (Owned.toB hQ3); have cpq3 := OwnedB.capOk (Owned.toB hQ3)
      have hs10 := E16.size; refine Wo_nil ?_; refine ⟨(E15.trans E16), ?_⟩; refine Wh_all (rs := [3]) (by kernel_rfl) rfl ?_; refine WhAll_cons rfl ?_ ?_
      refine Wo_call rfl (opc2 (a := .agg _) (b := .agg _) Try.call24 rfl rfl) (eq_same _ _ _ _ _ _ _ ((Mono.mono (((E13.trans E14).trans E15).trans E16) (OwnedB.read hO3))) ((Mono.mono (((E13.trans E14).trans E15).trans E16) (OwnedB.read hQ2))) ((Owned.read hO5)) ((Owned.read hQ3))) ?_
      rintro _ w12 ⟨rfl, E17⟩; have hs11 := E17.size; refine Wo_nil ?_; refine ⟨((E15.trans E16).trans E17), ?_⟩; refine Wh_take 4 rfl (by kernel_rfl) (by kernel_rfl) rfl (fun _ _ => opv_not rfl) ((E15.trans E16).trans E17) ?_
      refine Wh_done (by kernel_rfl) ?_; refine W_cond rfl (fun h10 => ?_) (fun h10 => ?_); contradiction; refine W_skip ?_; refine W_seq ?_; refine W_region rfl ?_; refine Wo rfl (opv_assign (v := .int _ _) rfl) ?_; refine Wo_nil ?_
      refine W_seq ?_; refine W_region rfl ?_; refine Wo (v := .agg _) rfl (opv_load2 Try.isAgg25 Try.sizeOf25 rfl (hB2.ext ((((E13.trans E14).trans E15).trans E16).trans E17))) ?_; refine Wo rfl (opv_move (v := .int _ _) rfl) ?_
      refine Wo_call rfl (opc2 (a := .agg _) (b := .int _ _) Try.call25 rfl rfl) (markStream_ok _ _ _ _ _ ((hO3.ext ((((E13.trans E14).trans E15).trans E16).trans E17))) ((hQ2.ext ((((E13.trans E14).trans E15).trans E16).trans E17))) (by assumption) (by assumption) (by omega) _ (by omega) (by assumption) (by assumption)) ?_
      rintro _ w13 ⟨rfl, E18, hO6, hQ4⟩; have hB2 := (hB2.ext ((((E13.trans E14).trans E15).trans E16).trans E17)).span E18 (by omega); have hB1 := (hB1.ext ((((E13.trans E14).trans E15).trans E16).trans E17)).span E18 (by omega)
      have hO1 := (hO1.ext ((((E13.trans E14).trans E15).trans E16).trans E17)).span E18 (by omega); have hQ1 := (hQ1.ext ((((E13.trans E14).trans E15).trans E16).trans E17)).span E18 (by omega)
      have hO2 := (hO2.ext ((((E13.trans E14).trans E15).trans E16).trans E17)).span E18 (by omega); have hO4 := (hO4.toB.ext (((E14.trans E15).trans E16).trans E17)).span E18 (by omega); have hO5 := (hO5.toB.ext E17).span E18 (by omega)
      have hQ3 := (hQ3.toB.ext E17).span E18 (by omega); have E19 := (((((E7.trans E13).trans E14).trans E15).trans E16).trans E17).span E18 (by omega)
      have E20 := ((((((E8.trans E13).trans E14).trans E15).trans E16).trans E17)).span E18 (by omega); have szE20 := E20.size; have E21 := ((((((E9.trans E13).trans E14).trans E15).trans E16).trans E17)).span E18 (by omega)
      have szE21 := E21.size; have E22 := ((((((E10.trans E13).trans E14).trans E15).trans E16).trans E17)).span E18 (by omega); have szE22 := E22.size
      have E23 := ((((((E11.trans E13).trans E14).trans E15).trans E16).trans E17)).span E18 (by omega); have szE23 := E23.size; have hs12 := E18.size; refine Wo rfl (opv_assign (v := .int _ _) rfl) ?_; refine Wo_nil ?_; refine W_seq ?_
      refine W_seq ?_; refine W_region rfl ?_; refine Wo rfl (opv_move (v := .int _ _) rfl) ?_; refine Wo rfl (opv_lss rfl rfl) ?_; refine Wo_split_dec rfl (opv_move (v := .bool _) rfl) (fun h11 => ?_) (fun h11 => ?_); contradiction
      refine Wo rfl (opv_move (v := u6) rfl) ?_; refine Wo rfl (opv_move (v := u4) rfl) ?_; refine Wo_call rfl (opc2 (a := u6) (b := u4) Try.call42 rfl rfl) (k5 _ _ _ ((OwnedB.read hO4)) ((OwnedB.read hO2))) ?_; rintro _ w14 ⟨rfl, E24⟩
      have hs13 := E24.size; refine Wo rfl (opv_not rfl) ?_; refine Wo rfl (opv_pick_f (v := .bool _) rfl rfl) ?_; refine Wo_split rfl (opv_move (v := .bool _) rfl) (fun h12 => ?_) (fun h12 => ?_); contradiction
      refine Wo rfl (opv_move (v := .bool _) rfl) ?_; refine Wo rfl (opv_move (v := .bool _) rfl) ?_; refine Wo rfl (opv_neq_bool Try.underlying4 rfl rfl) ?_; refine Wo rfl (opv_pick_f (v := .bool _) rfl rfl) ?_; refine Wo_nil ?_
      refine W_cond_ndec rfl (fun h13 => ?_) (fun h13 => ?_); contradiction; refine W_skip ?_; refine W_seq ?_; refine W_region rfl ?_; refine Wo rfl (opv_assign (v := .int _ _) rfl) ?_; refine Wo_nil ?_; refine W_seq ?_
      refine W_region rfl ?_; refine Wo rfl (opv_move (v := u6) rfl) ?_; refine Wo rfl (opv_move (v := .int _ _) rfl) ?_
      refine Wo_call rfl (opc2 (a := u6) (b := .int _ _) Try.call43 rfl rfl) (markIntSS_ok _ _ _ ((hO4.ext E24)) _ (by omega) (by omega) (by omega)) ?_; rintro _ w15 ⟨rfl, E25, hO7⟩; have hO6 := (hO6.ext E24).span E25 (by omega)
      have hQ4 := (hQ4.ext E24).span E25 (by omega); have hB2 := (hB2.ext E24).span E25 (by omega); have hB1 := (hB1.ext E24).span E25 (by omega); have hO1 := (hO1.ext E24).span E25 (by omega)
      have hQ1 := (hQ1.ext E24).span E25 (by omega); have hO2 := (hO2.ext E24).span E25 (by omega); have hO5 := (hO5.ext E24).span E25 (by omega); have hQ3 := (hQ3.ext E24).span E25 (by omega)
      have E26 := (E19.trans E24).span E25 (by omega); have E27 := ((E20.trans E24)).span E25 (by omega); have szE27 := E27.size; have E28 := ((E21.trans E24)).span E25 (by omega); have szE28 := E28.size
      have E29 := ((E22.trans E24)).span E25 (by omega); have szE29 := E29.size; have E30 := ((E23.trans E24)).span E25 (by omega); have szE30 := E30.size; have hs14 := E25.size; refine Wo rfl (opv_assign (v := .int _ _) rfl) ?_
      refine Wo_nil ?_; refine W_seq ?_; refine W_region rfl ?_; refine Wo rfl (opv_assign (v := .int _ _) rfl) ?_; refine Wo_nil ?_; refine W_seq ?_; refine W_region rfl ?_; refine Wo rfl (opv_move (v := u6) rfl) ?_
      refine Wo rfl (opv_move (v := .int _ _) rfl) ?_; refine Wo_call rfl (opc2 (a := u6) (b := .int _ _) Try.call44 rfl rfl) (heldIntSS_ok _ _ _ _ ((OwnedB.read hO7)) (by omega) (by omega) (by omega)) ?_; rintro _ w16 ⟨rfl, E31⟩
      have hs15 := E31.size; refine Wo rfl (opv_assign (v := .int _ _) rfl) ?_; refine Wo_nil ?_; refine W_seq ?_; refine W_seq ?_; refine W_region rfl ?_; refine Wo rfl (opv_move (v := .int _ _) rfl) ?_
      refine Wo rfl (opv_lss rfl rfl) ?_; refine Wo_nil ?_; refine W_cond_dec rfl (fun h14 => ?_) (fun h14 => ?_); contradiction; refine W_skip ?_; refine W_seq ?_; refine W_seq ?_; refine W_region rfl ?_
      refine Wo rfl (opv_move (v := .int _ _) rfl) ?_; refine Wo rfl (opv_move (v := .int _ _) rfl) ?_; refine Wo rfl (opv_neq rfl rfl) ?_; refine Wo_nil ?_; refine W_cond_ndec rfl (fun h15 => ?_) (fun h15 => ?_); contradiction
      refine W_skip ?_; refine W_seq ?_; rotate_left; exact WhAll_nil; exact WhAll_nil
    clear stop24
    clear heldS
    focus
      have szE31 := E31.size; have szE30 := E30.size; have szE29 := E29.size; have szE28 := E28.size; have szE27 := E27.size; have szE26 := E26.size; have szE24 := E24.size; have szE23 := E23.size; have szE22 := E22.size
      have szE21 := E21.size; have szE20 := E20.size; have szE19 := E19.size; have szE17 := E17.size; have szE16 := E16.size; have szE15 := E15.size; have szE14 := E14.size; have szE13 := E13.size; have szE12 := E12.size
      have szE11 := E11.size; have szE10 := E10.size; have szE9 := E9.size; have szE8 := E8.size; have szE7 := E7.size; have szE6 := E6.size; have szE5 := E5.size; have szE4 := E4.size; have szE3 := E3.size; have szE2 := E2.size
      have szE1 := E1.size; refine W_region rfl ?_; refine Wo (v := .agg _) rfl (opv_load2 Try.isAgg34 Try.sizeOf34 rfl (hB1.ext E31)) ?_
      refine Wo_call rfl (opc1 (a := .agg _) Try.call23 rfl) (toStream_ok _ _ _ _ _ ((Mono.mono (E26.trans E31) h1)) ((Mono.mono (E26.trans E31) h2)) (by assumption) (by assumption)) ?_; rintro _ w17 ⟨u8, q4, rfl, E32, hO8, hQ5, hd4⟩
      have icu8 := OwnedB.isC (Owned.toB hO8); have cpu8 := OwnedB.capOk (Owned.toB hO8); have icq4 := OwnedB.isC (Owned.toB hQ5); have cpq4 := OwnedB.capOk (Owned.toB hQ5); have hs16 := E32.size
      refine Wo_call rfl (opc1 (a := .agg _) Try.call41 rfl) (k2 _ _ _ ((Owned.read hO8)) ((Owned.read hQ5))) ?_; rintro _ w18 ⟨u9, rfl, E33, hO9⟩; have hs17 := E33.size; refine Wo rfl (opv_move (v := .tuple _) rfl) ?_
      refine Wo rfl (opv_extract (v := u9) rfl rfl) ?_; refine Wo rfl (opv_extract (v := .bool _) rfl rfl) ?_; refine Wo rfl (opv_assign (v := u9) rfl) ?_; refine Wo rfl (opv_assign (v := .bool _) rfl) ?_; refine Wo_nil ?_
      refine W_seq ?_; refine W_seq ?_; refine W_region rfl ?_; refine Wo rfl (opv_move (v := u9) rfl) ?_; refine Wo rfl (opv_move (v := u4) rfl) ?_
      refine Wo_call rfl (opc2 (a := u9) (b := u4) Try.call42 rfl rfl) (k5 _ _ _ ((Owned.read hO9)) ((Mono.mono ((E31.trans E32).trans E33) (OwnedB.read hO2)))) ?_; rintro _ w19 ⟨rfl, E34⟩; have hs18 := E34.size
      refine Wo rfl (opv_not rfl) ?_; refine Wo_split rfl (opv_move (v := .bool _) rfl) (fun h16 => ?_) (fun h16 => ?_); contradiction; refine Wo rfl (opv_move (v := .bool _) rfl) ?_; refine Wo rfl (opv_move (v := .bool _) rfl) ?_
      refine Wo rfl (opv_neq_bool Try.underlying4 rfl rfl) ?_; refine Wo rfl (opv_pick_f (v := .bool _) rfl rfl) ?_; refine Wo_nil ?_; refine W_cond_ndec rfl (fun h17 => ?_) (fun h17 => ?_); contradiction; refine W_skip ?_
      refine W_seq ?_; refine W_region rfl ?_; refine Wo rfl (opv_assign (v := .int _ _) rfl) ?_; refine Wo_nil ?_; refine W_seq ?_; refine W_region rfl ?_; refine Wo rfl (opv_move (v := u6) rfl) ?_
      refine Wo rfl (opv_move (v := .int _ _) rfl) ?_
      refine Wo_call rfl (opc2 (a := u6) (b := .int _ _) Try.call44 rfl rfl) (heldIntSS_ok _ _ _ _ ((Mono.mono (((E31.trans E32).trans E33).trans E34) (OwnedB.read hO7))) (by omega) (by omega) (by omega)) ?_; rintro _ w20 ⟨rfl, E35⟩
      have hs19 := E35.size; refine Wo rfl (opv_assign (v := .int _ _) rfl) ?_; refine Wo_nil ?_; refine W_seq ?_; refine W_seq ?_; refine W_region rfl ?_; refine Wo rfl (opv_move (v := .int _ _) rfl) ?_
      refine Wo rfl (opv_lss rfl rfl) ?_; refine Wo_nil ?_; refine W_cond_dec rfl (fun h18 => ?_) (fun h18 => ?_); contradiction; refine W_skip ?_; refine W_seq ?_; refine W_seq ?_; refine W_region rfl ?_
      refine Wo rfl (opv_move (v := .int _ _) rfl) ?_; refine Wo rfl (opv_move (v := .int _ _) rfl) ?_; refine Wo rfl (opv_neq rfl rfl) ?_; refine Wo_nil ?_; refine W_cond_ndec rfl (fun h19 => ?_) (fun h19 => ?_); contradiction
      refine W_skip ?_; refine W_seq ?_; refine W_region rfl ?_; refine Wo rfl (opv_assign (v := .bool _) rfl) ?_; refine Wo_nil ?_; refine W_ret ?_; exact ⟨rfl, (((((E26.trans E31).trans E32).trans E33).trans E34).trans E35)⟩
  · focus
      have szE2 := E2.size; have szE1 := E1.size; refine W_region rfl ?_; refine Wo (v := .agg _) rfl (opv_load2 Try.isAgg34 Try.sizeOf34 rfl (hB1.ext E2)) ?_
      refine Wo_call rfl (opc1 (a := .agg _) Try.call23 rfl) (toStream_ok _ _ _ _ _ ((Mono.mono (E1.trans E2) h1)) ((Mono.mono (E1.trans E2) h2)) (by assumption) (by assumption)) ?_; rintro _ w3 ⟨u3, q1, rfl, E3, hO1, hQ1, hd1⟩
      have icu3 := OwnedB.isC (Owned.toB hO1); have cpu3 := OwnedB.capOk (Owned.toB hO1); have icq1 := OwnedB.isC (Owned.toB hQ1); have cpq1 := OwnedB.capOk (Owned.toB hQ1); have hs3 := E3.size
      refine Wo_call rfl (opc1 (a := .agg _) Try.call40 rfl) (k1 _ _ _ ((Owned.read hO1)) ((Owned.read hQ1))) ?_; rintro _ w4 ⟨u4, rfl, E4, hO2⟩; have hs4 := E4.size; refine Wo rfl (opv_move (v := .tuple _) rfl) ?_
      refine Wo rfl (opv_extract (v := u4) rfl rfl) ?_; refine Wo rfl (opv_extract (v := .bool _) rfl rfl) ?_; refine Wo rfl (opv_assign (v := u4) rfl) ?_; refine Wo rfl (opv_assign (v := .bool _) rfl) ?_; refine Wo_nil ?_
      refine W_seq ?_; refine W_region rfl ?_; refine Wo (v := .agg _) rfl (opv_load2 Try.isAgg34 Try.sizeOf34 rfl (hB1.ext ((E2.trans E3).trans E4))) ?_
      refine Wo_call rfl (opc1 (a := .agg _) Try.call23 rfl) (toStream_ok _ _ _ _ _ ((Mono.mono (((E1.trans E2).trans E3).trans E4) h1)) ((Mono.mono (((E1.trans E2).trans E3).trans E4) h2)) (by assumption) (by assumption)) ?_
      rintro _ w5 ⟨u5, q2, rfl, E5, hO3, hQ2, hd2⟩; have icu5 := OwnedB.isC (Owned.toB hO3); have cpu5 := OwnedB.capOk (Owned.toB hO3); have icq2 := OwnedB.isC (Owned.toB hQ2); have cpq2 := OwnedB.capOk (Owned.toB hQ2)
      have hs5 := E5.size; refine Wo_alloc2 rfl flat25 ?_; rintro b2 w6 hb2 E6 hB2; have hlb2 := hB2.lt; have hs6 := E6.size
      refine Wo_st2 rfl Try.sizeOf25 rfl rfl (by first | rfl | assumption) (by first | rfl | assumption) hB2 (by omega) (((((E1.trans E2).trans E3).trans E4).trans E5).trans E6) ?_; rintro w7 E7 hB2 K1 hz1
      have E8 := ((((E2.trans E3).trans E4).trans E5).trans E6).wroteAt (((((E1.trans E2).trans E3).trans E4).trans E5).trans E6) E7 K1 hz1 (by omega); have szE8 := E8.size
      have E9 := (((E3.trans E4).trans E5).trans E6).wroteAt (((((E1.trans E2).trans E3).trans E4).trans E5).trans E6) E7 K1 hz1 (by omega); have szE9 := E9.size
      have E10 := ((E4.trans E5).trans E6).wroteAt (((((E1.trans E2).trans E3).trans E4).trans E5).trans E6) E7 K1 hz1 (by omega); have szE10 := E10.size
      have E11 := (E5.trans E6).wroteAt (((((E1.trans E2).trans E3).trans E4).trans E5).trans E6) E7 K1 hz1 (by omega); have szE11 := E11.size
      have E12 := E6.wroteAt (((((E1.trans E2).trans E3).trans E4).trans E5).trans E6) E7 K1 hz1 (by omega); have szE12 := E12.size; have hB1 := (hB1.ext ((((E2.trans E3).trans E4).trans E5).trans E6)).of_heap (K1 _ (by omega))
      have hO1 := (hO1.toB.ext ((E4.trans E5).trans E6)).wrote K1 (by omega); have hQ1 := (hQ1.toB.ext ((E4.trans E5).trans E6)).wrote K1 (by omega); have hO2 := (hO2.toB.ext (E5.trans E6)).wrote K1 (by omega)
      have hO3 := (hO3.toB.ext E6).wrote K1 (by omega); have hQ2 := (hQ2.toB.ext E6).wrote K1 (by omega); refine Wo_nil ?_; refine W_seq ?_; refine W_region rfl ?_
      refine Wo (v := .agg _) rfl (opv_load2 Try.isAgg25 Try.sizeOf25 rfl hB2) ?_; refine Wo_call rfl (opc1 (a := .agg _) Try.call41 rfl) (k2 _ _ _ ((OwnedB.read hO3)) ((OwnedB.read hQ2))) ?_; rintro _ w8 ⟨u6, rfl, E13, hO4⟩
      have hs7 := E13.size; refine Wo rfl (opv_move (v := .tuple _) rfl) ?_; refine Wo rfl (opv_extract (v := u6) rfl rfl) ?_; refine Wo rfl (opv_extract (v := .bool _) rfl rfl) ?_; refine Wo rfl (opv_assign (v := u6) rfl) ?_
      refine Wo rfl (opv_assign (v := .bool _) rfl) ?_; refine Wo_nil ?_; refine W_seq ?_; refine W_seq ?_; refine W_region rfl ?_; refine Wo rfl (opv_move (v := u6) rfl) ?_; refine Wo rfl (opv_move (v := u4) rfl) ?_
      refine Wo_call rfl (opc2 (a := u6) (b := u4) Try.call42 rfl rfl) (k5 _ _ _ ((Owned.read hO4)) ((Mono.mono E13 (OwnedB.read hO2)))) ?_; rintro _ w9 ⟨rfl, E14⟩; have hs8 := E14.size; refine Wo rfl (opv_not rfl) ?_
      refine Wo_split rfl (opv_move (v := .bool _) rfl) (fun h4 => ?_) (fun h4 => ?_); contradiction; refine Wo rfl (opv_move (v := .bool _) rfl) ?_; refine Wo rfl (opv_move (v := .bool _) rfl) ?_
      refine Wo rfl (opv_neq_bool Try.underlying4 rfl rfl) ?_; refine Wo rfl (opv_pick_f (v := .bool _) rfl rfl) ?_; refine Wo_nil ?_; refine W_cond_ndec rfl (fun h9 => ?_) (fun h9 => ?_); contradiction; refine W_skip ?_; refine W_seq ?_
      refine W_seq ?_
    clear stop10
    have heldS : w9 = w9 := rfl
    focus
      have szE14 := E14.size; have szE13 := E13.size; have szE12 := E12.size; have szE11 := E11.size; have szE10 := E10.size; have szE9 := E9.size; have szE8 := E8.size; have szE7 := E7.size; have szE6 := E6.size; have szE5 := E5.size
      have szE4 := E4.size; have szE3 := E3.size; have szE2 := E2.size; have szE1 := E1.size; refine W_held (fun w' => Ext w9 w') mixed rfl (by kernel_rfl) ?_; intro w10 E15 K2 hz2; have hs9 := E15.size
      refine Wh_take (v := .agg _) 0 rfl (by kernel_rfl) (by kernel_rfl) rfl (fun w' hw' => opv_load2 Try.isAgg25 Try.sizeOf25 rfl (hB2.ext ((E13.trans E14).trans hw'))) E15 ?_
      refine Wh_take (v := .agg _) 1 rfl (by kernel_rfl) (by kernel_rfl) rfl (fun w' hw' => opv_load2 Try.isAgg34 Try.sizeOf34 rfl (hB1.ext ((E13.trans E14).trans hw'))) E15 ?_; refine Wh_all (rs := [2]) (by kernel_rfl) rfl ?_
      refine WhAll_cons rfl ?_ ?_
      refine Wo_call rfl (opc1 (a := .agg _) Try.call23 rfl) (toStream_ok _ _ _ _ _ ((Mono.mono (((E7.trans E13).trans E14).trans E15) h1)) ((Mono.mono (((E7.trans E13).trans E14).trans E15) h2)) (by assumption) (by assumption)) ?_
      rintro _ w11 ⟨u7, q3, rfl, E16, hO5, hQ3, hd3⟩; have icu7 := OwnedB.isC (Owned.toB hO5); have cpu7 := OwnedB.capOk (Owned.toB hO5); have icq3 := OwnedB.isC (Owned.toB hQ3); have cpq3 := OwnedB.capOk (Owned.toB hQ3)
      have hs10 := E16.size; refine Wo_nil ?_; refine ⟨(E15.trans E16), ?_⟩; refine Wh_all (rs := [3]) (by kernel_rfl) rfl ?_; refine WhAll_cons rfl ?_ ?_
      refine Wo_call rfl (opc2 (a := .agg _) (b := .agg _) Try.call24 rfl rfl) (eq_same _ _ _ _ _ _ _ ((Mono.mono (((E13.trans E14).trans E15).trans E16) (OwnedB.read hO3))) ((Mono.mono (((E13.trans E14).trans E15).trans E16) (OwnedB.read hQ2))) ((Owned.read hO5)) ((Owned.read hQ3))) ?_
      rintro _ w12 ⟨rfl, E17⟩; have hs11 := E17.size; refine Wo_nil ?_; refine ⟨((E15.trans E16).trans E17), ?_⟩; refine Wh_take 4 rfl (by kernel_rfl) (by kernel_rfl) rfl (fun _ _ => opv_not rfl) ((E15.trans E16).trans E17) ?_
      refine Wh_done (by kernel_rfl) ?_; refine W_cond rfl (fun h10 => ?_) (fun h10 => ?_); contradiction; refine W_skip ?_; refine W_seq ?_; refine W_region rfl ?_; refine Wo rfl (opv_assign (v := .int _ _) rfl) ?_; refine Wo_nil ?_
      refine W_seq ?_; refine W_region rfl ?_; refine Wo (v := .agg _) rfl (opv_load2 Try.isAgg25 Try.sizeOf25 rfl (hB2.ext ((((E13.trans E14).trans E15).trans E16).trans E17))) ?_; refine Wo rfl (opv_move (v := .int _ _) rfl) ?_
      refine Wo_call rfl (opc2 (a := .agg _) (b := .int _ _) Try.call25 rfl rfl) (markStream_ok _ _ _ _ _ ((hO3.ext ((((E13.trans E14).trans E15).trans E16).trans E17))) ((hQ2.ext ((((E13.trans E14).trans E15).trans E16).trans E17))) (by assumption) (by assumption) (by omega) _ (by omega) (by assumption) (by assumption)) ?_
      rintro _ w13 ⟨rfl, E18, hO6, hQ4⟩; have hB2 := (hB2.ext ((((E13.trans E14).trans E15).trans E16).trans E17)).span E18 (by omega); have hB1 := (hB1.ext ((((E13.trans E14).trans E15).trans E16).trans E17)).span E18 (by omega)
      have hO1 := (hO1.ext ((((E13.trans E14).trans E15).trans E16).trans E17)).span E18 (by omega); have hQ1 := (hQ1.ext ((((E13.trans E14).trans E15).trans E16).trans E17)).span E18 (by omega)
      have hO2 := (hO2.ext ((((E13.trans E14).trans E15).trans E16).trans E17)).span E18 (by omega); have hO4 := (hO4.toB.ext (((E14.trans E15).trans E16).trans E17)).span E18 (by omega); have hO5 := (hO5.toB.ext E17).span E18 (by omega)
      have hQ3 := (hQ3.toB.ext E17).span E18 (by omega); have E19 := (((((E7.trans E13).trans E14).trans E15).trans E16).trans E17).span E18 (by omega)
      have E20 := ((((((E8.trans E13).trans E14).trans E15).trans E16).trans E17)).span E18 (by omega); have szE20 := E20.size; have E21 := ((((((E9.trans E13).trans E14).trans E15).trans E16).trans E17)).span E18 (by omega)
      have szE21 := E21.size; have E22 := ((((((E10.trans E13).trans E14).trans E15).trans E16).trans E17)).span E18 (by omega); have szE22 := E22.size
      have E23 := ((((((E11.trans E13).trans E14).trans E15).trans E16).trans E17)).span E18 (by omega); have szE23 := E23.size; have hs12 := E18.size; refine Wo rfl (opv_assign (v := .int _ _) rfl) ?_; refine Wo_nil ?_; refine W_seq ?_
      refine W_seq ?_; refine W_region rfl ?_; refine Wo rfl (opv_move (v := .int _ _) rfl) ?_; refine Wo rfl (opv_lss rfl rfl) ?_; refine Wo_split_dec rfl (opv_move (v := .bool _) rfl) (fun h11 => ?_) (fun h11 => ?_); contradiction
      refine Wo rfl (opv_move (v := u6) rfl) ?_; refine Wo rfl (opv_move (v := u4) rfl) ?_; refine Wo_call rfl (opc2 (a := u6) (b := u4) Try.call42 rfl rfl) (k5 _ _ _ ((OwnedB.read hO4)) ((OwnedB.read hO2))) ?_; rintro _ w14 ⟨rfl, E24⟩
      have hs13 := E24.size; refine Wo rfl (opv_not rfl) ?_; refine Wo rfl (opv_pick_f (v := .bool _) rfl rfl) ?_; refine Wo_split rfl (opv_move (v := .bool _) rfl) (fun h12 => ?_) (fun h12 => ?_); contradiction
      refine Wo rfl (opv_move (v := .bool _) rfl) ?_; refine Wo rfl (opv_move (v := .bool _) rfl) ?_; refine Wo rfl (opv_neq_bool Try.underlying4 rfl rfl) ?_; refine Wo rfl (opv_pick_f (v := .bool _) rfl rfl) ?_; refine Wo_nil ?_
      refine W_cond_ndec rfl (fun h13 => ?_) (fun h13 => ?_); contradiction; refine W_skip ?_; refine W_seq ?_; refine W_region rfl ?_; refine Wo rfl (opv_assign (v := .int _ _) rfl) ?_; refine Wo_nil ?_; refine W_seq ?_
      refine W_region rfl ?_; refine Wo rfl (opv_move (v := u6) rfl) ?_; refine Wo rfl (opv_move (v := .int _ _) rfl) ?_
      refine Wo_call rfl (opc2 (a := u6) (b := .int _ _) Try.call43 rfl rfl) (markIntSS_ok _ _ _ ((hO4.ext E24)) _ (by omega) (by omega) (by omega)) ?_; rintro _ w15 ⟨rfl, E25, hO7⟩; have hO6 := (hO6.ext E24).span E25 (by omega)
      have hQ4 := (hQ4.ext E24).span E25 (by omega); have hB2 := (hB2.ext E24).span E25 (by omega); have hB1 := (hB1.ext E24).span E25 (by omega); have hO1 := (hO1.ext E24).span E25 (by omega)
      have hQ1 := (hQ1.ext E24).span E25 (by omega); have hO2 := (hO2.ext E24).span E25 (by omega); have hO5 := (hO5.ext E24).span E25 (by omega); have hQ3 := (hQ3.ext E24).span E25 (by omega)
      have E26 := (E19.trans E24).span E25 (by omega); have E27 := ((E20.trans E24)).span E25 (by omega); have szE27 := E27.size; have E28 := ((E21.trans E24)).span E25 (by omega); have szE28 := E28.size
      have E29 := ((E22.trans E24)).span E25 (by omega); have szE29 := E29.size; have E30 := ((E23.trans E24)).span E25 (by omega); have szE30 := E30.size; have hs14 := E25.size; refine Wo rfl (opv_assign (v := .int _ _) rfl) ?_
      refine Wo_nil ?_; refine W_seq ?_; refine W_region rfl ?_; refine Wo rfl (opv_assign (v := .int _ _) rfl) ?_; refine Wo_nil ?_; refine W_seq ?_; refine W_region rfl ?_; refine Wo rfl (opv_move (v := u6) rfl) ?_
      refine Wo rfl (opv_move (v := .int _ _) rfl) ?_; refine Wo_call rfl (opc2 (a := u6) (b := .int _ _) Try.call44 rfl rfl) (heldIntSS_ok _ _ _ _ ((OwnedB.read hO7)) (by omega) (by omega) (by omega)) ?_; rintro _ w16 ⟨rfl, E31⟩
      have hs15 := E31.size; refine Wo rfl (opv_assign (v := .int _ _) rfl) ?_; refine Wo_nil ?_; refine W_seq ?_; refine W_seq ?_; refine W_region rfl ?_; refine Wo rfl (opv_move (v := .int _ _) rfl) ?_
      refine Wo rfl (opv_lss rfl rfl) ?_; refine Wo_nil ?_; refine W_cond_dec rfl (fun h14 => ?_) (fun h14 => ?_); contradiction; refine W_skip ?_; refine W_seq ?_; refine W_seq ?_; refine W_region rfl ?_
      refine Wo rfl (opv_move (v := .int _ _) rfl) ?_; refine Wo rfl (opv_move (v := .int _ _) rfl) ?_; refine Wo rfl (opv_neq rfl rfl) ?_; refine Wo_nil ?_; refine W_cond_ndec rfl (fun h15 => ?_) (fun h15 => ?_); contradiction
      refine W_skip ?_; refine W_seq ?_; rotate_left; exact WhAll_nil; exact WhAll_nil
    clear stop24
    clear heldS
    focus
      have szE31 := E31.size; have szE30 := E30.size; have szE29 := E29.size; have szE28 := E28.size; have szE27 := E27.size; have szE26 := E26.size; have szE24 := E24.size; have szE23 := E23.size; have szE22 := E22.size
      have szE21 := E21.size; have szE20 := E20.size; have szE19 := E19.size; have szE17 := E17.size; have szE16 := E16.size; have szE15 := E15.size; have szE14 := E14.size; have szE13 := E13.size; have szE12 := E12.size
      have szE11 := E11.size; have szE10 := E10.size; have szE9 := E9.size; have szE8 := E8.size; have szE7 := E7.size; have szE6 := E6.size; have szE5 := E5.size; have szE4 := E4.size; have szE3 := E3.size; have szE2 := E2.size
      have szE1 := E1.size; refine W_region rfl ?_; refine Wo (v := .agg _) rfl (opv_load2 Try.isAgg34 Try.sizeOf34 rfl (hB1.ext E31)) ?_
      refine Wo_call rfl (opc1 (a := .agg _) Try.call23 rfl) (toStream_ok _ _ _ _ _ ((Mono.mono (E26.trans E31) h1)) ((Mono.mono (E26.trans E31) h2)) (by assumption) (by assumption)) ?_; rintro _ w17 ⟨u8, q4, rfl, E32, hO8, hQ5, hd4⟩
      have icu8 := OwnedB.isC (Owned.toB hO8); have cpu8 := OwnedB.capOk (Owned.toB hO8); have icq4 := OwnedB.isC (Owned.toB hQ5); have cpq4 := OwnedB.capOk (Owned.toB hQ5); have hs16 := E32.size
      refine Wo_call rfl (opc1 (a := .agg _) Try.call41 rfl) (k2 _ _ _ ((Owned.read hO8)) ((Owned.read hQ5))) ?_; rintro _ w18 ⟨u9, rfl, E33, hO9⟩; have hs17 := E33.size; refine Wo rfl (opv_move (v := .tuple _) rfl) ?_
      refine Wo rfl (opv_extract (v := u9) rfl rfl) ?_; refine Wo rfl (opv_extract (v := .bool _) rfl rfl) ?_; refine Wo rfl (opv_assign (v := u9) rfl) ?_; refine Wo rfl (opv_assign (v := .bool _) rfl) ?_; refine Wo_nil ?_
      refine W_seq ?_; refine W_seq ?_; refine W_region rfl ?_; refine Wo rfl (opv_move (v := u9) rfl) ?_; refine Wo rfl (opv_move (v := u4) rfl) ?_
      refine Wo_call rfl (opc2 (a := u9) (b := u4) Try.call42 rfl rfl) (k5 _ _ _ ((Owned.read hO9)) ((Mono.mono ((E31.trans E32).trans E33) (OwnedB.read hO2)))) ?_; rintro _ w19 ⟨rfl, E34⟩; have hs18 := E34.size
      refine Wo rfl (opv_not rfl) ?_; refine Wo_split rfl (opv_move (v := .bool _) rfl) (fun h16 => ?_) (fun h16 => ?_); contradiction; refine Wo rfl (opv_move (v := .bool _) rfl) ?_; refine Wo rfl (opv_move (v := .bool _) rfl) ?_
      refine Wo rfl (opv_neq_bool Try.underlying4 rfl rfl) ?_; refine Wo rfl (opv_pick_f (v := .bool _) rfl rfl) ?_; refine Wo_nil ?_; refine W_cond_ndec rfl (fun h17 => ?_) (fun h17 => ?_); contradiction; refine W_skip ?_
      refine W_seq ?_; refine W_region rfl ?_; refine Wo rfl (opv_assign (v := .int _ _) rfl) ?_; refine Wo_nil ?_; refine W_seq ?_; refine W_region rfl ?_; refine Wo rfl (opv_move (v := u6) rfl) ?_
      refine Wo rfl (opv_move (v := .int _ _) rfl) ?_
      refine Wo_call rfl (opc2 (a := u6) (b := .int _ _) Try.call44 rfl rfl) (heldIntSS_ok _ _ _ _ ((Mono.mono (((E31.trans E32).trans E33).trans E34) (OwnedB.read hO7))) (by omega) (by omega) (by omega)) ?_; rintro _ w20 ⟨rfl, E35⟩
      have hs19 := E35.size; refine Wo rfl (opv_assign (v := .int _ _) rfl) ?_; refine Wo_nil ?_; refine W_seq ?_; refine W_seq ?_; refine W_region rfl ?_; refine Wo rfl (opv_move (v := .int _ _) rfl) ?_
      refine Wo rfl (opv_lss rfl rfl) ?_; refine Wo_nil ?_; refine W_cond_dec rfl (fun h18 => ?_) (fun h18 => ?_); contradiction; refine W_skip ?_; refine W_seq ?_; refine W_seq ?_; refine W_region rfl ?_
      refine Wo rfl (opv_move (v := .int _ _) rfl) ?_; refine Wo rfl (opv_move (v := .int _ _) rfl) ?_; refine Wo rfl (opv_neq rfl rfl) ?_; refine Wo_nil ?_; refine W_cond_ndec rfl (fun h19 => ?_) (fun h19 => ?_); contradiction
      refine W_skip ?_; refine W_seq ?_; refine W_region rfl ?_; refine Wo rfl (opv_assign (v := .bool _) rfl) ?_; refine Wo_nil ?_; refine W_ret ?_; exact ⟨rfl, (((((E26.trans E31).trans E32).trans E33).trans E34).trans E35)⟩

end Go.Proofs.Ytlalfmialbolhaa
