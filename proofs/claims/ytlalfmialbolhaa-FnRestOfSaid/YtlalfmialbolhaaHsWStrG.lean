/- Walks: the law of a bit put ahead. -/
import Derived.Test.YtlalfmialbolhaaHsWStrF
import Derived.Test.YtlalfmialbolhaaHsWStrQ
import Derived.Test.YtlalfmialbolhaaHsWAl
import Derived.Test.YtlalfmialbolhaaHsBt
namespace Go.Proofs.Ytlalfmialbolhaa
open Go.Hs
set_option maxRecDepth 10000
set_option maxHeartbeats 4000000
set_option linter.unusedVariables false
set_option linter.unusedSimpArgs false
theorem shf_cns {z : Int} {f : Nat → Int} : shf (cns z f) 1 = f := by
  funext k
  unfold shf cns
  rw [if_neg (by omega)]
  rfl
theorem paOk_stm {z : Int} {A B : List Int} (h : paOk z A B) : Stm (shL (cns z (bat A B))) (shR (cns z (bat A B))) ∧ bat (shL (cns z (bat A B))) (shR (cns z (bat A B))) = cns z (bat A B) := by
  obtain ⟨h1, h2, h3⟩ := h
  have hst := h2.short_stm
  have hS : Stm ([z] ++ shL (bat A B)) (shR (bat A B)) := ⟨fun x hx => (List.mem_append.1 hx).elim (fun h => by simp at h; omega) (fun h => hst.1 x h), hst.2.1, hst.2.2.1, by have := hst.2.2.2; simp; omega⟩
  have e : bat ([z] ++ shL (bat A B)) (shR (bat A B)) = cns z (bat A B) := bat_cns h2.sh.1
  have h4 := hS.short_stm
  have h5 := hS.short_bat
  rw [e] at h4 h5
  exact ⟨h4, h5⟩

theorem FnPutAhead_walk (w : World) (v : Value) (xs : List UInt8) (h : Bytes w v xs) (hc : CapOk v) : Does Try.prog 6 [v] w (Ret w (.bool true)) := by
  have hle := h.le
  refine fn_of_W1 Try.func6 rfl Try.results6 Try.ntmps6 rfl ?_
  have stop4 : True := trivial
  focus
    refine W_seq ?_; refine W_region rfl ?_; refine Wo rfl (opv_assign (v := .bool _) rfl) ?_; refine Wo_nil ?_; refine W_seq ?_; refine W_seq ?_; refine W_region rfl ?_; refine Wo rfl (opv_move (v := v) rfl) ?_
    refine Wo rfl (opv_len Try.underlying22 rfl h) ?_; refine Wo rfl (opv_gtr rfl rfl) ?_; refine Wo_nil ?_; refine W_cond_dec rfl (fun h1 => ?_) (fun h1 => ?_); refine W_seq ?_; refine W_region rfl ?_
    refine Wo rfl (opv_assign (v := .bool _) rfl) ?_; refine Wo_nil ?_; refine W_ret ?_; exact ⟨rfl, (Ext.refl _)⟩; refine W_skip ?_; refine W_seq ?_; refine W_region rfl ?_; refine Wo rfl (opv_move (v := v) rfl) ?_
    refine Wo_call rfl (opc1 (a := v) Try.call29 rfl) (DrawPutAhead_ok _ _ _ (h) (by assumption)) ?_; rintro _ w1 ⟨z1, u1, q1, x1, y1, rfl, E1, hO1, hQ1, hy1⟩; have icu1 := OwnedB.isC (Owned.toB hO1)
    have cpu1 := OwnedB.capOk (Owned.toB hO1); have icq1 := OwnedB.isC (Owned.toB hQ1); have cpq1 := OwnedB.capOk (Owned.toB hQ1); have hs1 := E1.size; refine Wo rfl (opv_move (v := .tuple _) rfl) ?_
    refine Wo rfl (opv_extract (v := .int _ _) rfl rfl) ?_; refine Wo rfl (opv_extract (v := .agg _) rfl rfl) ?_; refine Wo_alloc2 rfl flat25 ?_; rintro b1 w2 hb1 E2 hB1; have hlb1 := hB1.lt; have hs2 := E2.size
    refine Wo rfl (opv_assign (v := .int _ _) rfl) ?_; refine Wo_st2 rfl Try.sizeOf25 rfl rfl (by first | rfl | assumption) (by first | rfl | assumption) hB1 (by omega) (E1.trans E2) ?_; rintro w3 E3 hB1 K1 hz1
    have E4 := E2.wroteAt (E1.trans E2) E3 K1 hz1 (by omega); have szE4 := E4.size; have hO1 := (hO1.toB.ext E2).wrote K1 (by omega); have hQ1 := (hQ1.toB.ext E2).wrote K1 (by omega); refine Wo_nil ?_; refine W_seq ?_
  clear stop4
  obtain ⟨hA, hB⟩ := hy1
  have r1 := hO1.read
  have r2 := hQ1.read
  clear hO1 hQ1
  by_cases ho : paOk z1 x1 y1
  · have eP : paV z1 x1 y1 = (shL (cns z1 (bat x1 y1)), shR (cns z1 (bat x1 y1)), true) := if_pos ho
    have k1 : ∀ (w : World) (u1 u2 : Value), Ints w u1 x1 → Ints w u2 y1 → Does Try.prog 30 [.int .i64 z1, .agg #[u1, u2]] w (RetS2b w 3 (shL (cns z1 (bat x1 y1))) (shR (cns z1 (bat x1 y1))) true) := fun w u1 u2 h1 h2 => by
      have := impl_PutAhead_ok w u1 u2 z1 x1 y1 h1 h2 (by omega) (by omega)
      rw [eP] at this; exact this
    have k2 : ∀ (w : World) (u1 u2 : Value), Ints w u1 x1 → Ints w u2 y1 → Does Try.prog 31 [.int .i64 z1, .agg #[u1, u2]] w (RetS2b w 3 (shL (cns z1 (bat x1 y1))) (shR (cns z1 (bat x1 y1))) true) := fun w u1 u2 h1 h2 => by
      have := spec_PutAhead_ok w u1 u2 z1 x1 y1 h1 h2 (by omega) (by omega)
      rw [eP] at this; exact this
    obtain ⟨hS, hb⟩ := paOk_stm ho
    have hS2 := hS.2.2
    have k3 : ∀ (w : World) (u1 u2 : Value), Ints w u1 (shL (cns z1 (bat x1 y1))) → Ints w u2 (shR (cns z1 (bat x1 y1))) → Does Try.prog 33 [.agg #[u1, u2], .int .i64 0] w (Ret w (.int .i64 z1)) := fun w u1 u2 h1 h2 => by
      have := impl_BitAt_ok w u1 u2 _ _ h1 h2 (by omega) (by omega) 0
      rw [show batV (shL (cns z1 (bat x1 y1))) (shR (cns z1 (bat x1 y1))) 0 = z1 by unfold batV; rw [if_pos ⟨hS, by omega, by omega⟩, hb]; rfl] at this
      exact this
    have k4 : ∀ (w : World) (u1 u2 : Value), Ints w u1 (shL (cns z1 (bat x1 y1))) → Ints w u2 (shR (cns z1 (bat x1 y1))) → Does Try.prog 20 [.agg #[u1, u2], .int .i64 1] w (RetS2 w 3 (shL (bat x1 y1)) (shR (bat x1 y1))) := fun w u1 u2 h1 h2 => by
      have := impl_RestOf_ok w u1 u2 _ _ h1 h2 (by omega) (by omega) 1
      rw [show rstV (shL (cns z1 (bat x1 y1))) (shR (cns z1 (bat x1 y1))) 1 = (shL (bat x1 y1), shR (bat x1 y1)) by unfold rstV; rw [if_pos ⟨hS, by omega, by omega⟩, hb, show (1 : Int).toNat = 1 from rfl, shf_cns]] at this
      exact this
    have k5 : ∀ (w : World) (u1 u2 : Value), Ints w u1 x1 → Ints w u2 y1 → Does Try.prog 19 [.agg #[u1, u2]] w (RetS2 w 3 (shL (bat x1 y1)) (shR (bat x1 y1))) := fun w u1 u2 h1 h2 => by
      have := impl_ShortOf_ok w u1 u2 _ _ h1 h2 (by omega) (by omega)
      rw [show shV x1 y1 = (shL (bat x1 y1), shR (bat x1 y1)) from if_pos ho.2.1] at this
      exact this
    clear hS hb hS2 eP ho
    generalize shL (cns z1 (bat x1 y1)) = X at *
    generalize shR (cns z1 (bat x1 y1)) = Y at *
    generalize shL (bat x1 y1) = Z at *
    generalize shR (bat x1 y1) = T at *
    have stop10 : True := trivial
    focus
      have szE4 := E4.size; have szE3 := E3.size; have szE2 := E2.size; have szE1 := E1.size; refine W_region rfl ?_; refine Wo rfl (opv_move (v := .int _ _) rfl) ?_
      refine Wo (v := .agg _) rfl (opv_load2 Try.isAgg25 Try.sizeOf25 rfl hB1) ?_; refine Wo_call rfl (opc2 (a := .int _ _) (b := .agg _) Try.call30 rfl rfl) (k1 _ _ _ (r1) (r2)) ?_; rintro _ w4 ⟨u2, q2, rfl, E5, hO2, hQ2, hd1⟩
      have icu2 := OwnedB.isC (Owned.toB hO2); have cpu2 := OwnedB.capOk (Owned.toB hO2); have icq2 := OwnedB.isC (Owned.toB hQ2); have cpq2 := OwnedB.capOk (Owned.toB hQ2); have hs3 := E5.size
      refine Wo rfl (opv_move (v := .tuple _) rfl) ?_; refine Wo rfl (opv_extract (v := .agg _) rfl rfl) ?_; refine Wo rfl (opv_extract (v := .bool _) rfl rfl) ?_; refine Wo_alloc2 rfl flat25 ?_; rintro b2 w5 hb2 E6 hB2
      have hlb2 := hB2.lt; have hs4 := E6.size; refine Wo_st2 rfl Try.sizeOf25 rfl rfl (by first | rfl | assumption) (by first | rfl | assumption) hB2 (by omega) ((E3.trans E5).trans E6) ?_; rintro w6 E7 hB2 K2 hz2
      have E8 := ((E4.trans E5).trans E6).wroteAt ((E3.trans E5).trans E6) E7 K2 hz2 (by omega); have szE8 := E8.size; have E9 := (E5.trans E6).wroteAt ((E3.trans E5).trans E6) E7 K2 hz2 (by omega); have szE9 := E9.size
      have E10 := E6.wroteAt ((E3.trans E5).trans E6) E7 K2 hz2 (by omega); have szE10 := E10.size; have hO1 := (hO1.toB.ext ((E4.trans E5).trans E6)).wrote K2 (by omega)
      have hQ1 := (hQ1.toB.ext ((E4.trans E5).trans E6)).wrote K2 (by omega); have hB1 := (hB1.ext (E5.trans E6)).of_heap (K2 _ (by omega)); have hO2 := (hO2.toB.ext E6).wrote K2 (by omega)
      have hQ2 := (hQ2.toB.ext E6).wrote K2 (by omega); refine Wo rfl (opv_assign (v := .bool _) rfl) ?_; refine Wo_nil ?_; refine W_seq ?_; refine W_region rfl ?_; refine Wo rfl (opv_move (v := .int _ _) rfl) ?_
      refine Wo (v := .agg _) rfl (opv_load2 Try.isAgg25 Try.sizeOf25 rfl hB1) ?_; refine Wo_call rfl (opc2 (a := .int _ _) (b := .agg _) Try.call31 rfl rfl) (k2 _ _ _ ((OwnedB.read hO1)) ((OwnedB.read hQ1))) ?_
      rintro _ w7 ⟨u3, q3, rfl, E11, hO3, hQ3, hd2⟩; have icu3 := OwnedB.isC (Owned.toB hO3); have cpu3 := OwnedB.capOk (Owned.toB hO3); have icq3 := OwnedB.isC (Owned.toB hQ3); have cpq3 := OwnedB.capOk (Owned.toB hQ3)
      have hs5 := E11.size; refine Wo rfl (opv_move (v := .tuple _) rfl) ?_; refine Wo rfl (opv_extract (v := .agg _) rfl rfl) ?_; refine Wo rfl (opv_extract (v := .bool _) rfl rfl) ?_; refine Wo_alloc2 rfl flat25 ?_
      rintro b3 w8 hb3 E12 hB3; have hlb3 := hB3.lt; have hs6 := E12.size; refine Wo_st2 rfl Try.sizeOf25 rfl rfl (by first | rfl | assumption) (by first | rfl | assumption) hB3 (by omega) ((E7.trans E11).trans E12) ?_
      rintro w9 E13 hB3 K3 hz3; have E14 := ((E8.trans E11).trans E12).wroteAt ((E7.trans E11).trans E12) E13 K3 hz3 (by omega); have szE14 := E14.size
      have E15 := ((E9.trans E11).trans E12).wroteAt ((E7.trans E11).trans E12) E13 K3 hz3 (by omega); have szE15 := E15.size; have E16 := ((E10.trans E11).trans E12).wroteAt ((E7.trans E11).trans E12) E13 K3 hz3 (by omega)
      have szE16 := E16.size; have E17 := (E11.trans E12).wroteAt ((E7.trans E11).trans E12) E13 K3 hz3 (by omega); have szE17 := E17.size; have E18 := E12.wroteAt ((E7.trans E11).trans E12) E13 K3 hz3 (by omega); have szE18 := E18.size
      have hB2 := (hB2.ext (E11.trans E12)).of_heap (K3 _ (by omega)); have hO1 := (hO1.ext (E11.trans E12)).wrote K3 (by omega); have hQ1 := (hQ1.ext (E11.trans E12)).wrote K3 (by omega)
      have hB1 := (hB1.ext (E11.trans E12)).of_heap (K3 _ (by omega)); have hO2 := (hO2.ext (E11.trans E12)).wrote K3 (by omega); have hQ2 := (hQ2.ext (E11.trans E12)).wrote K3 (by omega); have hO3 := (hO3.toB.ext E12).wrote K3 (by omega)
      have hQ3 := (hQ3.toB.ext E12).wrote K3 (by omega); refine Wo rfl (opv_assign (v := .bool _) rfl) ?_; refine Wo_nil ?_; refine W_seq ?_; refine W_seq ?_; refine W_region rfl ?_
      refine Wo (v := .agg _) rfl (opv_load2 Try.isAgg25 Try.sizeOf25 rfl hB2) ?_; refine Wo (v := .agg _) rfl (opv_load2 Try.isAgg25 Try.sizeOf25 rfl hB3) ?_
      refine Wo_call rfl (opc2 (a := .agg _) (b := .agg _) Try.call18 rfl rfl) (same_str _ _ _ _ _ _ _ ((OwnedB.read hO2)) ((OwnedB.read hQ2)) ((OwnedB.read hO3)) ((OwnedB.read hQ3))) ?_; rintro _ w10 ⟨rfl, E19⟩; have hs7 := E19.size
      refine Wo rfl (opv_not rfl) ?_; refine Wo_split rfl (opv_move (v := .bool _) rfl) (fun h2 => ?_) (fun h2 => ?_); contradiction; refine Wo rfl (opv_move (v := .bool _) rfl) ?_; refine Wo rfl (opv_move (v := .bool _) rfl) ?_
      refine Wo rfl (opv_neq_bool Try.underlying4 rfl rfl) ?_; refine Wo rfl (opv_pick_f (v := .bool _) rfl rfl) ?_; refine Wo_nil ?_; refine W_cond_ndec rfl (fun h3 => ?_) (fun h3 => ?_); contradiction; refine W_skip ?_; refine W_seq ?_
      refine W_seq ?_; refine W_region rfl ?_; refine Wo rfl (opv_move (v := .bool _) rfl) ?_; refine Wo rfl (opv_not rfl) ?_; refine Wo_nil ?_; refine W_cond rfl (fun h4 => ?_) (fun h4 => ?_); contradiction; refine W_skip ?_
      refine W_seq ?_
    clear stop10
    have heldS : w10 = w10 := rfl
    focus
      have szE19 := E19.size; have szE18 := E18.size; have szE17 := E17.size; have szE16 := E16.size; have szE15 := E15.size; have szE14 := E14.size; have szE13 := E13.size; have szE12 := E12.size; have szE11 := E11.size
      have szE10 := E10.size; have szE9 := E9.size; have szE8 := E8.size; have szE7 := E7.size; have szE6 := E6.size; have szE5 := E5.size; have szE4 := E4.size; have szE3 := E3.size; have szE2 := E2.size; have szE1 := E1.size
      refine W_held (fun w' => Ext w10 w') mixed rfl (by kernel_rfl) ?_; intro w11 E20 K4 hz4; have hs8 := E20.size
      refine Wh_take (v := .agg _) 0 rfl (by kernel_rfl) (by kernel_rfl) rfl (fun w' hw' => opv_load2 Try.isAgg25 Try.sizeOf25 rfl (hB2.ext (E19.trans hw'))) E20 ?_
      refine Wh_take 2 rfl (by kernel_rfl) (by kernel_rfl) rfl (fun _ _ => opv_move (v := .int _ _) rfl) E20 ?_; refine Wh_all (rs := [1]) (by kernel_rfl) rfl ?_; refine WhAll_cons rfl ?_ ?_
      refine Wo_call rfl (opc2 (a := .agg _) (b := .int _ _) Try.call33 rfl rfl) (k3 _ _ _ ((Mono.mono (E19.trans E20) (OwnedB.read hO2))) ((Mono.mono (E19.trans E20) (OwnedB.read hQ2)))) ?_; rintro _ w12 ⟨rfl, E21⟩; have hs9 := E21.size
      refine Wo_nil ?_; refine ⟨(E20.trans E21), ?_⟩; refine Wh_take 3 rfl (by kernel_rfl) (by kernel_rfl) rfl (fun _ _ => opv_bt (opv_eql rfl rfl) (by first | exact decide_eq_true (by omega) | (simp <;> omega))) (E20.trans E21) ?_
      refine Wh_take 4 rfl (by kernel_rfl) (by kernel_rfl) rfl (fun _ _ => opv_move (v := .bool _) rfl) (E20.trans E21) ?_
      refine Wh_take (v := .agg _) 5 rfl (by kernel_rfl) (by kernel_rfl) rfl (fun w' hw' => opv_load2 Try.isAgg25 Try.sizeOf25 rfl (hB2.ext (E19.trans hw'))) (E20.trans E21) ?_
      refine Wh_take (v := .agg _) 7 rfl (by kernel_rfl) (by kernel_rfl) rfl (fun w' hw' => opv_load2 Try.isAgg25 Try.sizeOf25 rfl (hB1.ext (E19.trans hw'))) (E20.trans E21) ?_; refine Wh_all (rs := [6]) (by kernel_rfl) rfl ?_
      refine WhAll_cons rfl ?_ ?_
      refine Wo_call rfl (opc2 (a := .agg _) (b := .int _ _) Try.call20 rfl rfl) (k4 _ _ _ ((Mono.mono ((E19.trans E20).trans E21) (OwnedB.read hO2))) ((Mono.mono ((E19.trans E20).trans E21) (OwnedB.read hQ2)))) ?_
      rintro _ w13 ⟨u4, q4, rfl, E22, hO4, hQ4, hd3⟩; have icu4 := OwnedB.isC (Owned.toB hO4); have cpu4 := OwnedB.capOk (Owned.toB hO4); have icq4 := OwnedB.isC (Owned.toB hQ4); have cpq4 := OwnedB.capOk (Owned.toB hQ4)
      have hs10 := E22.size; refine Wo_nil ?_; refine ⟨((E20.trans E21).trans E22), ?_⟩; refine Wh_all (rs := [8]) (by kernel_rfl) rfl ?_; refine WhAll_cons rfl ?_ ?_
      refine Wo_call rfl (opc1 (a := .agg _) Try.call19 rfl) (k5 _ _ _ ((Mono.mono (((E19.trans E20).trans E21).trans E22) (OwnedB.read hO1))) ((Mono.mono (((E19.trans E20).trans E21).trans E22) (OwnedB.read hQ1)))) ?_
      rintro _ w14 ⟨u5, q5, rfl, E23, hO5, hQ5, hd4⟩; have icu5 := OwnedB.isC (Owned.toB hO5); have cpu5 := OwnedB.capOk (Owned.toB hO5); have icq5 := OwnedB.isC (Owned.toB hQ5); have cpq5 := OwnedB.capOk (Owned.toB hQ5)
      have hs11 := E23.size; refine Wo_nil ?_; refine ⟨(((E20.trans E21).trans E22).trans E23), ?_⟩; refine Wh_all (rs := [9]) (by kernel_rfl) rfl ?_; refine WhAll_cons rfl ?_ ?_
      refine Wo_call rfl (opc2 (a := .agg _) (b := .agg _) Try.call18 rfl rfl) (same_str _ _ _ _ _ _ _ ((Mono.mono E23 (Owned.read hO4))) ((Mono.mono E23 (Owned.read hQ4))) ((Owned.read hO5)) ((Owned.read hQ5))) ?_
      rintro _ w15 ⟨rfl, E24⟩; have hs12 := E24.size; refine Wo_nil ?_; refine ⟨((((E20.trans E21).trans E22).trans E23).trans E24), ?_⟩
      refine Wh_take 10 rfl (by kernel_rfl) (by kernel_rfl) rfl (fun _ _ => opv_pick_t (v := .bool _) rfl rfl) ((((E20.trans E21).trans E22).trans E23).trans E24) ?_
      refine Wh_take 11 rfl (by kernel_rfl) (by kernel_rfl) rfl (fun _ _ => opv_assign (v := .bool _) rfl) ((((E20.trans E21).trans E22).trans E23).trans E24) ?_; refine Wh_done (by kernel_rfl) ?_; refine W_ret ?_
      exact ⟨rfl, ((((((E13.trans E19).trans E20).trans E21).trans E22).trans E23).trans E24)⟩; exact WhAll_nil; exact WhAll_nil; exact WhAll_nil; exact WhAll_nil
  · have eP : paV z1 x1 y1 = ([], [], false) := if_neg ho
    have k1 : ∀ (w : World) (u1 u2 : Value), Ints w u1 x1 → Ints w u2 y1 → Does Try.prog 30 [.int .i64 z1, .agg #[u1, u2]] w (RetS2b w 3 [] [] false) := fun w u1 u2 h1 h2 => by
      have := impl_PutAhead_ok w u1 u2 z1 x1 y1 h1 h2 (by omega) (by omega)
      rw [eP] at this; exact this
    have k2 : ∀ (w : World) (u1 u2 : Value), Ints w u1 x1 → Ints w u2 y1 → Does Try.prog 31 [.int .i64 z1, .agg #[u1, u2]] w (RetS2b w 3 [] [] false) := fun w u1 u2 h1 h2 => by
      have := spec_PutAhead_ok w u1 u2 z1 x1 y1 h1 h2 (by omega) (by omega)
      rw [eP] at this; exact this
    have k3 : ∀ (w : World) (u1 u2 : Value), Ints w u1 [] → Ints w u2 [] → Does Try.prog 32 [.agg #[u1, u2]] w (Ret w (.bool true)) := fun w u1 u2 h1 h2 => noStream_ok w u1 u2 [] [] h1 h2
    clear eP ho
    focus
      have szE4 := E4.size; have szE3 := E3.size; have szE2 := E2.size; have szE1 := E1.size; refine W_region rfl ?_; refine Wo rfl (opv_move (v := .int _ _) rfl) ?_
      refine Wo (v := .agg _) rfl (opv_load2 Try.isAgg25 Try.sizeOf25 rfl hB1) ?_; refine Wo_call rfl (opc2 (a := .int _ _) (b := .agg _) Try.call30 rfl rfl) (k1 _ _ _ (r1) (r2)) ?_; rintro _ w4 ⟨u2, q2, rfl, E5, hO2, hQ2, hd1⟩
      have icu2 := OwnedB.isC (Owned.toB hO2); have cpu2 := OwnedB.capOk (Owned.toB hO2); have icq2 := OwnedB.isC (Owned.toB hQ2); have cpq2 := OwnedB.capOk (Owned.toB hQ2); have hs3 := E5.size
      refine Wo rfl (opv_move (v := .tuple _) rfl) ?_; refine Wo rfl (opv_extract (v := .agg _) rfl rfl) ?_; refine Wo rfl (opv_extract (v := .bool _) rfl rfl) ?_; refine Wo_alloc2 rfl flat25 ?_; rintro b2 w5 hb2 E6 hB2
      have hlb2 := hB2.lt; have hs4 := E6.size; refine Wo_st2 rfl Try.sizeOf25 rfl rfl (by first | rfl | assumption) (by first | rfl | assumption) hB2 (by omega) ((E3.trans E5).trans E6) ?_; rintro w6 E7 hB2 K2 hz2
      have E8 := ((E4.trans E5).trans E6).wroteAt ((E3.trans E5).trans E6) E7 K2 hz2 (by omega); have szE8 := E8.size; have E9 := (E5.trans E6).wroteAt ((E3.trans E5).trans E6) E7 K2 hz2 (by omega); have szE9 := E9.size
      have E10 := E6.wroteAt ((E3.trans E5).trans E6) E7 K2 hz2 (by omega); have szE10 := E10.size; have hO1 := (hO1.toB.ext ((E4.trans E5).trans E6)).wrote K2 (by omega)
      have hQ1 := (hQ1.toB.ext ((E4.trans E5).trans E6)).wrote K2 (by omega); have hB1 := (hB1.ext (E5.trans E6)).of_heap (K2 _ (by omega)); have hO2 := (hO2.toB.ext E6).wrote K2 (by omega)
      have hQ2 := (hQ2.toB.ext E6).wrote K2 (by omega); refine Wo rfl (opv_assign (v := .bool _) rfl) ?_; refine Wo_nil ?_; refine W_seq ?_; refine W_region rfl ?_; refine Wo rfl (opv_move (v := .int _ _) rfl) ?_
      refine Wo (v := .agg _) rfl (opv_load2 Try.isAgg25 Try.sizeOf25 rfl hB1) ?_; refine Wo_call rfl (opc2 (a := .int _ _) (b := .agg _) Try.call31 rfl rfl) (k2 _ _ _ ((OwnedB.read hO1)) ((OwnedB.read hQ1))) ?_
      rintro _ w7 ⟨u3, q3, rfl, E11, hO3, hQ3, hd2⟩; have icu3 := OwnedB.isC (Owned.toB hO3); have cpu3 := OwnedB.capOk (Owned.toB hO3); have icq3 := OwnedB.isC (Owned.toB hQ3); have cpq3 := OwnedB.capOk (Owned.toB hQ3)
      have hs5 := E11.size; refine Wo rfl (opv_move (v := .tuple _) rfl) ?_; refine Wo rfl (opv_extract (v := .agg _) rfl rfl) ?_; refine Wo rfl (opv_extract (v := .bool _) rfl rfl) ?_; refine Wo_alloc2 rfl flat25 ?_
      rintro b3 w8 hb3 E12 hB3; have hlb3 := hB3.lt; have hs6 := E12.size; refine Wo_st2 rfl Try.sizeOf25 rfl rfl (by first | rfl | assumption) (by first | rfl | assumption) hB3 (by omega) ((E7.trans E11).trans E12) ?_
      rintro w9 E13 hB3 K3 hz3; have E14 := ((E8.trans E11).trans E12).wroteAt ((E7.trans E11).trans E12) E13 K3 hz3 (by omega); have szE14 := E14.size
      have E15 := ((E9.trans E11).trans E12).wroteAt ((E7.trans E11).trans E12) E13 K3 hz3 (by omega); have szE15 := E15.size; have E16 := ((E10.trans E11).trans E12).wroteAt ((E7.trans E11).trans E12) E13 K3 hz3 (by omega)
      have szE16 := E16.size; have E17 := (E11.trans E12).wroteAt ((E7.trans E11).trans E12) E13 K3 hz3 (by omega); have szE17 := E17.size; have E18 := E12.wroteAt ((E7.trans E11).trans E12) E13 K3 hz3 (by omega); have szE18 := E18.size
      have hB2 := (hB2.ext (E11.trans E12)).of_heap (K3 _ (by omega)); have hO1 := (hO1.ext (E11.trans E12)).wrote K3 (by omega); have hQ1 := (hQ1.ext (E11.trans E12)).wrote K3 (by omega)
      have hB1 := (hB1.ext (E11.trans E12)).of_heap (K3 _ (by omega)); have hO2 := (hO2.ext (E11.trans E12)).wrote K3 (by omega); have hQ2 := (hQ2.ext (E11.trans E12)).wrote K3 (by omega); have hO3 := (hO3.toB.ext E12).wrote K3 (by omega)
      have hQ3 := (hQ3.toB.ext E12).wrote K3 (by omega); refine Wo rfl (opv_assign (v := .bool _) rfl) ?_; refine Wo_nil ?_; refine W_seq ?_; refine W_seq ?_; refine W_region rfl ?_
      refine Wo (v := .agg _) rfl (opv_load2 Try.isAgg25 Try.sizeOf25 rfl hB2) ?_; refine Wo (v := .agg _) rfl (opv_load2 Try.isAgg25 Try.sizeOf25 rfl hB3) ?_
      refine Wo_call rfl (opc2 (a := .agg _) (b := .agg _) Try.call18 rfl rfl) (same_str _ _ _ _ _ _ _ ((OwnedB.read hO2)) ((OwnedB.read hQ2)) ((OwnedB.read hO3)) ((OwnedB.read hQ3))) ?_; rintro _ w10 ⟨rfl, E19⟩; have hs7 := E19.size
      refine Wo rfl (opv_not rfl) ?_; refine Wo_split rfl (opv_move (v := .bool _) rfl) (fun h2 => ?_) (fun h2 => ?_); contradiction; refine Wo rfl (opv_move (v := .bool _) rfl) ?_; refine Wo rfl (opv_move (v := .bool _) rfl) ?_
      refine Wo rfl (opv_neq_bool Try.underlying4 rfl rfl) ?_; refine Wo rfl (opv_pick_f (v := .bool _) rfl rfl) ?_; refine Wo_nil ?_; refine W_cond_ndec rfl (fun h3 => ?_) (fun h3 => ?_); contradiction; refine W_skip ?_; refine W_seq ?_
      refine W_seq ?_; refine W_region rfl ?_; refine Wo rfl (opv_move (v := .bool _) rfl) ?_; refine Wo rfl (opv_not rfl) ?_; refine Wo_nil ?_; refine W_cond rfl (fun h4 => ?_) (fun h4 => ?_); refine W_seq ?_; refine W_region rfl ?_
      refine Wo (v := .agg _) rfl (opv_load2 Try.isAgg25 Try.sizeOf25 rfl (hB2.ext E19)) ?_; refine Wo_call rfl (opc1 (a := .agg _) Try.call32 rfl) (k3 _ _ _ ((Mono.mono E19 (OwnedB.read hO2))) ((Mono.mono E19 (OwnedB.read hQ2)))) ?_
      rintro _ w11 ⟨rfl, E20⟩; have hs8 := E20.size; refine Wo rfl (opv_move (v := .bool _) rfl) ?_; refine Wo_call rfl (opc0 Try.call17) (alive_ok _) ?_; rintro _ w12 ⟨rfl, E21⟩; have hs9 := E21.size
      refine Wo rfl (opv_pick_t (v := .bool _) rfl rfl) ?_; refine Wo rfl (opv_assign (v := .bool _) rfl) ?_; refine Wo_nil ?_; refine W_ret ?_; exact ⟨rfl, (((E13.trans E19).trans E20).trans E21)⟩; contradiction

end Go.Proofs.Ytlalfmialbolhaa
