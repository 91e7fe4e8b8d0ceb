/- Walks: the law of the rest of a stream. -/
import Derived.Test.YtlalfmialbolhaaHsWStrJ
import Derived.Test.YtlalfmialbolhaaHsWStrG
namespace Go.Proofs.Ytlalfmialbolhaa
open Go.Hs
set_option maxRecDepth 10000
set_option maxHeartbeats 4000000
set_option linter.unusedVariables false
set_option linter.unusedSimpArgs false
theorem cns_shf {f : Nat → Int} : cns (f 0) (shf f 1) = f := by
  funext k
  unfold shf cns
  split
  · rename_i h; rw [h]
  · rename_i h
    show f (k - 1 + 1) = f k
    congr 1; omega

theorem FnRestOf_walk (w : World) (v : Value) (xs : List UInt8) (h : Bytes w v xs) (hc : CapOk v) : Does Try.prog 7 [v] w (Ret w (.bool true)) := by
  classical
  have hle := h.le
  refine fn_of_W1 Try.func7 rfl Try.results7 Try.ntmps7 rfl ?_
  have stop4 : True := trivial
  focus
    refine W_seq ?_; refine W_region rfl ?_; refine Wo rfl (opv_assign (v := .bool _) rfl) ?_; refine Wo_nil ?_; refine W_seq ?_; refine W_seq ?_; refine W_region rfl ?_; refine Wo rfl (opv_move (v := v) rfl) ?_
    refine Wo rfl (opv_len Try.underlying22 rfl h) ?_; refine Wo rfl (opv_gtr rfl rfl) ?_; refine Wo_nil ?_; refine W_cond_dec rfl (fun h1 => ?_) (fun h1 => ?_); refine W_seq ?_; refine W_region rfl ?_
    refine Wo rfl (opv_assign (v := .bool _) rfl) ?_; refine Wo_nil ?_; refine W_ret ?_; exact ⟨rfl, (Ext.refl _)⟩; refine W_skip ?_; refine W_seq ?_; refine W_region rfl ?_; refine Wo rfl (opv_move (v := v) rfl) ?_
    refine Wo_call rfl (opc1 (a := v) Try.call34 rfl) (DrawRestOf_ok _ _ _ (h) (by assumption)) ?_; rintro _ w1 ⟨u1, q1, z1, x1, y1, rfl, E1, hO1, hQ1, hy1⟩; have icu1 := OwnedB.isC (Owned.toB hO1)
    have cpu1 := OwnedB.capOk (Owned.toB hO1); have icq1 := OwnedB.isC (Owned.toB hQ1); have cpq1 := OwnedB.capOk (Owned.toB hQ1); have hs1 := E1.size; refine Wo rfl (opv_move (v := .tuple _) rfl) ?_
    refine Wo rfl (opv_extract (v := .agg _) rfl rfl) ?_; refine Wo rfl (opv_extract (v := .int _ _) rfl rfl) ?_; refine Wo_alloc2 rfl flat25 ?_; rintro b1 w2 hb1 E2 hB1; have hlb1 := hB1.lt; have hs2 := E2.size
    refine Wo_st2 rfl Try.sizeOf25 rfl rfl (by first | rfl | assumption) (by first | rfl | assumption) hB1 (by omega) (E1.trans E2) ?_; rintro w3 E3 hB1 K1 hz1; have E4 := E2.wroteAt (E1.trans E2) E3 K1 hz1 (by omega)
    have szE4 := E4.size; have hO1 := (hO1.toB.ext E2).wrote K1 (by omega); have hQ1 := (hQ1.toB.ext E2).wrote K1 (by omega); refine Wo rfl (opv_assign (v := .int _ _) rfl) ?_; refine Wo_nil ?_; refine W_seq ?_
  clear stop4
  obtain ⟨⟨hA, hB⟩, hz1, hz2⟩ := hy1
  have r1 := hO1.read
  have r2 := hQ1.read
  clear hO1 hQ1
  have kA := alive_ok
  by_cases hs : Stm x1 y1 ∧ 0 ≤ z1 ∧ z1 ≤ 99
  · have eR : rstV x1 y1 z1 = (shL (shf (bat x1 y1) z1.toNat), shR (shf (bat x1 y1) z1.toNat)) := if_pos hs
    obtain ⟨hs, hz3, hz4⟩ := hs
    obtain ⟨hS, hb⟩ := rst_stm hs z1.toNat
    obtain ⟨hS1, hb1⟩ := rst_stm hs 1
    have hS2 := hS.2.2
    have hS3 := hS1.2.2
    have k1 : ∀ (w : World) (u1 u2 : Value), Ints w u1 x1 → Ints w u2 y1 → Does Try.prog 20 [.agg #[u1, u2], .int .i64 z1] w (RetS2 w 3 (shL (shf (bat x1 y1) z1.toNat)) (shR (shf (bat x1 y1) z1.toNat))) := fun w u1 u2 h1 h2 => by
      have := impl_RestOf_ok w u1 u2 _ _ h1 h2 (by omega) (by omega) z1
      rw [eR] at this; exact this
    have k2 : ∀ (w : World) (u1 u2 : Value), Ints w u1 x1 → Ints w u2 y1 → CapOk u1 → Does Try.prog 22 [.agg #[u1, u2], .int .i64 z1] w (RetS2 w 3 (shL (shf (bat x1 y1) z1.toNat)) (shR (shf (bat x1 y1) z1.toNat))) := fun w u1 u2 h1 h2 hc => by
      have := spec_RestOf_ok w u1 u2 _ _ h1 h2 hc (by omega) (by omega) z1
      rw [eR] at this; exact this
    have k3 : ∀ (k : Nat), k < 20 → ∀ (w : World) (u1 u2 : Value), Ints w u1 (shL (shf (bat x1 y1) z1.toNat)) → Ints w u2 (shR (shf (bat x1 y1) z1.toNat)) → Does Try.prog 33 [.agg #[u1, u2], .int .i64 (k : Int)] w (Ret w (.int .i64 (bat x1 y1 (z1 + k).toNat))) := fun k hk w u1 u2 h1 h2 => by
      have := impl_BitAt_ok w u1 u2 _ _ h1 h2 (by omega) (by omega) (k : Int)
      rw [show batV (shL (shf (bat x1 y1) z1.toNat)) (shR (shf (bat x1 y1) z1.toNat)) (k : Int) = bat x1 y1 (z1 + k).toNat by
        unfold batV
        rw [if_pos ⟨hS, by omega, by omega⟩, hb]
        unfold shf
        congr 1; omega] at this
      exact this
    have k4 : ∀ (k : Nat), k < 20 → ∀ (w : World) (u1 u2 : Value), Ints w u1 x1 → Ints w u2 y1 → Does Try.prog 33 [.agg #[u1, u2], .int .i64 (z1 + (k : Int))] w (Ret w (.int .i64 (bat x1 y1 (z1 + k).toNat))) := fun k hk w u1 u2 h1 h2 => by
      have := impl_BitAt_ok w u1 u2 _ _ h1 h2 (by omega) (by omega) (z1 + k)
      rw [show batV x1 y1 (z1 + k) = bat x1 y1 (z1 + k).toNat from if_pos ⟨hs, by omega, by omega⟩] at this
      exact this
    have k5 : ∀ (w : World) (u1 u2 : Value), Ints w u1 x1 → Ints w u2 y1 → Does Try.prog 33 [.agg #[u1, u2], .int .i64 0] w (Ret w (.int .i64 (bat x1 y1 0))) := fun w u1 u2 h1 h2 => by
      have := impl_BitAt_ok w u1 u2 _ _ h1 h2 (by omega) (by omega) 0
      rw [show batV x1 y1 0 = bat x1 y1 0 from if_pos ⟨hs, by omega, by omega⟩] at this
      exact this
    have k6 : ∀ (w : World) (u1 u2 : Value), Ints w u1 x1 → Ints w u2 y1 → Does Try.prog 20 [.agg #[u1, u2], .int .i64 1] w (RetS2 w 3 (shL (shf (bat x1 y1) 1)) (shR (shf (bat x1 y1) 1))) := fun w u1 u2 h1 h2 => by
      have := impl_RestOf_ok w u1 u2 _ _ h1 h2 (by omega) (by omega) 1
      rw [show rstV x1 y1 1 = (shL (shf (bat x1 y1) 1), shR (shf (bat x1 y1) 1)) from if_pos ⟨hs, by omega, by omega⟩] at this
      exact this
    have k7 : ∀ (w : World) (u1 u2 : Value), Ints w u1 x1 → Ints w u2 y1 → Does Try.prog 19 [.agg #[u1, u2]] w (RetS2 w 3 (shL (bat x1 y1)) (shR (bat x1 y1))) := fun w u1 u2 h1 h2 => by
      have := impl_ShortOf_ok w u1 u2 _ _ h1 h2 (by omega) (by omega)
      rw [show shV x1 y1 = (shL (bat x1 y1), shR (bat x1 y1)) from if_pos hs] at this
      exact this
    have hP : ∀ (x : Bool), decide (paOk (bat x1 y1 0) (shL (shf (bat x1 y1) 1)) (shR (shf (bat x1 y1) 1))) = x → ∀ (w : World) (u1 u2 : Value), Ints w u1 (shL (shf (bat x1 y1) 1)) → Ints w u2 (shR (shf (bat x1 y1) 1)) → Does Try.prog 30 [.int .i64 (bat x1 y1 0), .agg #[u1, u2]] w (RetS2b w 3 (if x = true then shL (bat x1 y1) else []) (if x = true then shR (bat x1 y1) else []) x) := fun x e w u1 u2 h1 h2 => by
      have := impl_PutAhead_ok w u1 u2 (bat x1 y1 0) _ _ h1 h2 (by omega) (by omega)
      cases x
      · rw [show paV (bat x1 y1 0) (shL (shf (bat x1 y1) 1)) (shR (shf (bat x1 y1) 1)) = ([], [], false) from if_neg (of_decide_eq_false e)] at this
        exact this
      · rw [show paV (bat x1 y1 0) (shL (shf (bat x1 y1) 1)) (shR (shf (bat x1 y1) 1)) = (shL (bat x1 y1), shR (bat x1 y1), true) by unfold paV; rw [if_pos (of_decide_eq_true e), hb1, cns_shf]] at this
        exact this
    obtain ⟨hY1, hY2⟩ := hS2
    generalize decide (paOk (bat x1 y1 0) (shL (shf (bat x1 y1) 1)) (shR (shf (bat x1 y1) 1))) = pb at hP
    have k8 := hP pb rfl
    clear hP eR hS hS1 hb hb1 hs
    generalize shL (shf (bat x1 y1) z1.toNat) = X at *
    generalize shR (shf (bat x1 y1) z1.toNat) = Y at *
    generalize shL (shf (bat x1 y1) 1) = P at *
    generalize shR (shf (bat x1 y1) 1) = Q at *
    generalize bat x1 y1 = f at *
    have stop5 : True := trivial
    focus
      have szE4 := E4.size; have szE3 := E3.size; have szE2 := E2.size; have szE1 := E1.size; refine W_region rfl ?_; refine Wo (v := .agg _) rfl (opv_load2 Try.isAgg25 Try.sizeOf25 rfl hB1) ?_
      refine Wo rfl (opv_move (v := .int _ _) rfl) ?_; refine Wo_call rfl (opc2 (a := .agg _) (b := .int _ _) Try.call20 rfl rfl) (k1 _ _ _ (r1) (r2)) ?_; rintro _ w4 ⟨u2, q2, rfl, E5, hO2, hQ2, hd1⟩
      have icu2 := OwnedB.isC (Owned.toB hO2); have cpu2 := OwnedB.capOk (Owned.toB hO2); have icq2 := OwnedB.isC (Owned.toB hQ2); have cpq2 := OwnedB.capOk (Owned.toB hQ2); have hs3 := E5.size; refine Wo_alloc2 rfl flat25 ?_
      rintro b2 w5 hb2 E6 hB2; have hlb2 := hB2.lt; have hs4 := E6.size; refine Wo_st2 rfl Try.sizeOf25 rfl rfl (by first | rfl | assumption) (by first | rfl | assumption) hB2 (by omega) ((E3.trans E5).trans E6) ?_
      rintro w6 E7 hB2 K2 hz5; have E8 := ((E4.trans E5).trans E6).wroteAt ((E3.trans E5).trans E6) E7 K2 hz5 (by omega); have szE8 := E8.size; have E9 := (E5.trans E6).wroteAt ((E3.trans E5).trans E6) E7 K2 hz5 (by omega)
      have szE9 := E9.size; have E10 := E6.wroteAt ((E3.trans E5).trans E6) E7 K2 hz5 (by omega); have szE10 := E10.size; have hO1 := (hO1.toB.ext ((E4.trans E5).trans E6)).wrote K2 (by omega)
      have hQ1 := (hQ1.toB.ext ((E4.trans E5).trans E6)).wrote K2 (by omega); have hB1 := (hB1.ext (E5.trans E6)).of_heap (K2 _ (by omega)); have hO2 := (hO2.toB.ext E6).wrote K2 (by omega)
      have hQ2 := (hQ2.toB.ext E6).wrote K2 (by omega); refine Wo_nil ?_; refine W_seq ?_; refine W_seq ?_
    clear stop5
    have heldS : w6 = w6 := rfl
    focus
      have szE10 := E10.size; have szE9 := E9.size; have szE8 := E8.size; have szE7 := E7.size; have szE6 := E6.size; have szE5 := E5.size; have szE4 := E4.size; have szE3 := E3.size; have szE2 := E2.size; have szE1 := E1.size
      refine W_held (fun w' => Ext w6 w') mixed rfl (by kernel_rfl) ?_; intro w7 E11 K3 hz6; have hs5 := E11.size
      refine Wh_take (v := .agg _) 0 rfl (by kernel_rfl) (by kernel_rfl) rfl (fun w' hw' => opv_load2 Try.isAgg25 Try.sizeOf25 rfl (hB2.ext hw')) E11 ?_
      refine Wh_take (v := .agg _) 1 rfl (by kernel_rfl) (by kernel_rfl) rfl (fun w' hw' => opv_load2 Try.isAgg25 Try.sizeOf25 rfl (hB1.ext hw')) E11 ?_
      refine Wh_take 2 rfl (by kernel_rfl) (by kernel_rfl) rfl (fun _ _ => opv_move (v := .int _ _) rfl) E11 ?_; refine Wh_all (rs := [3]) (by kernel_rfl) rfl ?_; refine WhAll_cons rfl ?_ ?_
      refine Wo_call rfl (opc2 (a := .agg _) (b := .int _ _) Try.call22 rfl rfl) (k2 _ _ _ ((Mono.mono E11 (OwnedB.read hO1))) ((Mono.mono E11 (OwnedB.read hQ1))) (by assumption)) ?_; rintro _ w8 ⟨u3, q3, rfl, E12, hO3, hQ3, hd2⟩
      have icu3 := OwnedB.isC (Owned.toB hO3); have cpu3 := OwnedB.capOk (Owned.toB hO3); have icq3 := OwnedB.isC (Owned.toB hQ3); have cpq3 := OwnedB.capOk (Owned.toB hQ3); have hs6 := E12.size; refine Wo_nil ?_
      refine ⟨(E11.trans E12), ?_⟩; refine Wh_all (rs := [4]) (by kernel_rfl) rfl ?_; refine WhAll_cons rfl ?_ ?_
      refine Wo_call rfl (opc2 (a := .agg _) (b := .agg _) Try.call18 rfl rfl) (same_str _ _ _ _ _ _ _ ((Mono.mono (E11.trans E12) (OwnedB.read hO2))) ((Mono.mono (E11.trans E12) (OwnedB.read hQ2))) ((Owned.read hO3)) ((Owned.read hQ3))) ?_
      rintro _ w9 ⟨rfl, E13⟩; have hs7 := E13.size; refine Wo_nil ?_; refine ⟨((E11.trans E12).trans E13), ?_⟩; refine Wh_take 5 rfl (by kernel_rfl) (by kernel_rfl) rfl (fun _ _ => opv_not rfl) ((E11.trans E12).trans E13) ?_
      refine Wh_done (by kernel_rfl) ?_; refine W_cond rfl (fun h2 => ?_) (fun h2 => ?_); contradiction; refine W_skip ?_; refine W_seq ?_; refine W_seq ?_; refine W_region rfl ?_
      refine Wo rfl (opv_fieldAddr Try.underlying25 rfl rfl Try.sizeOf23 rfl) ?_; refine Wo (v := q2) rfl (opv_load Try.isAgg23 rfl ((hB2.ext ((E11.trans E12).trans E13)).cell rfl)) ?_
      refine Wo rfl (opv_len Try.underlying23 rfl (OwnedB.read hQ2)) ?_; refine Wo rfl (opv_eql rfl rfl) ?_; refine Wo_nil ?_; refine W_cond_dec rfl (fun h3 => ?_) (fun h3 => ?_); (exfalso; omega); refine W_skip ?_; refine W_seq ?_
      refine W_seq ?_; refine W_region rfl ?_; refine Wo rfl (opv_assign (v := .int _ _) rfl) ?_; refine Wo_nil ?_; refine W_block ?_; rotate_left; exact WhAll_nil; exact WhAll_nil
    refine W_loop [2, 6, 35, 36, 37, 38, 39, 40, 41, 42, 43, 44, 45, 46, 47] (fun (k : Nat) => [(6, .int .i64 (k : Int))]) (fun k w' => Ext w9 w' ∧ k ≤ 20) (fun x => 20 - x) 0 (by repeat (first | exact trivial | refine And.intro rfl ?_)) ?_ ?_
    · exact ⟨Ext.refl _, Nat.zero_le _⟩
    rintro k ρj w10 ⟨E10', hk⟩
    clear heldS
    have heldS : w10 = w10 := rfl
    by_cases hkl : k < 20
    · have k3' := k3 k hkl
      have k4' := k4 k hkl
      clear k3 k4
      focus
        have szE10' := E10'.size; have szE13 := E13.size; have szE12 := E12.size; have szE11 := E11.size; have szE10 := E10.size; have szE9 := E9.size; have szE8 := E8.size; have szE7 := E7.size; have szE6 := E6.size; have szE5 := E5.size
        have szE4 := E4.size; have szE3 := E3.size; have szE2 := E2.size; have szE1 := E1.size; refine W_seq ?_; refine W_seq ?_; refine W_region rfl ?_; refine Wo rfl (opv_move (v := .int _ _) rfl) ?_; refine Wo rfl (opv_lss rfl rfl) ?_
        refine Wo_nil ?_; refine W_cond_dec rfl (fun h4 => ?_) (fun h4 => ?_); refine W_skip ?_; refine W_seq ?_; refine W_block ?_; refine W_seq ?_; refine W_draw mixed (by kernel_rfl) rfl ?_
        refine Wq_o (v := .agg _) rfl (fun w' hw' => opv_load2 Try.isAgg25 Try.sizeOf25 rfl ((hB2.ext (((E11.trans E12).trans E13).trans E10')).ext hw')) ?_; refine Wq_o rfl (fun _ _ => opv_move (v := .int _ _) rfl) ?_
        refine Wq_call rfl (fun _ _ => opc2 (a := .agg _) (b := .int _ _) Try.call33 rfl rfl) (fun w' hw' => (k3' _ _ _ ((Mono.mono ((((E11.trans E12).trans E13).trans E10').trans hw') (OwnedB.read hO2))) ((Mono.mono ((((E11.trans E12).trans E13).trans E10').trans hw') (OwnedB.read hQ2))))) ?_
        refine Wq_o (v := .agg _) rfl (fun w' hw' => opv_load2 Try.isAgg25 Try.sizeOf25 rfl ((hB1.ext (((E11.trans E12).trans E13).trans E10')).ext hw')) ?_; refine Wq_o rfl (fun _ _ => opv_move (v := .int _ _) rfl) ?_
        refine Wq_o rfl (fun _ _ => opv_move (v := .int _ _) rfl) ?_; refine Wq_o rfl (fun _ _ => opv_add rfl rfl (by omega)) ?_
        refine Wq_call rfl (fun _ _ => opc2 (a := .agg _) (b := .int _ _) Try.call33 rfl rfl) (fun w' hw' => (k4' _ _ _ ((Mono.mono ((((E11.trans E12).trans E13).trans E10').trans hw') (OwnedB.read hO1))) ((Mono.mono ((((E11.trans E12).trans E13).trans E10').trans hw') (OwnedB.read hQ1))))) ?_
        refine Wq_o rfl (fun _ _ => opv_neq rfl rfl) ?_; refine Wq_nil (fun w11 E14 => ?_); have hs8 := E14.size; refine W_cond_ndec rfl (fun h5 => ?_) (fun h5 => ?_); contradiction; refine W_skip ?_; refine W_region rfl ?_
        refine Wo rfl (opv_move (v := .int _ _) rfl) ?_; refine Wo rfl (opv_add rfl rfl (by omega)) ?_; refine Wo rfl (opv_assign (v := .int _ _) rfl) ?_; refine Wo_nil ?_; rotate_left; (exfalso; omega)
      refine ⟨(k + 1), by repeat (first | exact trivial | refine And.intro rfl ?_), by repeat (first | with_reducible exact Same.refl | refine Same.upd rfl ?_ | refine Same.upds rfl ?_ | refine Same.mix rfl ?_), ?_, ?_⟩
      · exact ⟨E10'.trans (by assumption), by omega⟩
      · omega
    · obtain rfl : k = 20 := by omega
      clear k3 k4
      cases pb
      · have stop14 : True := trivial
        focus
          have szE10' := E10'.size; have szE13 := E13.size; have szE12 := E12.size; have szE11 := E11.size; have szE10 := E10.size; have szE9 := E9.size; have szE8 := E8.size; have szE7 := E7.size; have szE6 := E6.size; have szE5 := E5.size
          have szE4 := E4.size; have szE3 := E3.size; have szE2 := E2.size; have szE1 := E1.size; refine W_seq ?_; refine W_seq ?_; refine W_region rfl ?_; refine Wo rfl (opv_move (v := .int _ _) rfl) ?_; refine Wo rfl (opv_lss rfl rfl) ?_
          refine Wo_nil ?_; refine W_cond_dec rfl (fun h4 => ?_) (fun h4 => ?_); contradiction; refine W_exit ?_; refine exitX_same ?_; refine W_seq ?_
        clear stop14
        refine W_mid [48, 49, 50, 51, 52, 53, 54, 55, 7, 8] (fun ((b7, _) : Nat × Value × Value) => [(7, .pointer (some ⟨b7, 0, none⟩)), (8, .bool false)]) (fun (b7, uu, qq) w' => Ext w10 w' ∧ Blk w' b7 [uu, qq] ∧ Ints w' uu [] ∧ Ints w' qq []) ?_ ?_
        · focus
            have szE10' := E10'.size; have szE13 := E13.size; have szE12 := E12.size; have szE11 := E11.size; have szE10 := E10.size; have szE9 := E9.size; have szE8 := E8.size; have szE7 := E7.size; have szE6 := E6.size; have szE5 := E5.size
            have szE4 := E4.size; have szE3 := E3.size; have szE2 := E2.size; have szE1 := E1.size; refine W_held (fun w' => Ext w10 w') mixed rfl (by kernel_rfl) ?_; intro w11 E14 K4 hz7; have hs8 := E14.size
            refine Wh_take (v := .agg _) 0 rfl (by kernel_rfl) (by kernel_rfl) rfl (fun w' hw' => opv_load2 Try.isAgg25 Try.sizeOf25 rfl (hB1.ext ((((E11.trans E12).trans E13).trans E10').trans hw'))) E14 ?_
            refine Wh_take (v := .agg _) 2 rfl (by kernel_rfl) (by kernel_rfl) rfl (fun w' hw' => opv_load2 Try.isAgg25 Try.sizeOf25 rfl (hB1.ext ((((E11.trans E12).trans E13).trans E10').trans hw'))) E14 ?_
            refine Wh_all (rs := [1, 8]) (by kernel_rfl) rfl ?_; refine WhAll_cons rfl ?_ ?_
            refine Wo_call rfl (opc2 (a := .agg _) (b := .int _ _) Try.call33 rfl rfl) (k5 _ _ _ ((Mono.mono ((((E11.trans E12).trans E13).trans E10').trans E14) (OwnedB.read hO1))) ((Mono.mono ((((E11.trans E12).trans E13).trans E10').trans E14) (OwnedB.read hQ1)))) ?_
            rintro _ w12 ⟨rfl, E15⟩; have hs9 := E15.size; refine Wo_nil ?_; refine ⟨(E14.trans E15), ?_⟩; refine Wh_all (rs := [3, 8]) (by kernel_rfl) rfl ?_; refine WhAll_cons rfl ?_ ?_
            refine Wo_call rfl (opc2 (a := .agg _) (b := .int _ _) Try.call20 rfl rfl) (k6 _ _ _ ((Mono.mono (((((E11.trans E12).trans E13).trans E10').trans E14).trans E15) (OwnedB.read hO1))) ((Mono.mono (((((E11.trans E12).trans E13).trans E10').trans E14).trans E15) (OwnedB.read hQ1)))) ?_
            rintro _ w13 ⟨u4, q4, rfl, E16, hO4, hQ4, hd3⟩; have icu4 := OwnedB.isC (Owned.toB hO4); have cpu4 := OwnedB.capOk (Owned.toB hO4); have icq4 := OwnedB.isC (Owned.toB hQ4); have cpq4 := OwnedB.capOk (Owned.toB hQ4)
            have hs10 := E16.size; refine Wo_nil ?_; refine ⟨((E14.trans E15).trans E16), ?_⟩; refine Wh_all (rs := [4, 8]) (by kernel_rfl) rfl ?_; refine WhAll_cons rfl ?_ ?_
            refine Wo_call rfl (opc2 (a := .int _ _) (b := .agg _) Try.call30 rfl rfl) (k8 _ _ _ ((Owned.read hO4)) ((Owned.read hQ4))) ?_; rintro _ w14 ⟨u5, q5, rfl, E17, hO5, hQ5, hd4⟩; have icu5 := OwnedB.isC (Owned.toB hO5)
            have cpu5 := OwnedB.capOk (Owned.toB hO5); have icq5 := OwnedB.isC (Owned.toB hQ5); have cpq5 := OwnedB.capOk (Owned.toB hQ5); have hs11 := E17.size; refine Wo_nil ?_; refine ⟨(((E14.trans E15).trans E16).trans E17), ?_⟩
            refine Wh_take 5 rfl (by kernel_rfl) (by kernel_rfl) rfl (fun _ _ => opv_move (v := .tuple _) rfl) (((E14.trans E15).trans E16).trans E17) ?_
            refine Wh_take 6 rfl (by kernel_rfl) (by kernel_rfl) rfl (fun _ _ => opv_extract (v := .agg _) rfl rfl) (((E14.trans E15).trans E16).trans E17) ?_
            refine Wh_take 7 rfl (by kernel_rfl) (by kernel_rfl) rfl (fun _ _ => opv_extract (v := .bool _) rfl rfl) (((E14.trans E15).trans E16).trans E17) ?_; refine Wh_all (rs := [8]) (by kernel_rfl) rfl ?_; refine WhAll_cons rfl ?_ ?_
            refine Wo_alloc2 rfl flat25 ?_; rintro b3 w15 hb3 E18 hB3; have hlb3 := hB3.lt; have hs12 := E18.size; refine Wo_nil ?_; refine ⟨((((E14.trans E15).trans E16).trans E17).trans E18), ?_⟩
            refine Wh_all (rs := [9]) (by kernel_rfl) rfl ?_; refine WhAll_cons rfl ?_ ?_
            refine Wo_st2 rfl Try.sizeOf25 rfl rfl (by first | rfl | assumption) (by first | rfl | assumption) hB3 (by omega) (((((((((E7.trans E11).trans E12).trans E13).trans E10').trans E14).trans E15).trans E16).trans E17).trans E18) ?_
            rintro w16 E19 hB3 K5 hz8
            have E20 := (((((((((E8.trans E11).trans E12).trans E13).trans E10').trans E14).trans E15).trans E16).trans E17).trans E18).wroteAt (((((((((E7.trans E11).trans E12).trans E13).trans E10').trans E14).trans E15).trans E16).trans E17).trans E18) E19 K5 hz8 (by omega)
            have szE20 := E20.size
            have E21 := (((((((((E9.trans E11).trans E12).trans E13).trans E10').trans E14).trans E15).trans E16).trans E17).trans E18).wroteAt (((((((((E7.trans E11).trans E12).trans E13).trans E10').trans E14).trans E15).trans E16).trans E17).trans E18) E19 K5 hz8 (by omega)
            have szE21 := E21.size
            have E22 := (((((((((E10.trans E11).trans E12).trans E13).trans E10').trans E14).trans E15).trans E16).trans E17).trans E18).wroteAt (((((((((E7.trans E11).trans E12).trans E13).trans E10').trans E14).trans E15).trans E16).trans E17).trans E18) E19 K5 hz8 (by omega)
            have szE22 := E22.size
            have E23 := ((((((((E11.trans E12).trans E13).trans E10').trans E14).trans E15).trans E16).trans E17).trans E18).wroteAt (((((((((E7.trans E11).trans E12).trans E13).trans E10').trans E14).trans E15).trans E16).trans E17).trans E18) E19 K5 hz8 (by omega)
            have szE23 := E23.size
            have E24 := (((((((E12.trans E13).trans E10').trans E14).trans E15).trans E16).trans E17).trans E18).wroteAt (((((((((E7.trans E11).trans E12).trans E13).trans E10').trans E14).trans E15).trans E16).trans E17).trans E18) E19 K5 hz8 (by omega)
            have szE24 := E24.size
            have E25 := ((((((E13.trans E10').trans E14).trans E15).trans E16).trans E17).trans E18).wroteAt (((((((((E7.trans E11).trans E12).trans E13).trans E10').trans E14).trans E15).trans E16).trans E17).trans E18) E19 K5 hz8 (by omega)
            have szE25 := E25.size
            have E26 := (((((E10'.trans E14).trans E15).trans E16).trans E17).trans E18).wroteAt (((((((((E7.trans E11).trans E12).trans E13).trans E10').trans E14).trans E15).trans E16).trans E17).trans E18) E19 K5 hz8 (by omega)
            have szE26 := E26.size; have E27 := ((((E14.trans E15).trans E16).trans E17).trans E18).wroteAt (((((((((E7.trans E11).trans E12).trans E13).trans E10').trans E14).trans E15).trans E16).trans E17).trans E18) E19 K5 hz8 (by omega)
            have szE27 := E27.size; have E28 := (((E15.trans E16).trans E17).trans E18).wroteAt (((((((((E7.trans E11).trans E12).trans E13).trans E10').trans E14).trans E15).trans E16).trans E17).trans E18) E19 K5 hz8 (by omega)
            have szE28 := E28.size; have E29 := ((E16.trans E17).trans E18).wroteAt (((((((((E7.trans E11).trans E12).trans E13).trans E10').trans E14).trans E15).trans E16).trans E17).trans E18) E19 K5 hz8 (by omega); have szE29 := E29.size
            have E30 := (E17.trans E18).wroteAt (((((((((E7.trans E11).trans E12).trans E13).trans E10').trans E14).trans E15).trans E16).trans E17).trans E18) E19 K5 hz8 (by omega); have szE30 := E30.size
            have E31 := E18.wroteAt (((((((((E7.trans E11).trans E12).trans E13).trans E10').trans E14).trans E15).trans E16).trans E17).trans E18) E19 K5 hz8 (by omega); have szE31 := E31.size
            have hB2 := (hB2.ext ((((((((E11.trans E12).trans E13).trans E10').trans E14).trans E15).trans E16).trans E17).trans E18)).of_heap (K5 _ (by omega))
            have hO1 := (hO1.ext ((((((((E11.trans E12).trans E13).trans E10').trans E14).trans E15).trans E16).trans E17).trans E18)).wrote K5 (by omega)
            have hQ1 := (hQ1.ext ((((((((E11.trans E12).trans E13).trans E10').trans E14).trans E15).trans E16).trans E17).trans E18)).wrote K5 (by omega)
            have hB1 := (hB1.ext ((((((((E11.trans E12).trans E13).trans E10').trans E14).trans E15).trans E16).trans E17).trans E18)).of_heap (K5 _ (by omega))
            have hO2 := (hO2.ext ((((((((E11.trans E12).trans E13).trans E10').trans E14).trans E15).trans E16).trans E17).trans E18)).wrote K5 (by omega)
            have hQ2 := (hQ2.ext ((((((((E11.trans E12).trans E13).trans E10').trans E14).trans E15).trans E16).trans E17).trans E18)).wrote K5 (by omega)
            have hO3 := (hO3.toB.ext ((((((E13.trans E10').trans E14).trans E15).trans E16).trans E17).trans E18)).wrote K5 (by omega)
            have hQ3 := (hQ3.toB.ext ((((((E13.trans E10').trans E14).trans E15).trans E16).trans E17).trans E18)).wrote K5 (by omega); have hO4 := (hO4.toB.ext (E17.trans E18)).wrote K5 (by omega)
            have hQ4 := (hQ4.toB.ext (E17.trans E18)).wrote K5 (by omega); have hO5 := (hO5.toB.ext E18).wrote K5 (by omega); have hQ5 := (hQ5.toB.ext E18).wrote K5 (by omega); refine Wo_nil ?_; refine ⟨E27, ?_⟩
            refine Wh_take 10 rfl (by kernel_rfl) (by kernel_rfl) rfl (fun _ _ => opv_assign (v := .bool _) rfl) E27 ?_; refine Wh_done (by kernel_rfl) ?_; rotate_left; exact WhAll_nil; exact WhAll_nil; refine WhAll_cons rfl ?_ ?_
            refine Wo_alloc2 rfl flat25 ?_; rintro b3 w14 hb3 E17 hB3; have hlb3 := hB3.lt; have hs11 := E17.size; refine Wo_nil ?_; refine ⟨(((E14.trans E15).trans E16).trans E17), ?_⟩; refine Wh_all (rs := [4]) (by kernel_rfl) rfl ?_
            refine WhAll_cons rfl ?_ ?_; refine Wo_call rfl (opc2 (a := .int _ _) (b := .agg _) Try.call30 rfl rfl) (k8 _ _ _ ((Mono.mono E17 (Owned.read hO4))) ((Mono.mono E17 (Owned.read hQ4)))) ?_
            rintro _ w15 ⟨u5, q5, rfl, E18, hO5, hQ5, hd4⟩; have icu5 := OwnedB.isC (Owned.toB hO5); have cpu5 := OwnedB.capOk (Owned.toB hO5); have icq5 := OwnedB.isC (Owned.toB hQ5); have cpq5 := OwnedB.capOk (Owned.toB hQ5)
            have hs12 := E18.size; refine Wo_nil ?_; refine ⟨((((E14.trans E15).trans E16).trans E17).trans E18), ?_⟩
            refine Wh_take 5 rfl (by kernel_rfl) (by kernel_rfl) rfl (fun _ _ => opv_move (v := .tuple _) rfl) ((((E14.trans E15).trans E16).trans E17).trans E18) ?_
            refine Wh_take 6 rfl (by kernel_rfl) (by kernel_rfl) rfl (fun _ _ => opv_extract (v := .agg _) rfl rfl) ((((E14.trans E15).trans E16).trans E17).trans E18) ?_
            refine Wh_take 7 rfl (by kernel_rfl) (by kernel_rfl) rfl (fun _ _ => opv_extract (v := .bool _) rfl rfl) ((((E14.trans E15).trans E16).trans E17).trans E18) ?_; refine Wh_all (rs := [9]) (by kernel_rfl) rfl ?_
            refine WhAll_cons rfl ?_ ?_
            refine Wo_st2 rfl Try.sizeOf25 rfl rfl (by first | rfl | assumption) (by first | rfl | assumption) (hB3.ext E18) (by omega) (((((((((E7.trans E11).trans E12).trans E13).trans E10').trans E14).trans E15).trans E16).trans E17).trans E18) ?_
            rintro w16 E19 hB3 K5 hz8
            have E20 := (((((((((E8.trans E11).trans E12).trans E13).trans E10').trans E14).trans E15).trans E16).trans E17).trans E18).wroteAt (((((((((E7.trans E11).trans E12).trans E13).trans E10').trans E14).trans E15).trans E16).trans E17).trans E18) E19 K5 hz8 (by omega)
            have szE20 := E20.size
            have E21 := (((((((((E9.trans E11).trans E12).trans E13).trans E10').trans E14).trans E15).trans E16).trans E17).trans E18).wroteAt (((((((((E7.trans E11).trans E12).trans E13).trans E10').trans E14).trans E15).trans E16).trans E17).trans E18) E19 K5 hz8 (by omega)
            have szE21 := E21.size
            have E22 := (((((((((E10.trans E11).trans E12).trans E13).trans E10').trans E14).trans E15).trans E16).trans E17).trans E18).wroteAt (((((((((E7.trans E11).trans E12).trans E13).trans E10').trans E14).trans E15).trans E16).trans E17).trans E18) E19 K5 hz8 (by omega)
            have szE22 := E22.size
            have E23 := ((((((((E11.trans E12).trans E13).trans E10').trans E14).trans E15).trans E16).trans E17).trans E18).wroteAt (((((((((E7.trans E11).trans E12).trans E13).trans E10').trans E14).trans E15).trans E16).trans E17).trans E18) E19 K5 hz8 (by omega)
            have szE23 := E23.size
            have E24 := (((((((E12.trans E13).trans E10').trans E14).trans E15).trans E16).trans E17).trans E18).wroteAt (((((((((E7.trans E11).trans E12).trans E13).trans E10').trans E14).trans E15).trans E16).trans E17).trans E18) E19 K5 hz8 (by omega)
            have szE24 := E24.size
            have E25 := ((((((E13.trans E10').trans E14).trans E15).trans E16).trans E17).trans E18).wroteAt (((((((((E7.trans E11).trans E12).trans E13).trans E10').trans E14).trans E15).trans E16).trans E17).trans E18) E19 K5 hz8 (by omega)
            have szE25 := E25.size
            have E26 := (((((E10'.trans E14).trans E15).trans E16).trans E17).trans E18).wroteAt (((((((((E7.trans E11).trans E12).trans E13).trans E10').trans E14).trans E15).trans E16).trans E17).trans E18) E19 K5 hz8 (by omega)
            have szE26 := E26.size; have E27 := ((((E14.trans E15).trans E16).trans E17).trans E18).wroteAt (((((((((E7.trans E11).trans E12).trans E13).trans E10').trans E14).trans E15).trans E16).trans E17).trans E18) E19 K5 hz8 (by omega)
            have szE27 := E27.size; have E28 := (((E15.trans E16).trans E17).trans E18).wroteAt (((((((((E7.trans E11).trans E12).trans E13).trans E10').trans E14).trans E15).trans E16).trans E17).trans E18) E19 K5 hz8 (by omega)
            have szE28 := E28.size; have E29 := ((E16.trans E17).trans E18).wroteAt (((((((((E7.trans E11).trans E12).trans E13).trans E10').trans E14).trans E15).trans E16).trans E17).trans E18) E19 K5 hz8 (by omega); have szE29 := E29.size
            have E30 := (E17.trans E18).wroteAt (((((((((E7.trans E11).trans E12).trans E13).trans E10').trans E14).trans E15).trans E16).trans E17).trans E18) E19 K5 hz8 (by omega); have szE30 := E30.size
            have hB2 := (hB2.ext ((((((((E11.trans E12).trans E13).trans E10').trans E14).trans E15).trans E16).trans E17).trans E18)).of_heap (K5 _ (by omega))
            have hO1 := (hO1.ext ((((((((E11.trans E12).trans E13).trans E10').trans E14).trans E15).trans E16).trans E17).trans E18)).wrote K5 (by omega)
            have hQ1 := (hQ1.ext ((((((((E11.trans E12).trans E13).trans E10').trans E14).trans E15).trans E16).trans E17).trans E18)).wrote K5 (by omega)
            have hB1 := (hB1.ext ((((((((E11.trans E12).trans E13).trans E10').trans E14).trans E15).trans E16).trans E17).trans E18)).of_heap (K5 _ (by omega))
            have hO2 := (hO2.ext ((((((((E11.trans E12).trans E13).trans E10').trans E14).trans E15).trans E16).trans E17).trans E18)).wrote K5 (by omega)
            have hQ2 := (hQ2.ext ((((((((E11.trans E12).trans E13).trans E10').trans E14).trans E15).trans E16).trans E17).trans E18)).wrote K5 (by omega)
            have hO3 := (hO3.toB.ext ((((((E13.trans E10').trans E14).trans E15).trans E16).trans E17).trans E18)).wrote K5 (by omega)
            have hQ3 := (hQ3.toB.ext ((((((E13.trans E10').trans E14).trans E15).trans E16).trans E17).trans E18)).wrote K5 (by omega); have hO4 := (hO4.toB.ext (E17.trans E18)).wrote K5 (by omega)
            have hQ4 := (hQ4.toB.ext (E17.trans E18)).wrote K5 (by omega); have hO5 := hO5.toB.wrote K5 (by omega); have hQ5 := hQ5.toB.wrote K5 (by omega); refine Wo_nil ?_; refine ⟨E27, ?_⟩
            refine Wh_take 10 rfl (by kernel_rfl) (by kernel_rfl) rfl (fun _ _ => opv_assign (v := .bool _) rfl) E27 ?_; refine Wh_done (by kernel_rfl) ?_; rotate_left; exact WhAll_nil; exact WhAll_nil; exact WhAll_nil
            refine WhAll_cons rfl ?_ ?_; refine Wo_alloc2 rfl flat25 ?_; rintro b3 w13 hb3 E16 hB3; have hlb3 := hB3.lt; have hs10 := E16.size; refine Wo_nil ?_; refine ⟨((E14.trans E15).trans E16), ?_⟩
            refine Wh_all (rs := [3]) (by kernel_rfl) rfl ?_; refine WhAll_cons rfl ?_ ?_
            refine Wo_call rfl (opc2 (a := .agg _) (b := .int _ _) Try.call20 rfl rfl) (k6 _ _ _ ((Mono.mono ((((((E11.trans E12).trans E13).trans E10').trans E14).trans E15).trans E16) (OwnedB.read hO1))) ((Mono.mono ((((((E11.trans E12).trans E13).trans E10').trans E14).trans E15).trans E16) (OwnedB.read hQ1)))) ?_
            rintro _ w14 ⟨u4, q4, rfl, E17, hO4, hQ4, hd3⟩; have icu4 := OwnedB.isC (Owned.toB hO4); have cpu4 := OwnedB.capOk (Owned.toB hO4); have icq4 := OwnedB.isC (Owned.toB hQ4); have cpq4 := OwnedB.capOk (Owned.toB hQ4)
            have hs11 := E17.size; refine Wo_nil ?_; refine ⟨(((E14.trans E15).trans E16).trans E17), ?_⟩; refine Wh_all (rs := [4]) (by kernel_rfl) rfl ?_; refine WhAll_cons rfl ?_ ?_
            refine Wo_call rfl (opc2 (a := .int _ _) (b := .agg _) Try.call30 rfl rfl) (k8 _ _ _ ((Owned.read hO4)) ((Owned.read hQ4))) ?_; rintro _ w15 ⟨u5, q5, rfl, E18, hO5, hQ5, hd4⟩; have icu5 := OwnedB.isC (Owned.toB hO5)
            have cpu5 := OwnedB.capOk (Owned.toB hO5); have icq5 := OwnedB.isC (Owned.toB hQ5); have cpq5 := OwnedB.capOk (Owned.toB hQ5); have hs12 := E18.size; refine Wo_nil ?_; refine ⟨((((E14.trans E15).trans E16).trans E17).trans E18), ?_⟩
            refine Wh_take 5 rfl (by kernel_rfl) (by kernel_rfl) rfl (fun _ _ => opv_move (v := .tuple _) rfl) ((((E14.trans E15).trans E16).trans E17).trans E18) ?_
            refine Wh_take 6 rfl (by kernel_rfl) (by kernel_rfl) rfl (fun _ _ => opv_extract (v := .agg _) rfl rfl) ((((E14.trans E15).trans E16).trans E17).trans E18) ?_
            refine Wh_take 7 rfl (by kernel_rfl) (by kernel_rfl) rfl (fun _ _ => opv_extract (v := .bool _) rfl rfl) ((((E14.trans E15).trans E16).trans E17).trans E18) ?_; refine Wh_all (rs := [9]) (by kernel_rfl) rfl ?_
            refine WhAll_cons rfl ?_ ?_
            refine Wo_st2 rfl Try.sizeOf25 rfl rfl (by first | rfl | assumption) (by first | rfl | assumption) (hB3.ext (E17.trans E18)) (by omega) (((((((((E7.trans E11).trans E12).trans E13).trans E10').trans E14).trans E15).trans E16).trans E17).trans E18) ?_
            rintro w16 E19 hB3 K5 hz8
            have E20 := (((((((((E8.trans E11).trans E12).trans E13).trans E10').trans E14).trans E15).trans E16).trans E17).trans E18).wroteAt (((((((((E7.trans E11).trans E12).trans E13).trans E10').trans E14).trans E15).trans E16).trans E17).trans E18) E19 K5 hz8 (by omega)
            have szE20 := E20.size
            have E21 := (((((((((E9.trans E11).trans E12).trans E13).trans E10').trans E14).trans E15).trans E16).trans E17).trans E18).wroteAt (((((((((E7.trans E11).trans E12).trans E13).trans E10').trans E14).trans E15).trans E16).trans E17).trans E18) E19 K5 hz8 (by omega)
            have szE21 := E21.size
            have E22 := (((((((((E10.trans E11).trans E12).trans E13).trans E10').trans E14).trans E15).trans E16).trans E17).trans E18).wroteAt (((((((((E7.trans E11).trans E12).trans E13).trans E10').trans E14).trans E15).trans E16).trans E17).trans E18) E19 K5 hz8 (by omega)
            have szE22 := E22.size
            have E23 := ((((((((E11.trans E12).trans E13).trans E10').trans E14).trans E15).trans E16).trans E17).trans E18).wroteAt (((((((((E7.trans E11).trans E12).trans E13).trans E10').trans E14).trans E15).trans E16).trans E17).trans E18) E19 K5 hz8 (by omega)
            have szE23 := E23.size
            have E24 := (((((((E12.trans E13).trans E10').trans E14).trans E15).trans E16).trans E17).trans E18).wroteAt (((((((((E7.trans E11).trans E12).trans E13).trans E10').trans E14).trans E15).trans E16).trans E17).trans E18) E19 K5 hz8 (by omega)
            have szE24 := E24.size
            have E25 := ((((((E13.trans E10').trans E14).trans E15).trans E16).trans E17).trans E18).wroteAt (((((((((E7.trans E11).trans E12).trans E13).trans E10').trans E14).trans E15).trans E16).trans E17).trans E18) E19 K5 hz8 (by omega)
            have szE25 := E25.size
            have E26 := (((((E10'.trans E14).trans E15).trans E16).trans E17).trans E18).wroteAt (((((((((E7.trans E11).trans E12).trans E13).trans E10').trans E14).trans E15).trans E16).trans E17).trans E18) E19 K5 hz8 (by omega)
            have szE26 := E26.size; have E27 := ((((E14.trans E15).trans E16).trans E17).trans E18).wroteAt (((((((((E7.trans E11).trans E12).trans E13).trans E10').trans E14).trans E15).trans E16).trans E17).trans E18) E19 K5 hz8 (by omega)
            have szE27 := E27.size; have E28 := (((E15.trans E16).trans E17).trans E18).wroteAt (((((((((E7.trans E11).trans E12).trans E13).trans E10').trans E14).trans E15).trans E16).trans E17).trans E18) E19 K5 hz8 (by omega)
            have szE28 := E28.size; have E29 := ((E16.trans E17).trans E18).wroteAt (((((((((E7.trans E11).trans E12).trans E13).trans E10').trans E14).trans E15).trans E16).trans E17).trans E18) E19 K5 hz8 (by omega); have szE29 := E29.size
            have hB2 := (hB2.ext ((((((((E11.trans E12).trans E13).trans E10').trans E14).trans E15).trans E16).trans E17).trans E18)).of_heap (K5 _ (by omega))
            have hO1 := (hO1.ext ((((((((E11.trans E12).trans E13).trans E10').trans E14).trans E15).trans E16).trans E17).trans E18)).wrote K5 (by omega)
            have hQ1 := (hQ1.ext ((((((((E11.trans E12).trans E13).trans E10').trans E14).trans E15).trans E16).trans E17).trans E18)).wrote K5 (by omega)
            have hB1 := (hB1.ext ((((((((E11.trans E12).trans E13).trans E10').trans E14).trans E15).trans E16).trans E17).trans E18)).of_heap (K5 _ (by omega))
            have hO2 := (hO2.ext ((((((((E11.trans E12).trans E13).trans E10').trans E14).trans E15).trans E16).trans E17).trans E18)).wrote K5 (by omega)
            have hQ2 := (hQ2.ext ((((((((E11.trans E12).trans E13).trans E10').trans E14).trans E15).trans E16).trans E17).trans E18)).wrote K5 (by omega)
            have hO3 := (hO3.toB.ext ((((((E13.trans E10').trans E14).trans E15).trans E16).trans E17).trans E18)).wrote K5 (by omega)
            have hQ3 := (hQ3.toB.ext ((((((E13.trans E10').trans E14).trans E15).trans E16).trans E17).trans E18)).wrote K5 (by omega); have hO4 := (hO4.toB.ext E18).wrote K5 (by omega); have hQ4 := (hQ4.toB.ext E18).wrote K5 (by omega)
            have hO5 := hO5.toB.wrote K5 (by omega); have hQ5 := hQ5.toB.wrote K5 (by omega); refine Wo_nil ?_; refine ⟨E27, ?_⟩; refine Wh_take 10 rfl (by kernel_rfl) (by kernel_rfl) rfl (fun _ _ => opv_assign (v := .bool _) rfl) E27 ?_
            refine Wh_done (by kernel_rfl) ?_; rotate_left; exact WhAll_nil; exact WhAll_nil; exact WhAll_nil; exact WhAll_nil; refine WhAll_cons rfl ?_ ?_; refine Wo_alloc2 rfl flat25 ?_; rintro b3 w12 hb3 E15 hB3; have hlb3 := hB3.lt
            have hs9 := E15.size; refine Wo_nil ?_; refine ⟨(E14.trans E15), ?_⟩; refine Wh_all (rs := [1]) (by kernel_rfl) rfl ?_; refine WhAll_cons rfl ?_ ?_
            refine Wo_call rfl (opc2 (a := .agg _) (b := .int _ _) Try.call33 rfl rfl) (k5 _ _ _ ((Mono.mono (((((E11.trans E12).trans E13).trans E10').trans E14).trans E15) (OwnedB.read hO1))) ((Mono.mono (((((E11.trans E12).trans E13).trans E10').trans E14).trans E15) (OwnedB.read hQ1)))) ?_
            rintro _ w13 ⟨rfl, E16⟩; have hs10 := E16.size; refine Wo_nil ?_; refine ⟨((E14.trans E15).trans E16), ?_⟩; refine Wh_all (rs := [3]) (by kernel_rfl) rfl ?_; refine WhAll_cons rfl ?_ ?_
            refine Wo_call rfl (opc2 (a := .agg _) (b := .int _ _) Try.call20 rfl rfl) (k6 _ _ _ ((Mono.mono ((((((E11.trans E12).trans E13).trans E10').trans E14).trans E15).trans E16) (OwnedB.read hO1))) ((Mono.mono ((((((E11.trans E12).trans E13).trans E10').trans E14).trans E15).trans E16) (OwnedB.read hQ1)))) ?_
            rintro _ w14 ⟨u4, q4, rfl, E17, hO4, hQ4, hd3⟩; have icu4 := OwnedB.isC (Owned.toB hO4); have cpu4 := OwnedB.capOk (Owned.toB hO4); have icq4 := OwnedB.isC (Owned.toB hQ4); have cpq4 := OwnedB.capOk (Owned.toB hQ4)
            have hs11 := E17.size; refine Wo_nil ?_; refine ⟨(((E14.trans E15).trans E16).trans E17), ?_⟩; refine Wh_all (rs := [4]) (by kernel_rfl) rfl ?_; refine WhAll_cons rfl ?_ ?_
            refine Wo_call rfl (opc2 (a := .int _ _) (b := .agg _) Try.call30 rfl rfl) (k8 _ _ _ ((Owned.read hO4)) ((Owned.read hQ4))) ?_; rintro _ w15 ⟨u5, q5, rfl, E18, hO5, hQ5, hd4⟩; have icu5 := OwnedB.isC (Owned.toB hO5)
            have cpu5 := OwnedB.capOk (Owned.toB hO5); have icq5 := OwnedB.isC (Owned.toB hQ5); have cpq5 := OwnedB.capOk (Owned.toB hQ5); have hs12 := E18.size; refine Wo_nil ?_; refine ⟨((((E14.trans E15).trans E16).trans E17).trans E18), ?_⟩
            refine Wh_take 5 rfl (by kernel_rfl) (by kernel_rfl) rfl (fun _ _ => opv_move (v := .tuple _) rfl) ((((E14.trans E15).trans E16).trans E17).trans E18) ?_
            refine Wh_take 6 rfl (by kernel_rfl) (by kernel_rfl) rfl (fun _ _ => opv_extract (v := .agg _) rfl rfl) ((((E14.trans E15).trans E16).trans E17).trans E18) ?_
            refine Wh_take 7 rfl (by kernel_rfl) (by kernel_rfl) rfl (fun _ _ => opv_extract (v := .bool _) rfl rfl) ((((E14.trans E15).trans E16).trans E17).trans E18) ?_; refine Wh_all (rs := [9]) (by kernel_rfl) rfl ?_
            refine WhAll_cons rfl ?_ ?_
            refine Wo_st2 rfl Try.sizeOf25 rfl rfl (by first | rfl | assumption) (by first | rfl | assumption) (hB3.ext ((E16.trans E17).trans E18)) (by omega) (((((((((E7.trans E11).trans E12).trans E13).trans E10').trans E14).trans E15).trans E16).trans E17).trans E18) ?_
            rintro w16 E19 hB3 K5 hz8
            have E20 := (((((((((E8.trans E11).trans E12).trans E13).trans E10').trans E14).trans E15).trans E16).trans E17).trans E18).wroteAt (((((((((E7.trans E11).trans E12).trans E13).trans E10').trans E14).trans E15).trans E16).trans E17).trans E18) E19 K5 hz8 (by omega)
            have szE20 := E20.size
            have E21 := (((((((((E9.trans E11).trans E12).trans E13).trans E10').trans E14).trans E15).trans E16).trans E17).trans E18).wroteAt (((((((((E7.trans E11).trans E12).trans E13).trans E10').trans E14).trans E15).trans E16).trans E17).trans E18) E19 K5 hz8 (by omega)
            have szE21 := E21.size
            have E22 := (((((((((E10.trans E11).trans E12).trans E13).trans E10').trans E14).trans E15).trans E16).trans E17).trans E18).wroteAt (((((((((E7.trans E11).trans E12).trans E13).trans E10').trans E14).trans E15).trans E16).trans E17).trans E18) E19 K5 hz8 (by omega)
            have szE22 := E22.size
            have E23 := ((((((((E11.trans E12).trans E13).trans E10').trans E14).trans E15).trans E16).trans E17).trans E18).wroteAt (((((((((E7.trans E11).trans E12).trans E13).trans E10').trans E14).trans E15).trans E16).trans E17).trans E18) E19 K5 hz8 (by omega)
            have szE23 := E23.size
            have E24 := (((((((E12.trans E13).trans E10').trans E14).trans E15).trans E16).trans E17).trans E18).wroteAt (((((((((E7.trans E11).trans E12).trans E13).trans E10').trans E14).trans E15).trans E16).trans E17).trans E18) E19 K5 hz8 (by omega)
            have szE24 := E24.size
            have E25 := ((((((E13.trans E10').trans E14).trans E15).trans E16).trans E17).trans E18).wroteAt (((((((((E7.trans E11).trans E12).trans E13).trans E10').trans E14).trans E15).trans E16).trans E17).trans E18) E19 K5 hz8 (by omega)
            have szE25 := E25.size
            have E26 := (((((E10'.trans E14).trans E15).trans E16).trans E17).trans E18).wroteAt (((((((((E7.trans E11).trans E12).trans E13).trans E10').trans E14).trans E15).trans E16).trans E17).trans E18) E19 K5 hz8 (by omega)
            have szE26 := E26.size; have E27 := ((((E14.trans E15).trans E16).trans E17).trans E18).wroteAt (((((((((E7.trans E11).trans E12).trans E13).trans E10').trans E14).trans E15).trans E16).trans E17).trans E18) E19 K5 hz8 (by omega)
            have szE27 := E27.size; have E28 := (((E15.trans E16).trans E17).trans E18).wroteAt (((((((((E7.trans E11).trans E12).trans E13).trans E10').trans E14).trans E15).trans E16).trans E17).trans E18) E19 K5 hz8 (by omega)
            have szE28 := E28.size; have hB2 := (hB2.ext ((((((((E11.trans E12).trans E13).trans E10').trans E14).trans E15).trans E16).trans E17).trans E18)).of_heap (K5 _ (by omega))
            have hO1 := (hO1.ext ((((((((E11.trans E12).trans E13).trans E10').trans E14).trans E15).trans E16).trans E17).trans E18)).wrote K5 (by omega)
            have hQ1 := (hQ1.ext ((((((((E11.trans E12).trans E13).trans E10').trans E14).trans E15).trans E16).trans E17).trans E18)).wrote K5 (by omega)
            have hB1 := (hB1.ext ((((((((E11.trans E12).trans E13).trans E10').trans E14).trans E15).trans E16).trans E17).trans E18)).of_heap (K5 _ (by omega))
            have hO2 := (hO2.ext ((((((((E11.trans E12).trans E13).trans E10').trans E14).trans E15).trans E16).trans E17).trans E18)).wrote K5 (by omega)
            have hQ2 := (hQ2.ext ((((((((E11.trans E12).trans E13).trans E10').trans E14).trans E15).trans E16).trans E17).trans E18)).wrote K5 (by omega)
            have hO3 := (hO3.toB.ext ((((((E13.trans E10').trans E14).trans E15).trans E16).trans E17).trans E18)).wrote K5 (by omega)
            have hQ3 := (hQ3.toB.ext ((((((E13.trans E10').trans E14).trans E15).trans E16).trans E17).trans E18)).wrote K5 (by omega); have hO4 := (hO4.toB.ext E18).wrote K5 (by omega); have hQ4 := (hQ4.toB.ext E18).wrote K5 (by omega)
            have hO5 := hO5.toB.wrote K5 (by omega); have hQ5 := hQ5.toB.wrote K5 (by omega); refine Wo_nil ?_; refine ⟨E27, ?_⟩; refine Wh_take 10 rfl (by kernel_rfl) (by kernel_rfl) rfl (fun _ _ => opv_assign (v := .bool _) rfl) E27 ?_
            refine Wh_done (by kernel_rfl) ?_; rotate_left; exact WhAll_nil; exact WhAll_nil; exact WhAll_nil; exact WhAll_nil; exact WhAll_nil
          all_goals exact ⟨(b3, u5, q5), ⟨rfl, rfl, trivial⟩, by repeat (first | with_reducible exact Same.refl | refine Same.upd rfl ?_ | refine Same.upds rfl ?_ | refine Same.mix rfl ?_), by assumption, by assumption, hO5.read, hQ5.read⟩
        rintro ⟨b7, uu, qq⟩ ρ7 w11 ⟨E11', hB7, i1, i2⟩
        clear heldS
        have heldS : w11 = w11 := rfl
        focus
          have szE11' := E11'.size; have szE10' := E10'.size; have szE13 := E13.size; have szE12 := E12.size; have szE11 := E11.size; have szE10 := E10.size; have szE9 := E9.size; have szE8 := E8.size; have szE7 := E7.size
          have szE6 := E6.size; have szE5 := E5.size; have szE4 := E4.size; have szE3 := E3.size; have szE2 := E2.size; have szE1 := E1.size; refine W_seq ?_; refine W_held (fun w' => Ext w11 w') mixed rfl (by kernel_rfl) ?_
          intro w12 E14 K4 hz7; have hs8 := E14.size; refine Wh_take 0 rfl (by kernel_rfl) (by kernel_rfl) rfl (fun _ _ => opv_move (v := .bool _) rfl) E14 ?_
          refine Wh_take 1 rfl (by kernel_rfl) (by kernel_rfl) rfl (fun _ _ => opv_not rfl) E14 ?_; refine Wh_take 2 rfl (by kernel_rfl) (by kernel_rfl) rfl (fun _ _ => opv_move (v := .bool _) rfl) E14 ?_
          refine Wh_skip 3 rfl (by kernel_rfl) (by kernel_rfl) rfl E14 ?_; refine Wh_skip 4 rfl (by kernel_rfl) (by kernel_rfl) rfl E14 ?_; refine Wh_skip 5 rfl (by kernel_rfl) (by kernel_rfl) rfl E14 ?_
          refine Wh_skip 6 rfl (by kernel_rfl) (by kernel_rfl) rfl E14 ?_; refine Wh_take 7 rfl (by kernel_rfl) (by kernel_rfl) rfl (fun _ _ => opv_pick_t (v := .bool _) rfl rfl) E14 ?_
          refine Wh_take 8 rfl (by kernel_rfl) (by kernel_rfl) rfl (fun _ _ => opv_move (v := .bool _) rfl) E14 ?_; refine Wh_all (rs := [9]) (by kernel_rfl) rfl ?_; refine WhAll_cons rfl ?_ ?_
          refine Wo_call rfl (opc0 Try.call17) (alive_ok _) ?_; rintro _ w13 ⟨rfl, E15⟩; have hs9 := E15.size; refine Wo_nil ?_; refine ⟨(E14.trans E15), ?_⟩
          refine Wh_take 10 rfl (by kernel_rfl) (by kernel_rfl) rfl (fun _ _ => opv_pick_t (v := .bool _) rfl rfl) (E14.trans E15) ?_
          refine Wh_take 11 rfl (by kernel_rfl) (by kernel_rfl) rfl (fun _ _ => opv_assign (v := .bool _) rfl) (E14.trans E15) ?_; refine Wh_done (by kernel_rfl) ?_; refine W_ret ?_
          exact ⟨rfl, (((((((E7.trans E11).trans E12).trans E13).trans E10').trans E11').trans E14).trans E15)⟩; exact WhAll_nil
      · have stop14 : True := trivial
        focus
          have szE10' := E10'.size; have szE13 := E13.size; have szE12 := E12.size; have szE11 := E11.size; have szE10 := E10.size; have szE9 := E9.size; have szE8 := E8.size; have szE7 := E7.size; have szE6 := E6.size; have szE5 := E5.size
          have szE4 := E4.size; have szE3 := E3.size; have szE2 := E2.size; have szE1 := E1.size; refine W_seq ?_; refine W_seq ?_; refine W_region rfl ?_; refine Wo rfl (opv_move (v := .int _ _) rfl) ?_; refine Wo rfl (opv_lss rfl rfl) ?_
          refine Wo_nil ?_; refine W_cond_dec rfl (fun h4 => ?_) (fun h4 => ?_); contradiction; refine W_exit ?_; refine exitX_same ?_; refine W_seq ?_
        clear stop14
        refine W_mid [48, 49, 50, 51, 52, 53, 54, 55, 7, 8] (fun ((b7, _) : Nat × Value × Value) => [(7, .pointer (some ⟨b7, 0, none⟩)), (8, .bool true)]) (fun (b7, uu, qq) w' => Ext w10 w' ∧ Blk w' b7 [uu, qq] ∧ Ints w' uu (shL f) ∧ Ints w' qq (shR f)) ?_ ?_
        · focus
            have szE10' := E10'.size; have szE13 := E13.size; have szE12 := E12.size; have szE11 := E11.size; have szE10 := E10.size; have szE9 := E9.size; have szE8 := E8.size; have szE7 := E7.size; have szE6 := E6.size; have szE5 := E5.size
            have szE4 := E4.size; have szE3 := E3.size; have szE2 := E2.size; have szE1 := E1.size; refine W_held (fun w' => Ext w10 w') mixed rfl (by kernel_rfl) ?_; intro w11 E14 K4 hz7; have hs8 := E14.size
            refine Wh_take (v := .agg _) 0 rfl (by kernel_rfl) (by kernel_rfl) rfl (fun w' hw' => opv_load2 Try.isAgg25 Try.sizeOf25 rfl (hB1.ext ((((E11.trans E12).trans E13).trans E10').trans hw'))) E14 ?_
            refine Wh_take (v := .agg _) 2 rfl (by kernel_rfl) (by kernel_rfl) rfl (fun w' hw' => opv_load2 Try.isAgg25 Try.sizeOf25 rfl (hB1.ext ((((E11.trans E12).trans E13).trans E10').trans hw'))) E14 ?_
            refine Wh_all (rs := [1, 8]) (by kernel_rfl) rfl ?_; refine WhAll_cons rfl ?_ ?_
            refine Wo_call rfl (opc2 (a := .agg _) (b := .int _ _) Try.call33 rfl rfl) (k5 _ _ _ ((Mono.mono ((((E11.trans E12).trans E13).trans E10').trans E14) (OwnedB.read hO1))) ((Mono.mono ((((E11.trans E12).trans E13).trans E10').trans E14) (OwnedB.read hQ1)))) ?_
            rintro _ w12 ⟨rfl, E15⟩; have hs9 := E15.size; refine Wo_nil ?_; refine ⟨(E14.trans E15), ?_⟩; refine Wh_all (rs := [3, 8]) (by kernel_rfl) rfl ?_; refine WhAll_cons rfl ?_ ?_
            refine Wo_call rfl (opc2 (a := .agg _) (b := .int _ _) Try.call20 rfl rfl) (k6 _ _ _ ((Mono.mono (((((E11.trans E12).trans E13).trans E10').trans E14).trans E15) (OwnedB.read hO1))) ((Mono.mono (((((E11.trans E12).trans E13).trans E10').trans E14).trans E15) (OwnedB.read hQ1)))) ?_
            rintro _ w13 ⟨u4, q4, rfl, E16, hO4, hQ4, hd3⟩; have icu4 := OwnedB.isC (Owned.toB hO4); have cpu4 := OwnedB.capOk (Owned.toB hO4); have icq4 := OwnedB.isC (Owned.toB hQ4); have cpq4 := OwnedB.capOk (Owned.toB hQ4)
            have hs10 := E16.size; refine Wo_nil ?_; refine ⟨((E14.trans E15).trans E16), ?_⟩; refine Wh_all (rs := [4, 8]) (by kernel_rfl) rfl ?_; refine WhAll_cons rfl ?_ ?_
            refine Wo_call rfl (opc2 (a := .int _ _) (b := .agg _) Try.call30 rfl rfl) (k8 _ _ _ ((Owned.read hO4)) ((Owned.read hQ4))) ?_; rintro _ w14 ⟨u5, q5, rfl, E17, hO5, hQ5, hd4⟩; have icu5 := OwnedB.isC (Owned.toB hO5)
            have cpu5 := OwnedB.capOk (Owned.toB hO5); have icq5 := OwnedB.isC (Owned.toB hQ5); have cpq5 := OwnedB.capOk (Owned.toB hQ5); have hs11 := E17.size; refine Wo_nil ?_; refine ⟨(((E14.trans E15).trans E16).trans E17), ?_⟩
            refine Wh_take 5 rfl (by kernel_rfl) (by kernel_rfl) rfl (fun _ _ => opv_move (v := .tuple _) rfl) (((E14.trans E15).trans E16).trans E17) ?_
            refine Wh_take 6 rfl (by kernel_rfl) (by kernel_rfl) rfl (fun _ _ => opv_extract (v := .agg _) rfl rfl) (((E14.trans E15).trans E16).trans E17) ?_
            refine Wh_take 7 rfl (by kernel_rfl) (by kernel_rfl) rfl (fun _ _ => opv_extract (v := .bool _) rfl rfl) (((E14.trans E15).trans E16).trans E17) ?_; refine Wh_all (rs := [8]) (by kernel_rfl) rfl ?_; refine WhAll_cons rfl ?_ ?_
            refine Wo_alloc2 rfl flat25 ?_; rintro b3 w15 hb3 E18 hB3; have hlb3 := hB3.lt; have hs12 := E18.size; refine Wo_nil ?_; refine ⟨((((E14.trans E15).trans E16).trans E17).trans E18), ?_⟩
            refine Wh_all (rs := [9]) (by kernel_rfl) rfl ?_; refine WhAll_cons rfl ?_ ?_
            refine Wo_st2 rfl Try.sizeOf25 rfl rfl (by first | rfl | assumption) (by first | rfl | assumption) hB3 (by omega) (((((((((E7.trans E11).trans E12).trans E13).trans E10').trans E14).trans E15).trans E16).trans E17).trans E18) ?_
            rintro w16 E19 hB3 K5 hz8
            have E20 := (((((((((E8.trans E11).trans E12).trans E13).trans E10').trans E14).trans E15).trans E16).trans E17).trans E18).wroteAt (((((((((E7.trans E11).trans E12).trans E13).trans E10').trans E14).trans E15).trans E16).trans E17).trans E18) E19 K5 hz8 (by omega)
            have szE20 := E20.size
            have E21 := (((((((((E9.trans E11).trans E12).trans E13).trans E10').trans E14).trans E15).trans E16).trans E17).trans E18).wroteAt (((((((((E7.trans E11).trans E12).trans E13).trans E10').trans E14).trans E15).trans E16).trans E17).trans E18) E19 K5 hz8 (by omega)
            have szE21 := E21.size
            have E22 := (((((((((E10.trans E11).trans E12).trans E13).trans E10').trans E14).trans E15).trans E16).trans E17).trans E18).wroteAt (((((((((E7.trans E11).trans E12).trans E13).trans E10').trans E14).trans E15).trans E16).trans E17).trans E18) E19 K5 hz8 (by omega)
            have szE22 := E22.size
            have E23 := ((((((((E11.trans E12).trans E13).trans E10').trans E14).trans E15).trans E16).trans E17).trans E18).wroteAt (((((((((E7.trans E11).trans E12).trans E13).trans E10').trans E14).trans E15).trans E16).trans E17).trans E18) E19 K5 hz8 (by omega)
            have szE23 := E23.size
            have E24 := (((((((E12.trans E13).trans E10').trans E14).trans E15).trans E16).trans E17).trans E18).wroteAt (((((((((E7.trans E11).trans E12).trans E13).trans E10').trans E14).trans E15).trans E16).trans E17).trans E18) E19 K5 hz8 (by omega)
            have szE24 := E24.size
            have E25 := ((((((E13.trans E10').trans E14).trans E15).trans E16).trans E17).trans E18).wroteAt (((((((((E7.trans E11).trans E12).trans E13).trans E10').trans E14).trans E15).trans E16).trans E17).trans E18) E19 K5 hz8 (by omega)
            have szE25 := E25.size
            have E26 := (((((E10'.trans E14).trans E15).trans E16).trans E17).trans E18).wroteAt (((((((((E7.trans E11).trans E12).trans E13).trans E10').trans E14).trans E15).trans E16).trans E17).trans E18) E19 K5 hz8 (by omega)
            have szE26 := E26.size; have E27 := ((((E14.trans E15).trans E16).trans E17).trans E18).wroteAt (((((((((E7.trans E11).trans E12).trans E13).trans E10').trans E14).trans E15).trans E16).trans E17).trans E18) E19 K5 hz8 (by omega)
            have szE27 := E27.size; have E28 := (((E15.trans E16).trans E17).trans E18).wroteAt (((((((((E7.trans E11).trans E12).trans E13).trans E10').trans E14).trans E15).trans E16).trans E17).trans E18) E19 K5 hz8 (by omega)
            have szE28 := E28.size; have E29 := ((E16.trans E17).trans E18).wroteAt (((((((((E7.trans E11).trans E12).trans E13).trans E10').trans E14).trans E15).trans E16).trans E17).trans E18) E19 K5 hz8 (by omega); have szE29 := E29.size
            have E30 := (E17.trans E18).wroteAt (((((((((E7.trans E11).trans E12).trans E13).trans E10').trans E14).trans E15).trans E16).trans E17).trans E18) E19 K5 hz8 (by omega); have szE30 := E30.size
            have E31 := E18.wroteAt (((((((((E7.trans E11).trans E12).trans E13).trans E10').trans E14).trans E15).trans E16).trans E17).trans E18) E19 K5 hz8 (by omega); have szE31 := E31.size
            have hB2 := (hB2.ext ((((((((E11.trans E12).trans E13).trans E10').trans E14).trans E15).trans E16).trans E17).trans E18)).of_heap (K5 _ (by omega))
            have hO1 := (hO1.ext ((((((((E11.trans E12).trans E13).trans E10').trans E14).trans E15).trans E16).trans E17).trans E18)).wrote K5 (by omega)
            have hQ1 := (hQ1.ext ((((((((E11.trans E12).trans E13).trans E10').trans E14).trans E15).trans E16).trans E17).trans E18)).wrote K5 (by omega)
            have hB1 := (hB1.ext ((((((((E11.trans E12).trans E13).trans E10').trans E14).trans E15).trans E16).trans E17).trans E18)).of_heap (K5 _ (by omega))
            have hO2 := (hO2.ext ((((((((E11.trans E12).trans E13).trans E10').trans E14).trans E15).trans E16).trans E17).trans E18)).wrote K5 (by omega)
            have hQ2 := (hQ2.ext ((((((((E11.trans E12).trans E13).trans E10').trans E14).trans E15).trans E16).trans E17).trans E18)).wrote K5 (by omega)
            have hO3 := (hO3.toB.ext ((((((E13.trans E10').trans E14).trans E15).trans E16).trans E17).trans E18)).wrote K5 (by omega)
            have hQ3 := (hQ3.toB.ext ((((((E13.trans E10').trans E14).trans E15).trans E16).trans E17).trans E18)).wrote K5 (by omega); have hO4 := (hO4.toB.ext (E17.trans E18)).wrote K5 (by omega)
            have hQ4 := (hQ4.toB.ext (E17.trans E18)).wrote K5 (by omega); have hO5 := (hO5.toB.ext E18).wrote K5 (by omega); have hQ5 := (hQ5.toB.ext E18).wrote K5 (by omega); refine Wo_nil ?_; refine ⟨E27, ?_⟩
            refine Wh_take 10 rfl (by kernel_rfl) (by kernel_rfl) rfl (fun _ _ => opv_assign (v := .bool _) rfl) E27 ?_; refine Wh_done (by kernel_rfl) ?_; rotate_left; exact WhAll_nil; exact WhAll_nil; refine WhAll_cons rfl ?_ ?_
            refine Wo_alloc2 rfl flat25 ?_; rintro b3 w14 hb3 E17 hB3; have hlb3 := hB3.lt; have hs11 := E17.size; refine Wo_nil ?_; refine ⟨(((E14.trans E15).trans E16).trans E17), ?_⟩; refine Wh_all (rs := [4]) (by kernel_rfl) rfl ?_
            refine WhAll_cons rfl ?_ ?_; refine Wo_call rfl (opc2 (a := .int _ _) (b := .agg _) Try.call30 rfl rfl) (k8 _ _ _ ((Mono.mono E17 (Owned.read hO4))) ((Mono.mono E17 (Owned.read hQ4)))) ?_
            rintro _ w15 ⟨u5, q5, rfl, E18, hO5, hQ5, hd4⟩; have icu5 := OwnedB.isC (Owned.toB hO5); have cpu5 := OwnedB.capOk (Owned.toB hO5); have icq5 := OwnedB.isC (Owned.toB hQ5); have cpq5 := OwnedB.capOk (Owned.toB hQ5)
            have hs12 := E18.size; refine Wo_nil ?_; refine ⟨((((E14.trans E15).trans E16).trans E17).trans E18), ?_⟩
            refine Wh_take 5 rfl (by kernel_rfl) (by kernel_rfl) rfl (fun _ _ => opv_move (v := .tuple _) rfl) ((((E14.trans E15).trans E16).trans E17).trans E18) ?_
            refine Wh_take 6 rfl (by kernel_rfl) (by kernel_rfl) rfl (fun _ _ => opv_extract (v := .agg _) rfl rfl) ((((E14.trans E15).trans E16).trans E17).trans E18) ?_
            refine Wh_take 7 rfl (by kernel_rfl) (by kernel_rfl) rfl (fun _ _ => opv_extract (v := .bool _) rfl rfl) ((((E14.trans E15).trans E16).trans E17).trans E18) ?_; refine Wh_all (rs := [9]) (by kernel_rfl) rfl ?_
            refine WhAll_cons rfl ?_ ?_
            refine Wo_st2 rfl Try.sizeOf25 rfl rfl (by first | rfl | assumption) (by first | rfl | assumption) (hB3.ext E18) (by omega) (((((((((E7.trans E11).trans E12).trans E13).trans E10').trans E14).trans E15).trans E16).trans E17).trans E18) ?_
            rintro w16 E19 hB3 K5 hz8
            have E20 := (((((((((E8.trans E11).trans E12).trans E13).trans E10').trans E14).trans E15).trans E16).trans E17).trans E18).wroteAt (((((((((E7.trans E11).trans E12).trans E13).trans E10').trans E14).trans E15).trans E16).trans E17).trans E18) E19 K5 hz8 (by omega)
            have szE20 := E20.size
            have E21 := (((((((((E9.trans E11).trans E12).trans E13).trans E10').trans E14).trans E15).trans E16).trans E17).trans E18).wroteAt (((((((((E7.trans E11).trans E12).trans E13).trans E10').trans E14).trans E15).trans E16).trans E17).trans E18) E19 K5 hz8 (by omega)
            have szE21 := E21.size
            have E22 := (((((((((E10.trans E11).trans E12).trans E13).trans E10').trans E14).trans E15).trans E16).trans E17).trans E18).wroteAt (((((((((E7.trans E11).trans E12).trans E13).trans E10').trans E14).trans E15).trans E16).trans E17).trans E18) E19 K5 hz8 (by omega)
            have szE22 := E22.size
            have E23 := ((((((((E11.trans E12).trans E13).trans E10').trans E14).trans E15).trans E16).trans E17).trans E18).wroteAt (((((((((E7.trans E11).trans E12).trans E13).trans E10').trans E14).trans E15).trans E16).trans E17).trans E18) E19 K5 hz8 (by omega)
            have szE23 := E23.size
            have E24 := (((((((E12.trans E13).trans E10').trans E14).trans E15).trans E16).trans E17).trans E18).wroteAt (((((((((E7.trans E11).trans E12).trans E13).trans E10').trans E14).trans E15).trans E16).trans E17).trans E18) E19 K5 hz8 (by omega)
            have szE24 := E24.size
            have E25 := ((((((E13.trans E10').trans E14).trans E15).trans E16).trans E17).trans E18).wroteAt (((((((((E7.trans E11).trans E12).trans E13).trans E10').trans E14).trans E15).trans E16).trans E17).trans E18) E19 K5 hz8 (by omega)
            have szE25 := E25.size
            have E26 := (((((E10'.trans E14).trans E15).trans E16).trans E17).trans E18).wroteAt (((((((((E7.trans E11).trans E12).trans E13).trans E10').trans E14).trans E15).trans E16).trans E17).trans E18) E19 K5 hz8 (by omega)
            have szE26 := E26.size; have E27 := ((((E14.trans E15).trans E16).trans E17).trans E18).wroteAt (((((((((E7.trans E11).trans E12).trans E13).trans E10').trans E14).trans E15).trans E16).trans E17).trans E18) E19 K5 hz8 (by omega)
            have szE27 := E27.size; have E28 := (((E15.trans E16).trans E17).trans E18).wroteAt (((((((((E7.trans E11).trans E12).trans E13).trans E10').trans E14).trans E15).trans E16).trans E17).trans E18) E19 K5 hz8 (by omega)
            have szE28 := E28.size; have E29 := ((E16.trans E17).trans E18).wroteAt (((((((((E7.trans E11).trans E12).trans E13).trans E10').trans E14).trans E15).trans E16).trans E17).trans E18) E19 K5 hz8 (by omega); have szE29 := E29.size
            have E30 := (E17.trans E18).wroteAt (((((((((E7.trans E11).trans E12).trans E13).trans E10').trans E14).trans E15).trans E16).trans E17).trans E18) E19 K5 hz8 (by omega); have szE30 := E30.size
            have hB2 := (hB2.ext ((((((((E11.trans E12).trans E13).trans E10').trans E14).trans E15).trans E16).trans E17).trans E18)).of_heap (K5 _ (by omega))
            have hO1 := (hO1.ext ((((((((E11.trans E12).trans E13).trans E10').trans E14).trans E15).trans E16).trans E17).trans E18)).wrote K5 (by omega)
            have hQ1 := (hQ1.ext ((((((((E11.trans E12).trans E13).trans E10').trans E14).trans E15).trans E16).trans E17).trans E18)).wrote K5 (by omega)
            have hB1 := (hB1.ext ((((((((E11.trans E12).trans E13).trans E10').trans E14).trans E15).trans E16).trans E17).trans E18)).of_heap (K5 _ (by omega))
            have hO2 := (hO2.ext ((((((((E11.trans E12).trans E13).trans E10').trans E14).trans E15).trans E16).trans E17).trans E18)).wrote K5 (by omega)
            have hQ2 := (hQ2.ext ((((((((E11.trans E12).trans E13).trans E10').trans E14).trans E15).trans E16).trans E17).trans E18)).wrote K5 (by omega)
            have hO3 := (hO3.toB.ext ((((((E13.trans E10').trans E14).trans E15).trans E16).trans E17).trans E18)).wrote K5 (by omega)
            have hQ3 := (hQ3.toB.ext ((((((E13.trans E10').trans E14).trans E15).trans E16).trans E17).trans E18)).wrote K5 (by omega); have hO4 := (hO4.toB.ext (E17.trans E18)).wrote K5 (by omega)
            have hQ4 := (hQ4.toB.ext (E17.trans E18)).wrote K5 (by omega); have hO5 := hO5.toB.wrote K5 (by omega); have hQ5 := hQ5.toB.wrote K5 (by omega); refine Wo_nil ?_; refine ⟨E27, ?_⟩
            refine Wh_take 10 rfl (by kernel_rfl) (by kernel_rfl) rfl (fun _ _ => opv_assign (v := .bool _) rfl) E27 ?_; refine Wh_done (by kernel_rfl) ?_; rotate_left; exact WhAll_nil; exact WhAll_nil; exact WhAll_nil
            refine WhAll_cons rfl ?_ ?_; refine Wo_alloc2 rfl flat25 ?_; rintro b3 w13 hb3 E16 hB3; have hlb3 := hB3.lt; have hs10 := E16.size; refine Wo_nil ?_; refine ⟨((E14.trans E15).trans E16), ?_⟩
            refine Wh_all (rs := [3]) (by kernel_rfl) rfl ?_; refine WhAll_cons rfl ?_ ?_
            refine Wo_call rfl (opc2 (a := .agg _) (b := .int _ _) Try.call20 rfl rfl) (k6 _ _ _ ((Mono.mono ((((((E11.trans E12).trans E13).trans E10').trans E14).trans E15).trans E16) (OwnedB.read hO1))) ((Mono.mono ((((((E11.trans E12).trans E13).trans E10').trans E14).trans E15).trans E16) (OwnedB.read hQ1)))) ?_
            rintro _ w14 ⟨u4, q4, rfl, E17, hO4, hQ4, hd3⟩; have icu4 := OwnedB.isC (Owned.toB hO4); have cpu4 := OwnedB.capOk (Owned.toB hO4); have icq4 := OwnedB.isC (Owned.toB hQ4); have cpq4 := OwnedB.capOk (Owned.toB hQ4)
            have hs11 := E17.size; refine Wo_nil ?_; refine ⟨(((E14.trans E15).trans E16).trans E17), ?_⟩; refine Wh_all (rs := [4]) (by kernel_rfl) rfl ?_; refine WhAll_cons rfl ?_ ?_
            refine Wo_call rfl (opc2 (a := .int _ _) (b := .agg _) Try.call30 rfl rfl) (k8 _ _ _ ((Owned.read hO4)) ((Owned.read hQ4))) ?_; rintro _ w15 ⟨u5, q5, rfl, E18, hO5, hQ5, hd4⟩; have icu5 := OwnedB.isC (Owned.toB hO5)
            have cpu5 := OwnedB.capOk (Owned.toB hO5); have icq5 := OwnedB.isC (Owned.toB hQ5); have cpq5 := OwnedB.capOk (Owned.toB hQ5); have hs12 := E18.size; refine Wo_nil ?_; refine ⟨((((E14.trans E15).trans E16).trans E17).trans E18), ?_⟩
            refine Wh_take 5 rfl (by kernel_rfl) (by kernel_rfl) rfl (fun _ _ => opv_move (v := .tuple _) rfl) ((((E14.trans E15).trans E16).trans E17).trans E18) ?_
            refine Wh_take 6 rfl (by kernel_rfl) (by kernel_rfl) rfl (fun _ _ => opv_extract (v := .agg _) rfl rfl) ((((E14.trans E15).trans E16).trans E17).trans E18) ?_
            refine Wh_take 7 rfl (by kernel_rfl) (by kernel_rfl) rfl (fun _ _ => opv_extract (v := .bool _) rfl rfl) ((((E14.trans E15).trans E16).trans E17).trans E18) ?_; refine Wh_all (rs := [9]) (by kernel_rfl) rfl ?_
            refine WhAll_cons rfl ?_ ?_
            refine Wo_st2 rfl Try.sizeOf25 rfl rfl (by first | rfl | assumption) (by first | rfl | assumption) (hB3.ext (E17.trans E18)) (by omega) (((((((((E7.trans E11).trans E12).trans E13).trans E10').trans E14).trans E15).trans E16).trans E17).trans E18) ?_
            rintro w16 E19 hB3 K5 hz8
            have E20 := (((((((((E8.trans E11).trans E12).trans E13).trans E10').trans E14).trans E15).trans E16).trans E17).trans E18).wroteAt (((((((((E7.trans E11).trans E12).trans E13).trans E10').trans E14).trans E15).trans E16).trans E17).trans E18) E19 K5 hz8 (by omega)
            have szE20 := E20.size
            have E21 := (((((((((E9.trans E11).trans E12).trans E13).trans E10').trans E14).trans E15).trans E16).trans E17).trans E18).wroteAt (((((((((E7.trans E11).trans E12).trans E13).trans E10').trans E14).trans E15).trans E16).trans E17).trans E18) E19 K5 hz8 (by omega)
            have szE21 := E21.size
            have E22 := (((((((((E10.trans E11).trans E12).trans E13).trans E10').trans E14).trans E15).trans E16).trans E17).trans E18).wroteAt (((((((((E7.trans E11).trans E12).trans E13).trans E10').trans E14).trans E15).trans E16).trans E17).trans E18) E19 K5 hz8 (by omega)
            have szE22 := E22.size
            have E23 := ((((((((E11.trans E12).trans E13).trans E10').trans E14).trans E15).trans E16).trans E17).trans E18).wroteAt (((((((((E7.trans E11).trans E12).trans E13).trans E10').trans E14).trans E15).trans E16).trans E17).trans E18) E19 K5 hz8 (by omega)
            have szE23 := E23.size
            have E24 := (((((((E12.trans E13).trans E10').trans E14).trans E15).trans E16).trans E17).trans E18).wroteAt (((((((((E7.trans E11).trans E12).trans E13).trans E10').trans E14).trans E15).trans E16).trans E17).trans E18) E19 K5 hz8 (by omega)
            have szE24 := E24.size
            have E25 := ((((((E13.trans E10').trans E14).trans E15).trans E16).trans E17).trans E18).wroteAt (((((((((E7.trans E11).trans E12).trans E13).trans E10').trans E14).trans E15).trans E16).trans E17).trans E18) E19 K5 hz8 (by omega)
            have szE25 := E25.size
            have E26 := (((((E10'.trans E14).trans E15).trans E16).trans E17).trans E18).wroteAt (((((((((E7.trans E11).trans E12).trans E13).trans E10').trans E14).trans E15).trans E16).trans E17).trans E18) E19 K5 hz8 (by omega)
            have szE26 := E26.size; have E27 := ((((E14.trans E15).trans E16).trans E17).trans E18).wroteAt (((((((((E7.trans E11).trans E12).trans E13).trans E10').trans E14).trans E15).trans E16).trans E17).trans E18) E19 K5 hz8 (by omega)
            have szE27 := E27.size; have E28 := (((E15.trans E16).trans E17).trans E18).wroteAt (((((((((E7.trans E11).trans E12).trans E13).trans E10').trans E14).trans E15).trans E16).trans E17).trans E18) E19 K5 hz8 (by omega)
            have szE28 := E28.size; have E29 := ((E16.trans E17).trans E18).wroteAt (((((((((E7.trans E11).trans E12).trans E13).trans E10').trans E14).trans E15).trans E16).trans E17).trans E18) E19 K5 hz8 (by omega); have szE29 := E29.size
            have hB2 := (hB2.ext ((((((((E11.trans E12).trans E13).trans E10').trans E14).trans E15).trans E16).trans E17).trans E18)).of_heap (K5 _ (by omega))
            have hO1 := (hO1.ext ((((((((E11.trans E12).trans E13).trans E10').trans E14).trans E15).trans E16).trans E17).trans E18)).wrote K5 (by omega)
            have hQ1 := (hQ1.ext ((((((((E11.trans E12).trans E13).trans E10').trans E14).trans E15).trans E16).trans E17).trans E18)).wrote K5 (by omega)
            have hB1 := (hB1.ext ((((((((E11.trans E12).trans E13).trans E10').trans E14).trans E15).trans E16).trans E17).trans E18)).of_heap (K5 _ (by omega))
            have hO2 := (hO2.ext ((((((((E11.trans E12).trans E13).trans E10').trans E14).trans E15).trans E16).trans E17).trans E18)).wrote K5 (by omega)
            have hQ2 := (hQ2.ext ((((((((E11.trans E12).trans E13).trans E10').trans E14).trans E15).trans E16).trans E17).trans E18)).wrote K5 (by omega)
            have hO3 := (hO3.toB.ext ((((((E13.trans E10').trans E14).trans E15).trans E16).trans E17).trans E18)).wrote K5 (by omega)
            have hQ3 := (hQ3.toB.ext ((((((E13.trans E10').trans E14).trans E15).trans E16).trans E17).trans E18)).wrote K5 (by omega); have hO4 := (hO4.toB.ext E18).wrote K5 (by omega); have hQ4 := (hQ4.toB.ext E18).wrote K5 (by omega)
            have hO5 := hO5.toB.wrote K5 (by omega); have hQ5 := hQ5.toB.wrote K5 (by omega); refine Wo_nil ?_; refine ⟨E27, ?_⟩; refine Wh_take 10 rfl (by kernel_rfl) (by kernel_rfl) rfl (fun _ _ => opv_assign (v := .bool _) rfl) E27 ?_
            refine Wh_done (by kernel_rfl) ?_; rotate_left; exact WhAll_nil; exact WhAll_nil; exact WhAll_nil; exact WhAll_nil; refine WhAll_cons rfl ?_ ?_; refine Wo_alloc2 rfl flat25 ?_; rintro b3 w12 hb3 E15 hB3; have hlb3 := hB3.lt
            have hs9 := E15.size; refine Wo_nil ?_; refine ⟨(E14.trans E15), ?_⟩; refine Wh_all (rs := [1]) (by kernel_rfl) rfl ?_; refine WhAll_cons rfl ?_ ?_
            refine Wo_call rfl (opc2 (a := .agg _) (b := .int _ _) Try.call33 rfl rfl) (k5 _ _ _ ((Mono.mono (((((E11.trans E12).trans E13).trans E10').trans E14).trans E15) (OwnedB.read hO1))) ((Mono.mono (((((E11.trans E12).trans E13).trans E10').trans E14).trans E15) (OwnedB.read hQ1)))) ?_
            rintro _ w13 ⟨rfl, E16⟩; have hs10 := E16.size; refine Wo_nil ?_; refine ⟨((E14.trans E15).trans E16), ?_⟩; refine Wh_all (rs := [3]) (by kernel_rfl) rfl ?_; refine WhAll_cons rfl ?_ ?_
            refine Wo_call rfl (opc2 (a := .agg _) (b := .int _ _) Try.call20 rfl rfl) (k6 _ _ _ ((Mono.mono ((((((E11.trans E12).trans E13).trans E10').trans E14).trans E15).trans E16) (OwnedB.read hO1))) ((Mono.mono ((((((E11.trans E12).trans E13).trans E10').trans E14).trans E15).trans E16) (OwnedB.read hQ1)))) ?_
            rintro _ w14 ⟨u4, q4, rfl, E17, hO4, hQ4, hd3⟩; have icu4 := OwnedB.isC (Owned.toB hO4); have cpu4 := OwnedB.capOk (Owned.toB hO4); have icq4 := OwnedB.isC (Owned.toB hQ4); have cpq4 := OwnedB.capOk (Owned.toB hQ4)
            have hs11 := E17.size; refine Wo_nil ?_; refine ⟨(((E14.trans E15).trans E16).trans E17), ?_⟩; refine Wh_all (rs := [4]) (by kernel_rfl) rfl ?_; refine WhAll_cons rfl ?_ ?_
            refine Wo_call rfl (opc2 (a := .int _ _) (b := .agg _) Try.call30 rfl rfl) (k8 _ _ _ ((Owned.read hO4)) ((Owned.read hQ4))) ?_; rintro _ w15 ⟨u5, q5, rfl, E18, hO5, hQ5, hd4⟩; have icu5 := OwnedB.isC (Owned.toB hO5)
            have cpu5 := OwnedB.capOk (Owned.toB hO5); have icq5 := OwnedB.isC (Owned.toB hQ5); have cpq5 := OwnedB.capOk (Owned.toB hQ5); have hs12 := E18.size; refine Wo_nil ?_; refine ⟨((((E14.trans E15).trans E16).trans E17).trans E18), ?_⟩
            refine Wh_take 5 rfl (by kernel_rfl) (by kernel_rfl) rfl (fun _ _ => opv_move (v := .tuple _) rfl) ((((E14.trans E15).trans E16).trans E17).trans E18) ?_
            refine Wh_take 6 rfl (by kernel_rfl) (by kernel_rfl) rfl (fun _ _ => opv_extract (v := .agg _) rfl rfl) ((((E14.trans E15).trans E16).trans E17).trans E18) ?_
            refine Wh_take 7 rfl (by kernel_rfl) (by kernel_rfl) rfl (fun _ _ => opv_extract (v := .bool _) rfl rfl) ((((E14.trans E15).trans E16).trans E17).trans E18) ?_; refine Wh_all (rs := [9]) (by kernel_rfl) rfl ?_
            refine WhAll_cons rfl ?_ ?_
            refine Wo_st2 rfl Try.sizeOf25 rfl rfl (by first | rfl | assumption) (by first | rfl | assumption) (hB3.ext ((E16.trans E17).trans E18)) (by omega) (((((((((E7.trans E11).trans E12).trans E13).trans E10').trans E14).trans E15).trans E16).trans E17).trans E18) ?_
            rintro w16 E19 hB3 K5 hz8
            have E20 := (((((((((E8.trans E11).trans E12).trans E13).trans E10').trans E14).trans E15).trans E16).trans E17).trans E18).wroteAt (((((((((E7.trans E11).trans E12).trans E13).trans E10').trans E14).trans E15).trans E16).trans E17).trans E18) E19 K5 hz8 (by omega)
            have szE20 := E20.size
            have E21 := (((((((((E9.trans E11).trans E12).trans E13).trans E10').trans E14).trans E15).trans E16).trans E17).trans E18).wroteAt (((((((((E7.trans E11).trans E12).trans E13).trans E10').trans E14).trans E15).trans E16).trans E17).trans E18) E19 K5 hz8 (by omega)
            have szE21 := E21.size
            have E22 := (((((((((E10.trans E11).trans E12).trans E13).trans E10').trans E14).trans E15).trans E16).trans E17).trans E18).wroteAt (((((((((E7.trans E11).trans E12).trans E13).trans E10').trans E14).trans E15).trans E16).trans E17).trans E18) E19 K5 hz8 (by omega)
            have szE22 := E22.size
            have E23 := ((((((((E11.trans E12).trans E13).trans E10').trans E14).trans E15).trans E16).trans E17).trans E18).wroteAt (((((((((E7.trans E11).trans E12).trans E13).trans E10').trans E14).trans E15).trans E16).trans E17).trans E18) E19 K5 hz8 (by omega)
            have szE23 := E23.size
            have E24 := (((((((E12.trans E13).trans E10').trans E14).trans E15).trans E16).trans E17).trans E18).wroteAt (((((((((E7.trans E11).trans E12).trans E13).trans E10').trans E14).trans E15).trans E16).trans E17).trans E18) E19 K5 hz8 (by omega)
            have szE24 := E24.size
            have E25 := ((((((E13.trans E10').trans E14).trans E15).trans E16).trans E17).trans E18).wroteAt (((((((((E7.trans E11).trans E12).trans E13).trans E10').trans E14).trans E15).trans E16).trans E17).trans E18) E19 K5 hz8 (by omega)
            have szE25 := E25.size
            have E26 := (((((E10'.trans E14).trans E15).trans E16).trans E17).trans E18).wroteAt (((((((((E7.trans E11).trans E12).trans E13).trans E10').trans E14).trans E15).trans E16).trans E17).trans E18) E19 K5 hz8 (by omega)
            have szE26 := E26.size; have E27 := ((((E14.trans E15).trans E16).trans E17).trans E18).wroteAt (((((((((E7.trans E11).trans E12).trans E13).trans E10').trans E14).trans E15).trans E16).trans E17).trans E18) E19 K5 hz8 (by omega)
            have szE27 := E27.size; have E28 := (((E15.trans E16).trans E17).trans E18).wroteAt (((((((((E7.trans E11).trans E12).trans E13).trans E10').trans E14).trans E15).trans E16).trans E17).trans E18) E19 K5 hz8 (by omega)
            have szE28 := E28.size; have hB2 := (hB2.ext ((((((((E11.trans E12).trans E13).trans E10').trans E14).trans E15).trans E16).trans E17).trans E18)).of_heap (K5 _ (by omega))
            have hO1 := (hO1.ext ((((((((E11.trans E12).trans E13).trans E10').trans E14).trans E15).trans E16).trans E17).trans E18)).wrote K5 (by omega)
            have hQ1 := (hQ1.ext ((((((((E11.trans E12).trans E13).trans E10').trans E14).trans E15).trans E16).trans E17).trans E18)).wrote K5 (by omega)
            have hB1 := (hB1.ext ((((((((E11.trans E12).trans E13).trans E10').trans E14).trans E15).trans E16).trans E17).trans E18)).of_heap (K5 _ (by omega))
            have hO2 := (hO2.ext ((((((((E11.trans E12).trans E13).trans E10').trans E14).trans E15).trans E16).trans E17).trans E18)).wrote K5 (by omega)
            have hQ2 := (hQ2.ext ((((((((E11.trans E12).trans E13).trans E10').trans E14).trans E15).trans E16).trans E17).trans E18)).wrote K5 (by omega)
            have hO3 := (hO3.toB.ext ((((((E13.trans E10').trans E14).trans E15).trans E16).trans E17).trans E18)).wrote K5 (by omega)
            have hQ3 := (hQ3.toB.ext ((((((E13.trans E10').trans E14).trans E15).trans E16).trans E17).trans E18)).wrote K5 (by omega); have hO4 := (hO4.toB.ext E18).wrote K5 (by omega); have hQ4 := (hQ4.toB.ext E18).wrote K5 (by omega)
            have hO5 := hO5.toB.wrote K5 (by omega); have hQ5 := hQ5.toB.wrote K5 (by omega); refine Wo_nil ?_; refine ⟨E27, ?_⟩; refine Wh_take 10 rfl (by kernel_rfl) (by kernel_rfl) rfl (fun _ _ => opv_assign (v := .bool _) rfl) E27 ?_
            refine Wh_done (by kernel_rfl) ?_; rotate_left; exact WhAll_nil; exact WhAll_nil; exact WhAll_nil; exact WhAll_nil; exact WhAll_nil
          all_goals exact ⟨(b3, u5, q5), ⟨rfl, rfl, trivial⟩, by repeat (first | with_reducible exact Same.refl | refine Same.upd rfl ?_ | refine Same.upds rfl ?_ | refine Same.mix rfl ?_), by assumption, by assumption, hO5.read, hQ5.read⟩
        rintro ⟨b7, uu, qq⟩ ρ7 w11 ⟨E11', hB7, i1, i2⟩
        clear heldS
        have heldS : w11 = w11 := rfl
        focus
          have szE11' := E11'.size; have szE10' := E10'.size; have szE13 := E13.size; have szE12 := E12.size; have szE11 := E11.size; have szE10 := E10.size; have szE9 := E9.size; have szE8 := E8.size; have szE7 := E7.size
          have szE6 := E6.size; have szE5 := E5.size; have szE4 := E4.size; have szE3 := E3.size; have szE2 := E2.size; have szE1 := E1.size; refine W_seq ?_; refine W_held (fun w' => Ext w11 w') mixed rfl (by kernel_rfl) ?_
          intro w12 E14 K4 hz7; have hs8 := E14.size; refine Wh_take 0 rfl (by kernel_rfl) (by kernel_rfl) rfl (fun _ _ => opv_move (v := .bool _) rfl) E14 ?_
          refine Wh_take 1 rfl (by kernel_rfl) (by kernel_rfl) rfl (fun _ _ => opv_not rfl) E14 ?_; refine Wh_take 2 rfl (by kernel_rfl) (by kernel_rfl) rfl (fun _ _ => opv_move (v := .bool _) rfl) E14 ?_
          refine Wh_take (v := .agg _) 3 rfl (by kernel_rfl) (by kernel_rfl) rfl (fun w' hw' => opv_load2 Try.isAgg25 Try.sizeOf25 rfl (hB7.ext hw')) E14 ?_
          refine Wh_take (v := .agg _) 4 rfl (by kernel_rfl) (by kernel_rfl) rfl (fun w' hw' => opv_load2 Try.isAgg25 Try.sizeOf25 rfl (hB1.ext (((((E11.trans E12).trans E13).trans E10').trans E11').trans hw'))) E14 ?_
          refine Wh_all (rs := [5]) (by kernel_rfl) rfl ?_; refine WhAll_cons rfl ?_ ?_
          refine Wo_call rfl (opc1 (a := .agg _) Try.call19 rfl) (k7 _ _ _ ((Mono.mono (((((E11.trans E12).trans E13).trans E10').trans E11').trans E14) (OwnedB.read hO1))) ((Mono.mono (((((E11.trans E12).trans E13).trans E10').trans E11').trans E14) (OwnedB.read hQ1)))) ?_
          rintro _ w13 ⟨u4, q4, rfl, E15, hO4, hQ4, hd3⟩; have icu4 := OwnedB.isC (Owned.toB hO4); have cpu4 := OwnedB.capOk (Owned.toB hO4); have icq4 := OwnedB.isC (Owned.toB hQ4); have cpq4 := OwnedB.capOk (Owned.toB hQ4)
          have hs9 := E15.size; refine Wo_nil ?_; refine ⟨(E14.trans E15), ?_⟩; refine Wh_all (rs := [6]) (by kernel_rfl) rfl ?_; refine WhAll_cons rfl ?_ ?_
          refine Wo_call rfl (opc2 (a := .agg _) (b := .agg _) Try.call18 rfl rfl) (same_str _ _ _ _ _ _ _ ((Mono.mono (E14.trans E15) i1)) ((Mono.mono (E14.trans E15) i2)) ((Owned.read hO4)) ((Owned.read hQ4))) ?_; rintro _ w14 ⟨rfl, E16⟩
          have hs10 := E16.size; refine Wo_nil ?_; refine ⟨((E14.trans E15).trans E16), ?_⟩; refine Wh_take 7 rfl (by kernel_rfl) (by kernel_rfl) rfl (fun _ _ => opv_pick_f (v := .bool _) rfl rfl) ((E14.trans E15).trans E16) ?_
          refine Wh_take 8 rfl (by kernel_rfl) (by kernel_rfl) rfl (fun _ _ => opv_move (v := .bool _) rfl) ((E14.trans E15).trans E16) ?_; refine Wh_all (rs := [9]) (by kernel_rfl) rfl ?_; refine WhAll_cons rfl ?_ ?_
          refine Wo_call rfl (opc0 Try.call17) (alive_ok _) ?_; rintro _ w15 ⟨rfl, E17⟩; have hs11 := E17.size; refine Wo_nil ?_; refine ⟨(((E14.trans E15).trans E16).trans E17), ?_⟩
          refine Wh_take 10 rfl (by kernel_rfl) (by kernel_rfl) rfl (fun _ _ => opv_pick_t (v := .bool _) rfl rfl) (((E14.trans E15).trans E16).trans E17) ?_
          refine Wh_take 11 rfl (by kernel_rfl) (by kernel_rfl) rfl (fun _ _ => opv_assign (v := .bool _) rfl) (((E14.trans E15).trans E16).trans E17) ?_; refine Wh_done (by kernel_rfl) ?_; refine W_ret ?_
          exact ⟨rfl, (((((((((E7.trans E11).trans E12).trans E13).trans E10').trans E11').trans E14).trans E15).trans E16).trans E17)⟩; exact WhAll_nil; exact WhAll_nil; exact WhAll_nil
  · have eR : rstV x1 y1 z1 = ([], []) := if_neg hs
    have k1 : ∀ (w : World) (u1 u2 : Value), Ints w u1 x1 → Ints w u2 y1 → Does Try.prog 20 [.agg #[u1, u2], .int .i64 z1] w (RetS2 w 3 [] []) := fun w u1 u2 h1 h2 => by
      have := impl_RestOf_ok w u1 u2 _ _ h1 h2 (by omega) (by omega) z1
      rw [eR] at this; exact this
    have k2 : ∀ (w : World) (u1 u2 : Value), Ints w u1 x1 → Ints w u2 y1 → CapOk u1 → Does Try.prog 22 [.agg #[u1, u2], .int .i64 z1] w (RetS2 w 3 [] []) := fun w u1 u2 h1 h2 hc => by
      have := spec_RestOf_ok w u1 u2 _ _ h1 h2 hc (by omega) (by omega) z1
      rw [eR] at this; exact this
    have k3 : ∀ (w : World) (u1 u2 : Value), Ints w u1 [] → Ints w u2 [] → Does Try.prog 32 [.agg #[u1, u2]] w (Ret w (.bool true)) := fun w u1 u2 h1 h2 => noStream_ok w u1 u2 [] [] h1 h2
    have hz9 : (([] : List Int).length : Int) = 0 := rfl
    focus
      have szE4 := E4.size; have szE3 := E3.size; have szE2 := E2.size; have szE1 := E1.size; refine W_region rfl ?_; refine Wo (v := .agg _) rfl (opv_load2 Try.isAgg25 Try.sizeOf25 rfl hB1) ?_
      refine Wo rfl (opv_move (v := .int _ _) rfl) ?_; refine Wo_call rfl (opc2 (a := .agg _) (b := .int _ _) Try.call20 rfl rfl) (k1 _ _ _ (r1) (r2)) ?_; rintro _ w4 ⟨u2, q2, rfl, E5, hO2, hQ2, hd1⟩
      have icu2 := OwnedB.isC (Owned.toB hO2); have cpu2 := OwnedB.capOk (Owned.toB hO2); have icq2 := OwnedB.isC (Owned.toB hQ2); have cpq2 := OwnedB.capOk (Owned.toB hQ2); have hs3 := E5.size; refine Wo_alloc2 rfl flat25 ?_
      rintro b2 w5 hb2 E6 hB2; have hlb2 := hB2.lt; have hs4 := E6.size; refine Wo_st2 rfl Try.sizeOf25 rfl rfl (by first | rfl | assumption) (by first | rfl | assumption) hB2 (by omega) ((E3.trans E5).trans E6) ?_
      rintro w6 E7 hB2 K2 hz3; have E8 := ((E4.trans E5).trans E6).wroteAt ((E3.trans E5).trans E6) E7 K2 hz3 (by omega); have szE8 := E8.size; have E9 := (E5.trans E6).wroteAt ((E3.trans E5).trans E6) E7 K2 hz3 (by omega)
      have szE9 := E9.size; have E10 := E6.wroteAt ((E3.trans E5).trans E6) E7 K2 hz3 (by omega); have szE10 := E10.size; have hO1 := (hO1.toB.ext ((E4.trans E5).trans E6)).wrote K2 (by omega)
      have hQ1 := (hQ1.toB.ext ((E4.trans E5).trans E6)).wrote K2 (by omega); have hB1 := (hB1.ext (E5.trans E6)).of_heap (K2 _ (by omega)); have hO2 := (hO2.toB.ext E6).wrote K2 (by omega)
      have hQ2 := (hQ2.toB.ext E6).wrote K2 (by omega); refine Wo_nil ?_; refine W_seq ?_; refine W_seq ?_; refine W_held (fun _ => True) mixed rfl (by kernel_rfl) ?_; intro w7 E11 K3 hz4; have hs5 := E11.size
      refine Wh_take 2 rfl (by kernel_rfl) (by kernel_rfl) rfl (fun _ _ => opv_move (v := .int _ _) rfl) trivial ?_; refine Wh_all (rs := [0, 1]) (by kernel_rfl) rfl ?_; refine WhAll_cons rfl ?_ ?_
      refine Wo (v := .agg _) rfl (opv_load2 Try.isAgg25 Try.sizeOf25 rfl (hB2.ext E11)) ?_; refine Wo_nil ?_; refine ⟨trivial, ?_⟩; refine Wh_all (rs := [1]) (by kernel_rfl) rfl ?_; refine WhAll_cons rfl ?_ ?_
      refine Wo (v := .agg _) rfl (opv_load2 Try.isAgg25 Try.sizeOf25 rfl (hB1.ext E11)) ?_; refine Wo_nil ?_; refine ⟨trivial, ?_⟩; refine Wh_all (rs := [3]) (by kernel_rfl) rfl ?_; refine WhAll_cons rfl ?_ ?_
      refine Wo_call rfl (opc2 (a := .agg _) (b := .int _ _) Try.call22 rfl rfl) (k2 _ _ _ ((Mono.mono E11 (OwnedB.read hO1))) ((Mono.mono E11 (OwnedB.read hQ1))) (by assumption)) ?_; rintro _ w8 ⟨u3, q3, rfl, E12, hO3, hQ3, hd2⟩
      have icu3 := OwnedB.isC (Owned.toB hO3); have cpu3 := OwnedB.capOk (Owned.toB hO3); have icq3 := OwnedB.isC (Owned.toB hQ3); have cpq3 := OwnedB.capOk (Owned.toB hQ3); have hs6 := E12.size; refine Wo_nil ?_; refine ⟨trivial, ?_⟩
      refine Wh_all (rs := [4]) (by kernel_rfl) rfl ?_; refine WhAll_cons rfl ?_ ?_
      refine Wo_call rfl (opc2 (a := .agg _) (b := .agg _) Try.call18 rfl rfl) (same_str _ _ _ _ _ _ _ ((Mono.mono (E11.trans E12) (OwnedB.read hO2))) ((Mono.mono (E11.trans E12) (OwnedB.read hQ2))) ((Owned.read hO3)) ((Owned.read hQ3))) ?_
      rintro _ w9 ⟨rfl, E13⟩; have hs7 := E13.size; refine Wo_nil ?_; refine ⟨trivial, ?_⟩; refine Wh_take 5 rfl (by kernel_rfl) (by kernel_rfl) rfl (fun _ _ => opv_not rfl) trivial ?_; refine Wh_done (by kernel_rfl) ?_
      refine W_cond rfl (fun h2 => ?_) (fun h2 => ?_); contradiction; refine W_skip ?_; refine W_seq ?_; refine W_seq ?_; refine W_region rfl ?_; refine Wo rfl (opv_fieldAddr Try.underlying25 rfl rfl Try.sizeOf23 rfl) ?_
      refine Wo (v := q2) rfl (opv_load Try.isAgg23 rfl ((hB2.ext ((E11.trans E12).trans E13)).cell rfl)) ?_; refine Wo rfl (opv_len Try.underlying23 rfl (OwnedB.read hQ2)) ?_; refine Wo rfl (opv_eql rfl rfl) ?_; refine Wo_nil ?_
      refine W_cond_dec rfl (fun h3 => ?_) (fun h3 => ?_); refine W_seq ?_; refine W_region rfl ?_; refine Wo (v := .agg _) rfl (opv_load2 Try.isAgg25 Try.sizeOf25 rfl (hB2.ext ((E11.trans E12).trans E13))) ?_
      refine Wo_call rfl (opc1 (a := .agg _) Try.call32 rfl) (k3 _ _ _ ((Mono.mono ((E11.trans E12).trans E13) (OwnedB.read hO2))) ((Mono.mono ((E11.trans E12).trans E13) (OwnedB.read hQ2)))) ?_; rintro _ w10 ⟨rfl, E14⟩
      have hs8 := E14.size; refine Wo rfl (opv_move (v := .bool _) rfl) ?_; refine Wo_call rfl (opc0 Try.call17) (alive_ok _) ?_; rintro _ w11 ⟨rfl, E15⟩; have hs9 := E15.size; refine Wo rfl (opv_pick_t (v := .bool _) rfl rfl) ?_
      refine Wo rfl (opv_assign (v := .bool _) rfl) ?_; refine Wo_nil ?_; refine W_ret ?_; exact ⟨rfl, (((((E7.trans E11).trans E12).trans E13).trans E14).trans E15)⟩; contradiction; exact WhAll_nil; exact WhAll_nil; exact WhAll_nil
      refine WhAll_cons rfl ?_ ?_; refine Wo (v := .agg _) rfl (opv_load2 Try.isAgg25 Try.sizeOf25 rfl (hB1.ext E11)) ?_; refine Wo_nil ?_; refine ⟨trivial, ?_⟩; refine Wh_all (rs := [0, 3]) (by kernel_rfl) rfl ?_
      refine WhAll_cons rfl ?_ ?_; refine Wo (v := .agg _) rfl (opv_load2 Try.isAgg25 Try.sizeOf25 rfl (hB2.ext E11)) ?_; refine Wo_nil ?_; refine ⟨trivial, ?_⟩; refine Wh_all (rs := [3]) (by kernel_rfl) rfl ?_
      refine WhAll_cons rfl ?_ ?_; refine Wo_call rfl (opc2 (a := .agg _) (b := .int _ _) Try.call22 rfl rfl) (k2 _ _ _ ((Mono.mono E11 (OwnedB.read hO1))) ((Mono.mono E11 (OwnedB.read hQ1))) (by assumption)) ?_
      rintro _ w8 ⟨u3, q3, rfl, E12, hO3, hQ3, hd2⟩; have icu3 := OwnedB.isC (Owned.toB hO3); have cpu3 := OwnedB.capOk (Owned.toB hO3); have icq3 := OwnedB.isC (Owned.toB hQ3); have cpq3 := OwnedB.capOk (Owned.toB hQ3)
      have hs6 := E12.size; refine Wo_nil ?_; refine ⟨trivial, ?_⟩; refine Wh_all (rs := [4]) (by kernel_rfl) rfl ?_; refine WhAll_cons rfl ?_ ?_
      refine Wo_call rfl (opc2 (a := .agg _) (b := .agg _) Try.call18 rfl rfl) (same_str _ _ _ _ _ _ _ ((Mono.mono (E11.trans E12) (OwnedB.read hO2))) ((Mono.mono (E11.trans E12) (OwnedB.read hQ2))) ((Owned.read hO3)) ((Owned.read hQ3))) ?_
      rintro _ w9 ⟨rfl, E13⟩; have hs7 := E13.size; refine Wo_nil ?_; refine ⟨trivial, ?_⟩; refine Wh_take 5 rfl (by kernel_rfl) (by kernel_rfl) rfl (fun _ _ => opv_not rfl) trivial ?_; refine Wh_done (by kernel_rfl) ?_
      refine W_cond rfl (fun h2 => ?_) (fun h2 => ?_); contradiction; refine W_skip ?_; refine W_seq ?_; refine W_seq ?_; refine W_region rfl ?_; refine Wo rfl (opv_fieldAddr Try.underlying25 rfl rfl Try.sizeOf23 rfl) ?_
      refine Wo (v := q2) rfl (opv_load Try.isAgg23 rfl ((hB2.ext ((E11.trans E12).trans E13)).cell rfl)) ?_; refine Wo rfl (opv_len Try.underlying23 rfl (OwnedB.read hQ2)) ?_; refine Wo rfl (opv_eql rfl rfl) ?_; refine Wo_nil ?_
      refine W_cond_dec rfl (fun h3 => ?_) (fun h3 => ?_); refine W_seq ?_; refine W_region rfl ?_; refine Wo (v := .agg _) rfl (opv_load2 Try.isAgg25 Try.sizeOf25 rfl (hB2.ext ((E11.trans E12).trans E13))) ?_
      refine Wo_call rfl (opc1 (a := .agg _) Try.call32 rfl) (k3 _ _ _ ((Mono.mono ((E11.trans E12).trans E13) (OwnedB.read hO2))) ((Mono.mono ((E11.trans E12).trans E13) (OwnedB.read hQ2)))) ?_; rintro _ w10 ⟨rfl, E14⟩
      have hs8 := E14.size; refine Wo rfl (opv_move (v := .bool _) rfl) ?_; refine Wo_call rfl (opc0 Try.call17) (alive_ok _) ?_; rintro _ w11 ⟨rfl, E15⟩; have hs9 := E15.size; refine Wo rfl (opv_pick_t (v := .bool _) rfl rfl) ?_
      refine Wo rfl (opv_assign (v := .bool _) rfl) ?_; refine Wo_nil ?_; refine W_ret ?_; exact ⟨rfl, (((((E7.trans E11).trans E12).trans E13).trans E14).trans E15)⟩; contradiction; exact WhAll_nil; exact WhAll_nil
      refine WhAll_cons rfl ?_ ?_; refine Wo_call rfl (opc2 (a := .agg _) (b := .int _ _) Try.call22 rfl rfl) (k2 _ _ _ ((Mono.mono E11 (OwnedB.read hO1))) ((Mono.mono E11 (OwnedB.read hQ1))) (by assumption)) ?_
      rintro _ w8 ⟨u3, q3, rfl, E12, hO3, hQ3, hd2⟩; have icu3 := OwnedB.isC (Owned.toB hO3); have cpu3 := OwnedB.capOk (Owned.toB hO3); have icq3 := OwnedB.isC (Owned.toB hQ3); have cpq3 := OwnedB.capOk (Owned.toB hQ3)
      have hs6 := E12.size; refine Wo_nil ?_; refine ⟨trivial, ?_⟩; refine Wh_all (rs := [0]) (by kernel_rfl) rfl ?_; refine WhAll_cons rfl ?_ ?_
      refine Wo (v := .agg _) rfl (opv_load2 Try.isAgg25 Try.sizeOf25 rfl (hB2.ext (E11.trans E12))) ?_; refine Wo_nil ?_; refine ⟨trivial, ?_⟩; refine Wh_all (rs := [4]) (by kernel_rfl) rfl ?_; refine WhAll_cons rfl ?_ ?_
      refine Wo_call rfl (opc2 (a := .agg _) (b := .agg _) Try.call18 rfl rfl) (same_str _ _ _ _ _ _ _ ((Mono.mono (E11.trans E12) (OwnedB.read hO2))) ((Mono.mono (E11.trans E12) (OwnedB.read hQ2))) ((Owned.read hO3)) ((Owned.read hQ3))) ?_
      rintro _ w9 ⟨rfl, E13⟩; have hs7 := E13.size; refine Wo_nil ?_; refine ⟨trivial, ?_⟩; refine Wh_take 5 rfl (by kernel_rfl) (by kernel_rfl) rfl (fun _ _ => opv_not rfl) trivial ?_; refine Wh_done (by kernel_rfl) ?_
      refine W_cond rfl (fun h2 => ?_) (fun h2 => ?_); contradiction; refine W_skip ?_; refine W_seq ?_; refine W_seq ?_; refine W_region rfl ?_; refine Wo rfl (opv_fieldAddr Try.underlying25 rfl rfl Try.sizeOf23 rfl) ?_
      refine Wo (v := q2) rfl (opv_load Try.isAgg23 rfl ((hB2.ext ((E11.trans E12).trans E13)).cell rfl)) ?_; refine Wo rfl (opv_len Try.underlying23 rfl (OwnedB.read hQ2)) ?_; refine Wo rfl (opv_eql rfl rfl) ?_; refine Wo_nil ?_
      refine W_cond_dec rfl (fun h3 => ?_) (fun h3 => ?_); refine W_seq ?_; refine W_region rfl ?_; refine Wo (v := .agg _) rfl (opv_load2 Try.isAgg25 Try.sizeOf25 rfl (hB2.ext ((E11.trans E12).trans E13))) ?_
      refine Wo_call rfl (opc1 (a := .agg _) Try.call32 rfl) (k3 _ _ _ ((Mono.mono ((E11.trans E12).trans E13) (OwnedB.read hO2))) ((Mono.mono ((E11.trans E12).trans E13) (OwnedB.read hQ2)))) ?_; rintro _ w10 ⟨rfl, E14⟩
      have hs8 := E14.size; refine Wo rfl (opv_move (v := .bool _) rfl) ?_; refine Wo_call rfl (opc0 Try.call17) (alive_ok _) ?_; rintro _ w11 ⟨rfl, E15⟩; have hs9 := E15.size; refine Wo rfl (opv_pick_t (v := .bool _) rfl rfl) ?_
      refine Wo rfl (opv_assign (v := .bool _) rfl) ?_; refine Wo_nil ?_; refine W_ret ?_; exact ⟨rfl, (((((E7.trans E11).trans E12).trans E13).trans E14).trans E15)⟩; contradiction; exact WhAll_nil; exact WhAll_nil; exact WhAll_nil
      exact WhAll_nil

end Go.Proofs.Ytlalfmialbolhaa
