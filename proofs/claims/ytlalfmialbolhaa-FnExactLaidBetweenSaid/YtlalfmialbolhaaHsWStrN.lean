/- Walks: the exact law of two streams laid between each other. -/
import Derived.Test.YtlalfmialbolhaaHsWStrM
namespace Go.Proofs.Ytlalfmialbolhaa
open Go.Hs
set_option maxRecDepth 10000
set_option maxHeartbeats 4000000
set_option linter.unusedVariables false
set_option linter.unusedSimpArgs false
theorem per_le {f : Nat → Int} {a p : Nat} (h : Per f a p) : (shL f).length ≤ a ∧ (shR f).length ≤ p := ⟨(sh_len h).1, (sh_len h).2.1⟩
theorem lbV_len (A B A' B' : List Int) : (lbV A B A' B').1.length ≤ 12 ∧ (lbV A B A' B').2.1.length ≤ 12 := by
  unfold lbV
  split
  · rename_i h
    obtain ⟨h1, h2, h3, h4, h5⟩ := h
    have e1 : (shL (bat A B)).length = shA (bat A B) := win_len
    have e2 : (shR (bat A B)).length = shP (bat A B) := win_len
    have e3 : (shL (bat A' B')).length = shA (bat A' B') := win_len
    have e4 : (shR (bat A' B')).length = shP (bat A' B') := win_len
    have := per_lcm (h1.sh.1.up (show shA (bat A B) ≤ 1 by omega)) (h2.sh.1.up (show shA (bat A' B') ≤ 1 by omega))
    have hp := per_le (per_lay this.1 this.2)
    rw [e2, e4] at h5
    simp only; omega
  · simp

theorem markStreamB_ok (w : World) {lo hi : Nat} (u1 u2 : Value) (A B : List Int) (h1 : OwnedB lo hi XI w u1 A) (h2 : OwnedB lo hi XI w u2 B) (hd : u1.ownBlock ≠ u2.ownBlock ∨ u1.ownBlock = none) (hlh : lo ≤ hi) (hhi : hi ≤ w.heap.size) (k0 : Int) (hk0 : 0 ≤ k0 ∧ k0 ≤ 4194304) (hA : A.length ≤ 1048576) (hB : B.length ≤ 1048576) :
    Does Try.prog 25 [.agg #[u1, u2], .int .i64 k0] w (RetSS lo hi w (.int .i64 (k0 + A.length + B.length)) 3 u1 (marks k0 A.length) u2 (marks (k0 + A.length) B.length)) := by
  obtain ⟨l1, g1, l2, g2, k1, k2, hap, e1, e2, e3, e4⟩ := own_apart h1 h2 hd hlh
  clear h1 h2
  refine fn_of_W1 Try.func25 rfl Try.results25 Try.ntmps25 rfl ?_
  focus
    refine W_seq ?_; refine W_region rfl ?_; refine Wo_box rfl rfl rfl ?_; rintro b1 w1 hb1 E1 hB1; have hlb1 := hB1.lt; have hs1 := E1.size; refine Wo rfl (opv_assign (v := .int _ _) rfl) ?_; refine Wo_nil ?_; refine W_seq ?_
    refine W_region rfl ?_; refine Wo rfl (opv_fieldAddr Try.underlying25 rfl rfl Try.sizeOf23 rfl) ?_; refine Wo (v := u1) rfl (opv_load Try.isAgg23 rfl (hB1.cell rfl)) ?_; refine Wo rfl (opv_move (v := .int _ _) rfl) ?_
    refine Wo_call rfl (opc2 (a := u1) (b := .int _ _) Try.call67 rfl rfl) (markIntS_ok _ _ _ ((k1.ext E1)) _ (by omega) (by omega)) ?_; rintro _ w2 ⟨rfl, E2, hO1⟩; have k2 := (k2.ext E1).span E2 (by omega)
    have hB1 := hB1.span E2 (by omega); have hs2 := E2.size; refine Wo rfl (opv_assign (v := .int _ _) rfl) ?_; refine Wo_nil ?_; refine W_seq ?_; refine W_region rfl ?_
    refine Wo rfl (opv_fieldAddr Try.underlying25 rfl rfl Try.sizeOf23 rfl) ?_; refine Wo (v := u2) rfl (opv_load Try.isAgg23 rfl (hB1.cell rfl)) ?_; refine Wo rfl (opv_move (v := .int _ _) rfl) ?_
    refine Wo_call rfl (opc2 (a := u2) (b := .int _ _) Try.call67 rfl rfl) (markIntS_ok _ _ _ (k2) _ (by omega) (by omega)) ?_; rintro _ w3 ⟨rfl, E3, hO2⟩; have hO1 := hO1.span E3 (by omega); have hB1 := hB1.span E3 (by omega)
    have hs3 := E3.size; refine Wo rfl (opv_assign (v := .int _ _) rfl) ?_; refine Wo_nil ?_; refine W_seq ?_; refine W_region rfl ?_; refine Wo rfl (opv_move (v := .int _ _) rfl) ?_; refine Wo rfl (opv_assign (v := .int _ _) rfl) ?_
    refine Wo_nil ?_; refine W_ret ?_; refine at_ret (v := .int _ _) rfl ?_
  exact ⟨rfl, (ext_span E1).trans ((E2.mono e1 e2).trans (E3.mono e3 e4)), own_wide hO1 e1 e2, own_wide hO2 e3 e4⟩

theorem FnExactLaidBetween_walk (w : World) (u1 u2 : Value) (A B : List Int) (h1 : Ints w u1 A) (h2 : Ints w u2 B) (v1 v2 : Value) (A' B' : List Int) (h3 : Ints w v1 A') (h4 : Ints w v2 B') :
    Does Try.prog 8 [.agg #[u1, u2], .agg #[v1, v2]] w (Ret w (.bool true)) := by
  refine fn_of_W1 Try.func8 rfl Try.results8 Try.ntmps8 rfl ?_
  have stop8 : True := trivial
  focus
    refine W_seq ?_; refine W_region rfl ?_; refine Wo_box rfl rfl rfl ?_; rintro b1 w1 hb1 E1 hB1; have hlb1 := hB1.lt; have hs1 := E1.size; refine Wo_box rfl rfl rfl ?_; rintro b2 w2 hb2 E2 hB2; have hlb2 := hB2.lt
    have hs2 := E2.size; refine Wo rfl (opv_assign (v := .bool _) rfl) ?_; refine Wo_nil ?_; refine W_seq ?_; refine W_region rfl ?_; refine Wo rfl (opv_assign (v := .int _ _) rfl) ?_; refine Wo_nil ?_; refine W_seq ?_
    refine W_region rfl ?_; refine Wo (v := .agg _) rfl (opv_load2 Try.isAgg34 Try.sizeOf34 rfl (hB1.ext E2)) ?_; refine Wo rfl (opv_move (v := .int _ _) rfl) ?_
    refine Wo_call rfl (opc2 (a := .agg _) (b := .int _ _) Try.call21 rfl rfl) (szStream_ok _ _ _ _ _ ((Mono.mono (E1.trans E2) h1)) ((Mono.mono (E1.trans E2) h2)) _ (by omega)) ?_; rintro _ w3 ⟨E3, y1, rfl, hy1⟩; have hs3 := E3.size
    refine Wo rfl (opv_assign (v := .int _ _) rfl) ?_; refine Wo_nil ?_; refine W_seq ?_; refine W_seq ?_; refine W_region rfl ?_; refine Wo rfl (opv_move (v := .int _ _) rfl) ?_; refine Wo rfl (opv_lss rfl rfl) ?_; refine Wo_nil ?_
    refine W_cond_dec rfl (fun h5 => ?_) (fun h5 => ?_); refine W_seq ?_; refine W_region rfl ?_; refine Wo rfl (opv_assign (v := .bool _) rfl) ?_; refine Wo_nil ?_; refine W_ret ?_; exact ⟨rfl, ((E1.trans E2).trans E3)⟩
    refine W_skip ?_; refine W_seq ?_; refine W_region rfl ?_; refine Wo (v := .agg _) rfl (opv_load2 Try.isAgg34 Try.sizeOf34 rfl (hB2.ext E3)) ?_; refine Wo rfl (opv_move (v := .int _ _) rfl) ?_
    refine Wo_call rfl (opc2 (a := .agg _) (b := .int _ _) Try.call21 rfl rfl) (szStream_ok _ _ _ _ _ ((Mono.mono ((E1.trans E2).trans E3) h3)) ((Mono.mono ((E1.trans E2).trans E3) h4)) _ (by omega)) ?_; rintro _ w4 ⟨E4, y2, rfl, hy2⟩
    have hs4 := E4.size; refine Wo rfl (opv_assign (v := .int _ _) rfl) ?_; refine Wo_nil ?_; refine W_seq ?_; refine W_seq ?_; refine W_region rfl ?_; refine Wo rfl (opv_move (v := .int _ _) rfl) ?_; refine Wo rfl (opv_lss rfl rfl) ?_
    refine Wo_nil ?_; refine W_cond_dec rfl (fun h6 => ?_) (fun h6 => ?_); refine W_seq ?_; refine W_region rfl ?_; refine Wo rfl (opv_assign (v := .bool _) rfl) ?_; refine Wo_nil ?_; refine W_ret ?_
    exact ⟨rfl, (((E1.trans E2).trans E3).trans E4)⟩; refine W_skip ?_; refine W_seq ?_
  rcases hy1 with h9 | ⟨h5, h6, h7, h8⟩
  · omega
  rcases hy2 with h9 | ⟨g5, g6, g7, g8⟩
  · omega
  obtain ⟨hX, hY⟩ := lbV_len A B A' B'
  have k1 : ∀ (w : World) (u1 u2 v1 v2 : Value), Ints w u1 A → Ints w u2 B → Ints w v1 A' → Ints w v2 B' → Does Try.prog 35 [.agg #[u1, u2], .agg #[v1, v2]] w (RetS2b w 3 (lbV A B A' B').1 (lbV A B A' B').2.1 (lbV A B A' B').2.2) := fun w u1 u2 v1 v2 h1 h2 h3 h4 => spec_LaidBetween_ok w u1 u2 v1 v2 A B A' B' h1 h2 h3 h4 (by omega) (by omega) (by omega) (by omega)
  have k2 : ∀ (w : World) (u1 u2 v1 v2 : Value), Ints w u1 A → Ints w u2 B → Ints w v1 A' → Ints w v2 B' → Does Try.prog 36 [.agg #[u1, u2], .agg #[v1, v2]] w (RetS2b w 3 (lbV A B A' B').1 (lbV A B A' B').2.1 (lbV A B A' B').2.2) := fun w u1 u2 v1 v2 h1 h2 h3 h4 => impl_LaidBetween_ok w u1 u2 v1 v2 A B A' B' h1 h2 h3 h4 (by omega) (by omega) (by omega) (by omega)
  generalize (lbV A B A' B').1 = X at *
  generalize (lbV A B A' B').2.1 = Y at *
  generalize (lbV A B A' B').2.2 = bb at *
  clear stop8
  cases bb
  · have heldS : w4 = w4 := rfl
    refine W_mid [27, 28, 29, 30, 31, 32, 33, 34, 6, 7] (fun ((b6, _) : Nat × Value × Value) => [(6, .pointer (some ⟨b6, 0, none⟩)), (7, .bool false)]) (fun (b6, uw, qw) w' => Ext w4 w' ∧ Blk w' b6 [uw, qw] ∧ Ints w' uw X ∧ Ints w' qw Y) ?_ ?_
    · focus
        have szE4 := E4.size; have szE3 := E3.size; have szE2 := E2.size; have szE1 := E1.size; refine W_held (fun w' => Ext w4 w') mixed rfl (by kernel_rfl) ?_; intro w5 E5 K1 hz1; have hs5 := E5.size
        refine Wh_take (v := .agg _) 0 rfl (by kernel_rfl) (by kernel_rfl) rfl (fun w' hw' => opv_load2 Try.isAgg34 Try.sizeOf34 rfl (hB1.ext (((E2.trans E3).trans E4).trans hw'))) E5 ?_
        refine Wh_take (v := .agg _) 2 rfl (by kernel_rfl) (by kernel_rfl) rfl (fun w' hw' => opv_load2 Try.isAgg34 Try.sizeOf34 rfl (hB2.ext ((E3.trans E4).trans hw'))) E5 ?_; refine Wh_all (rs := [1, 8]) (by kernel_rfl) rfl ?_
        refine WhAll_cons rfl ?_ ?_
        refine Wo_call rfl (opc1 (a := .agg _) Try.call23 rfl) (toStream_ok _ _ _ _ _ ((Mono.mono ((((E1.trans E2).trans E3).trans E4).trans E5) h1)) ((Mono.mono ((((E1.trans E2).trans E3).trans E4).trans E5) h2)) (by assumption) (by assumption)) ?_
        rintro _ w6 ⟨u3, q1, rfl, E6, hO1, hQ1, hd1⟩; have icu3 := OwnedB.isC (Owned.toB hO1); have cpu3 := OwnedB.capOk (Owned.toB hO1); have icq1 := OwnedB.isC (Owned.toB hQ1); have cpq1 := OwnedB.capOk (Owned.toB hQ1)
        have hs6 := E6.size; refine Wo_nil ?_; refine ⟨(E5.trans E6), ?_⟩; refine Wh_all (rs := [3, 8]) (by kernel_rfl) rfl ?_; refine WhAll_cons rfl ?_ ?_
        refine Wo_call rfl (opc1 (a := .agg _) Try.call23 rfl) (toStream_ok _ _ _ _ _ ((Mono.mono (((((E1.trans E2).trans E3).trans E4).trans E5).trans E6) h3)) ((Mono.mono (((((E1.trans E2).trans E3).trans E4).trans E5).trans E6) h4)) (by assumption) (by assumption)) ?_
        rintro _ w7 ⟨u4, q2, rfl, E7, hO2, hQ2, hd2⟩; have icu4 := OwnedB.isC (Owned.toB hO2); have cpu4 := OwnedB.capOk (Owned.toB hO2); have icq2 := OwnedB.isC (Owned.toB hQ2); have cpq2 := OwnedB.capOk (Owned.toB hQ2)
        have hs7 := E7.size; refine Wo_nil ?_; refine ⟨((E5.trans E6).trans E7), ?_⟩; refine Wh_all (rs := [4, 8]) (by kernel_rfl) rfl ?_; refine WhAll_cons rfl ?_ ?_
        refine Wo_call rfl (opc2 (a := .agg _) (b := .agg _) Try.call35 rfl rfl) (k1 _ _ _ _ _ ((Mono.mono E7 (Owned.read hO1))) ((Mono.mono E7 (Owned.read hQ1))) ((Owned.read hO2)) ((Owned.read hQ2))) ?_
        rintro _ w8 ⟨u5, q3, rfl, E8, hO3, hQ3, hd3⟩; have icu5 := OwnedB.isC (Owned.toB hO3); have cpu5 := OwnedB.capOk (Owned.toB hO3); have icq3 := OwnedB.isC (Owned.toB hQ3); have cpq3 := OwnedB.capOk (Owned.toB hQ3)
        have hs8 := E8.size; refine Wo_nil ?_; refine ⟨(((E5.trans E6).trans E7).trans E8), ?_⟩; refine Wh_take 5 rfl (by kernel_rfl) (by kernel_rfl) rfl (fun _ _ => opv_move (v := .tuple _) rfl) (((E5.trans E6).trans E7).trans E8) ?_
        refine Wh_take 6 rfl (by kernel_rfl) (by kernel_rfl) rfl (fun _ _ => opv_extract (v := .agg _) rfl rfl) (((E5.trans E6).trans E7).trans E8) ?_
        refine Wh_take 7 rfl (by kernel_rfl) (by kernel_rfl) rfl (fun _ _ => opv_extract (v := .bool _) rfl rfl) (((E5.trans E6).trans E7).trans E8) ?_; refine Wh_all (rs := [8]) (by kernel_rfl) rfl ?_; refine WhAll_cons rfl ?_ ?_
        refine Wo_alloc2 rfl flat25 ?_; rintro b3 w9 hb3 E9 hB3; have hlb3 := hB3.lt; have hs9 := E9.size; refine Wo_nil ?_; refine ⟨((((E5.trans E6).trans E7).trans E8).trans E9), ?_⟩; refine Wh_all (rs := [9]) (by kernel_rfl) rfl ?_
        refine WhAll_cons rfl ?_ ?_
        refine Wo_st2 rfl Try.sizeOf25 rfl rfl (by first | rfl | assumption) (by first | rfl | assumption) hB3 (by omega) ((((((((E1.trans E2).trans E3).trans E4).trans E5).trans E6).trans E7).trans E8).trans E9) ?_
        rintro w10 E10 hB3 K2 hz2
        have E11 := (((((((E2.trans E3).trans E4).trans E5).trans E6).trans E7).trans E8).trans E9).wroteAt ((((((((E1.trans E2).trans E3).trans E4).trans E5).trans E6).trans E7).trans E8).trans E9) E10 K2 hz2 (by omega)
        have szE11 := E11.size; have E12 := ((((((E3.trans E4).trans E5).trans E6).trans E7).trans E8).trans E9).wroteAt ((((((((E1.trans E2).trans E3).trans E4).trans E5).trans E6).trans E7).trans E8).trans E9) E10 K2 hz2 (by omega)
        have szE12 := E12.size; have E13 := (((((E4.trans E5).trans E6).trans E7).trans E8).trans E9).wroteAt ((((((((E1.trans E2).trans E3).trans E4).trans E5).trans E6).trans E7).trans E8).trans E9) E10 K2 hz2 (by omega)
        have szE13 := E13.size; have E14 := ((((E5.trans E6).trans E7).trans E8).trans E9).wroteAt ((((((((E1.trans E2).trans E3).trans E4).trans E5).trans E6).trans E7).trans E8).trans E9) E10 K2 hz2 (by omega); have szE14 := E14.size
        have E15 := (((E6.trans E7).trans E8).trans E9).wroteAt ((((((((E1.trans E2).trans E3).trans E4).trans E5).trans E6).trans E7).trans E8).trans E9) E10 K2 hz2 (by omega); have szE15 := E15.size
        have E16 := ((E7.trans E8).trans E9).wroteAt ((((((((E1.trans E2).trans E3).trans E4).trans E5).trans E6).trans E7).trans E8).trans E9) E10 K2 hz2 (by omega); have szE16 := E16.size
        have E17 := (E8.trans E9).wroteAt ((((((((E1.trans E2).trans E3).trans E4).trans E5).trans E6).trans E7).trans E8).trans E9) E10 K2 hz2 (by omega); have szE17 := E17.size
        have E18 := E9.wroteAt ((((((((E1.trans E2).trans E3).trans E4).trans E5).trans E6).trans E7).trans E8).trans E9) E10 K2 hz2 (by omega); have szE18 := E18.size
        have hB1 := (hB1.ext (((((((E2.trans E3).trans E4).trans E5).trans E6).trans E7).trans E8).trans E9)).of_heap (K2 _ (by omega))
        have hB2 := (hB2.ext ((((((E3.trans E4).trans E5).trans E6).trans E7).trans E8).trans E9)).of_heap (K2 _ (by omega)); have hO1 := (hO1.toB.ext ((E7.trans E8).trans E9)).wrote K2 (by omega)
        have hQ1 := (hQ1.toB.ext ((E7.trans E8).trans E9)).wrote K2 (by omega); have hO2 := (hO2.toB.ext (E8.trans E9)).wrote K2 (by omega); have hQ2 := (hQ2.toB.ext (E8.trans E9)).wrote K2 (by omega)
        have hO3 := (hO3.toB.ext E9).wrote K2 (by omega); have hQ3 := (hQ3.toB.ext E9).wrote K2 (by omega); refine Wo_nil ?_; refine ⟨E14, ?_⟩
        refine Wh_take 10 rfl (by kernel_rfl) (by kernel_rfl) rfl (fun _ _ => opv_assign (v := .bool _) rfl) E14 ?_; refine Wh_done (by kernel_rfl) ?_; rotate_left; exact WhAll_nil; exact WhAll_nil; refine WhAll_cons rfl ?_ ?_
        refine Wo_alloc2 rfl flat25 ?_; rintro b3 w8 hb3 E8 hB3; have hlb3 := hB3.lt; have hs8 := E8.size; refine Wo_nil ?_; refine ⟨(((E5.trans E6).trans E7).trans E8), ?_⟩; refine Wh_all (rs := [4]) (by kernel_rfl) rfl ?_
        refine WhAll_cons rfl ?_ ?_
        refine Wo_call rfl (opc2 (a := .agg _) (b := .agg _) Try.call35 rfl rfl) (k1 _ _ _ _ _ ((Mono.mono (E7.trans E8) (Owned.read hO1))) ((Mono.mono (E7.trans E8) (Owned.read hQ1))) ((Mono.mono E8 (Owned.read hO2))) ((Mono.mono E8 (Owned.read hQ2)))) ?_
        rintro _ w9 ⟨u5, q3, rfl, E9, hO3, hQ3, hd3⟩; have icu5 := OwnedB.isC (Owned.toB hO3); have cpu5 := OwnedB.capOk (Owned.toB hO3); have icq3 := OwnedB.isC (Owned.toB hQ3); have cpq3 := OwnedB.capOk (Owned.toB hQ3)
        have hs9 := E9.size; refine Wo_nil ?_; refine ⟨((((E5.trans E6).trans E7).trans E8).trans E9), ?_⟩
        refine Wh_take 5 rfl (by kernel_rfl) (by kernel_rfl) rfl (fun _ _ => opv_move (v := .tuple _) rfl) ((((E5.trans E6).trans E7).trans E8).trans E9) ?_
        refine Wh_take 6 rfl (by kernel_rfl) (by kernel_rfl) rfl (fun _ _ => opv_extract (v := .agg _) rfl rfl) ((((E5.trans E6).trans E7).trans E8).trans E9) ?_
        refine Wh_take 7 rfl (by kernel_rfl) (by kernel_rfl) rfl (fun _ _ => opv_extract (v := .bool _) rfl rfl) ((((E5.trans E6).trans E7).trans E8).trans E9) ?_; refine Wh_all (rs := [9]) (by kernel_rfl) rfl ?_
        refine WhAll_cons rfl ?_ ?_
        refine Wo_st2 rfl Try.sizeOf25 rfl rfl (by first | rfl | assumption) (by first | rfl | assumption) (hB3.ext E9) (by omega) ((((((((E1.trans E2).trans E3).trans E4).trans E5).trans E6).trans E7).trans E8).trans E9) ?_
        rintro w10 E10 hB3 K2 hz2
        have E11 := (((((((E2.trans E3).trans E4).trans E5).trans E6).trans E7).trans E8).trans E9).wroteAt ((((((((E1.trans E2).trans E3).trans E4).trans E5).trans E6).trans E7).trans E8).trans E9) E10 K2 hz2 (by omega)
        have szE11 := E11.size; have E12 := ((((((E3.trans E4).trans E5).trans E6).trans E7).trans E8).trans E9).wroteAt ((((((((E1.trans E2).trans E3).trans E4).trans E5).trans E6).trans E7).trans E8).trans E9) E10 K2 hz2 (by omega)
        have szE12 := E12.size; have E13 := (((((E4.trans E5).trans E6).trans E7).trans E8).trans E9).wroteAt ((((((((E1.trans E2).trans E3).trans E4).trans E5).trans E6).trans E7).trans E8).trans E9) E10 K2 hz2 (by omega)
        have szE13 := E13.size; have E14 := ((((E5.trans E6).trans E7).trans E8).trans E9).wroteAt ((((((((E1.trans E2).trans E3).trans E4).trans E5).trans E6).trans E7).trans E8).trans E9) E10 K2 hz2 (by omega); have szE14 := E14.size
        have E15 := (((E6.trans E7).trans E8).trans E9).wroteAt ((((((((E1.trans E2).trans E3).trans E4).trans E5).trans E6).trans E7).trans E8).trans E9) E10 K2 hz2 (by omega); have szE15 := E15.size
        have E16 := ((E7.trans E8).trans E9).wroteAt ((((((((E1.trans E2).trans E3).trans E4).trans E5).trans E6).trans E7).trans E8).trans E9) E10 K2 hz2 (by omega); have szE16 := E16.size
        have E17 := (E8.trans E9).wroteAt ((((((((E1.trans E2).trans E3).trans E4).trans E5).trans E6).trans E7).trans E8).trans E9) E10 K2 hz2 (by omega); have szE17 := E17.size
        have hB1 := (hB1.ext (((((((E2.trans E3).trans E4).trans E5).trans E6).trans E7).trans E8).trans E9)).of_heap (K2 _ (by omega))
        have hB2 := (hB2.ext ((((((E3.trans E4).trans E5).trans E6).trans E7).trans E8).trans E9)).of_heap (K2 _ (by omega)); have hO1 := (hO1.toB.ext ((E7.trans E8).trans E9)).wrote K2 (by omega)
        have hQ1 := (hQ1.toB.ext ((E7.trans E8).trans E9)).wrote K2 (by omega); have hO2 := (hO2.toB.ext (E8.trans E9)).wrote K2 (by omega); have hQ2 := (hQ2.toB.ext (E8.trans E9)).wrote K2 (by omega)
        have hO3 := hO3.toB.wrote K2 (by omega); have hQ3 := hQ3.toB.wrote K2 (by omega); refine Wo_nil ?_; refine ⟨E14, ?_⟩; refine Wh_take 10 rfl (by kernel_rfl) (by kernel_rfl) rfl (fun _ _ => opv_assign (v := .bool _) rfl) E14 ?_
        refine Wh_done (by kernel_rfl) ?_; rotate_left; exact WhAll_nil; exact WhAll_nil; exact WhAll_nil; refine WhAll_cons rfl ?_ ?_; refine Wo_alloc2 rfl flat25 ?_; rintro b3 w7 hb3 E7 hB3; have hlb3 := hB3.lt; have hs7 := E7.size
        refine Wo_nil ?_; refine ⟨((E5.trans E6).trans E7), ?_⟩; refine Wh_all (rs := [3]) (by kernel_rfl) rfl ?_; refine WhAll_cons rfl ?_ ?_
        refine Wo_call rfl (opc1 (a := .agg _) Try.call23 rfl) (toStream_ok _ _ _ _ _ ((Mono.mono ((((((E1.trans E2).trans E3).trans E4).trans E5).trans E6).trans E7) h3)) ((Mono.mono ((((((E1.trans E2).trans E3).trans E4).trans E5).trans E6).trans E7) h4)) (by assumption) (by assumption)) ?_
        rintro _ w8 ⟨u4, q2, rfl, E8, hO2, hQ2, hd2⟩; have icu4 := OwnedB.isC (Owned.toB hO2); have cpu4 := OwnedB.capOk (Owned.toB hO2); have icq2 := OwnedB.isC (Owned.toB hQ2); have cpq2 := OwnedB.capOk (Owned.toB hQ2)
        have hs8 := E8.size; refine Wo_nil ?_; refine ⟨(((E5.trans E6).trans E7).trans E8), ?_⟩; refine Wh_all (rs := [4]) (by kernel_rfl) rfl ?_; refine WhAll_cons rfl ?_ ?_
        refine Wo_call rfl (opc2 (a := .agg _) (b := .agg _) Try.call35 rfl rfl) (k1 _ _ _ _ _ ((Mono.mono (E7.trans E8) (Owned.read hO1))) ((Mono.mono (E7.trans E8) (Owned.read hQ1))) ((Owned.read hO2)) ((Owned.read hQ2))) ?_
        rintro _ w9 ⟨u5, q3, rfl, E9, hO3, hQ3, hd3⟩; have icu5 := OwnedB.isC (Owned.toB hO3); have cpu5 := OwnedB.capOk (Owned.toB hO3); have icq3 := OwnedB.isC (Owned.toB hQ3); have cpq3 := OwnedB.capOk (Owned.toB hQ3)
        have hs9 := E9.size; refine Wo_nil ?_; refine ⟨((((E5.trans E6).trans E7).trans E8).trans E9), ?_⟩
        refine Wh_take 5 rfl (by kernel_rfl) (by kernel_rfl) rfl (fun _ _ => opv_move (v := .tuple _) rfl) ((((E5.trans E6).trans E7).trans E8).trans E9) ?_
        refine Wh_take 6 rfl (by kernel_rfl) (by kernel_rfl) rfl (fun _ _ => opv_extract (v := .agg _) rfl rfl) ((((E5.trans E6).trans E7).trans E8).trans E9) ?_
        refine Wh_take 7 rfl (by kernel_rfl) (by kernel_rfl) rfl (fun _ _ => opv_extract (v := .bool _) rfl rfl) ((((E5.trans E6).trans E7).trans E8).trans E9) ?_; refine Wh_all (rs := [9]) (by kernel_rfl) rfl ?_
        refine WhAll_cons rfl ?_ ?_
        refine Wo_st2 rfl Try.sizeOf25 rfl rfl (by first | rfl | assumption) (by first | rfl | assumption) (hB3.ext (E8.trans E9)) (by omega) ((((((((E1.trans E2).trans E3).trans E4).trans E5).trans E6).trans E7).trans E8).trans E9) ?_
        rintro w10 E10 hB3 K2 hz2
        have E11 := (((((((E2.trans E3).trans E4).trans E5).trans E6).trans E7).trans E8).trans E9).wroteAt ((((((((E1.trans E2).trans E3).trans E4).trans E5).trans E6).trans E7).trans E8).trans E9) E10 K2 hz2 (by omega)
        have szE11 := E11.size; have E12 := ((((((E3.trans E4).trans E5).trans E6).trans E7).trans E8).trans E9).wroteAt ((((((((E1.trans E2).trans E3).trans E4).trans E5).trans E6).trans E7).trans E8).trans E9) E10 K2 hz2 (by omega)
        have szE12 := E12.size; have E13 := (((((E4.trans E5).trans E6).trans E7).trans E8).trans E9).wroteAt ((((((((E1.trans E2).trans E3).trans E4).trans E5).trans E6).trans E7).trans E8).trans E9) E10 K2 hz2 (by omega)
        have szE13 := E13.size; have E14 := ((((E5.trans E6).trans E7).trans E8).trans E9).wroteAt ((((((((E1.trans E2).trans E3).trans E4).trans E5).trans E6).trans E7).trans E8).trans E9) E10 K2 hz2 (by omega); have szE14 := E14.size
        have E15 := (((E6.trans E7).trans E8).trans E9).wroteAt ((((((((E1.trans E2).trans E3).trans E4).trans E5).trans E6).trans E7).trans E8).trans E9) E10 K2 hz2 (by omega); have szE15 := E15.size
        have E16 := ((E7.trans E8).trans E9).wroteAt ((((((((E1.trans E2).trans E3).trans E4).trans E5).trans E6).trans E7).trans E8).trans E9) E10 K2 hz2 (by omega); have szE16 := E16.size
        have hB1 := (hB1.ext (((((((E2.trans E3).trans E4).trans E5).trans E6).trans E7).trans E8).trans E9)).of_heap (K2 _ (by omega))
        have hB2 := (hB2.ext ((((((E3.trans E4).trans E5).trans E6).trans E7).trans E8).trans E9)).of_heap (K2 _ (by omega)); have hO1 := (hO1.toB.ext ((E7.trans E8).trans E9)).wrote K2 (by omega)
        have hQ1 := (hQ1.toB.ext ((E7.trans E8).trans E9)).wrote K2 (by omega); have hO2 := (hO2.toB.ext E9).wrote K2 (by omega); have hQ2 := (hQ2.toB.ext E9).wrote K2 (by omega); have hO3 := hO3.toB.wrote K2 (by omega)
        have hQ3 := hQ3.toB.wrote K2 (by omega); refine Wo_nil ?_; refine ⟨E14, ?_⟩; refine Wh_take 10 rfl (by kernel_rfl) (by kernel_rfl) rfl (fun _ _ => opv_assign (v := .bool _) rfl) E14 ?_; refine Wh_done (by kernel_rfl) ?_; rotate_left
        exact WhAll_nil; exact WhAll_nil; exact WhAll_nil; exact WhAll_nil; refine WhAll_cons rfl ?_ ?_; refine Wo_alloc2 rfl flat25 ?_; rintro b3 w6 hb3 E6 hB3; have hlb3 := hB3.lt; have hs6 := E6.size; refine Wo_nil ?_
        refine ⟨(E5.trans E6), ?_⟩; refine Wh_all (rs := [1]) (by kernel_rfl) rfl ?_; refine WhAll_cons rfl ?_ ?_
        refine Wo_call rfl (opc1 (a := .agg _) Try.call23 rfl) (toStream_ok _ _ _ _ _ ((Mono.mono (((((E1.trans E2).trans E3).trans E4).trans E5).trans E6) h1)) ((Mono.mono (((((E1.trans E2).trans E3).trans E4).trans E5).trans E6) h2)) (by assumption) (by assumption)) ?_
        rintro _ w7 ⟨u3, q1, rfl, E7, hO1, hQ1, hd1⟩; have icu3 := OwnedB.isC (Owned.toB hO1); have cpu3 := OwnedB.capOk (Owned.toB hO1); have icq1 := OwnedB.isC (Owned.toB hQ1); have cpq1 := OwnedB.capOk (Owned.toB hQ1)
        have hs7 := E7.size; refine Wo_nil ?_; refine ⟨((E5.trans E6).trans E7), ?_⟩; refine Wh_all (rs := [3]) (by kernel_rfl) rfl ?_; refine WhAll_cons rfl ?_ ?_
        refine Wo_call rfl (opc1 (a := .agg _) Try.call23 rfl) (toStream_ok _ _ _ _ _ ((Mono.mono ((((((E1.trans E2).trans E3).trans E4).trans E5).trans E6).trans E7) h3)) ((Mono.mono ((((((E1.trans E2).trans E3).trans E4).trans E5).trans E6).trans E7) h4)) (by assumption) (by assumption)) ?_
        rintro _ w8 ⟨u4, q2, rfl, E8, hO2, hQ2, hd2⟩; have icu4 := OwnedB.isC (Owned.toB hO2); have cpu4 := OwnedB.capOk (Owned.toB hO2); have icq2 := OwnedB.isC (Owned.toB hQ2); have cpq2 := OwnedB.capOk (Owned.toB hQ2)
        have hs8 := E8.size; refine Wo_nil ?_; refine ⟨(((E5.trans E6).trans E7).trans E8), ?_⟩; refine Wh_all (rs := [4]) (by kernel_rfl) rfl ?_; refine WhAll_cons rfl ?_ ?_
        refine Wo_call rfl (opc2 (a := .agg _) (b := .agg _) Try.call35 rfl rfl) (k1 _ _ _ _ _ ((Mono.mono E8 (Owned.read hO1))) ((Mono.mono E8 (Owned.read hQ1))) ((Owned.read hO2)) ((Owned.read hQ2))) ?_
        rintro _ w9 ⟨u5, q3, rfl, E9, hO3, hQ3, hd3⟩; have icu5 := OwnedB.isC (Owned.toB hO3); have cpu5 := OwnedB.capOk (Owned.toB hO3); have icq3 := OwnedB.isC (Owned.toB hQ3); have cpq3 := OwnedB.capOk (Owned.toB hQ3)
        have hs9 := E9.size; refine Wo_nil ?_; refine ⟨((((E5.trans E6).trans E7).trans E8).trans E9), ?_⟩
        refine Wh_take 5 rfl (by kernel_rfl) (by kernel_rfl) rfl (fun _ _ => opv_move (v := .tuple _) rfl) ((((E5.trans E6).trans E7).trans E8).trans E9) ?_
        refine Wh_take 6 rfl (by kernel_rfl) (by kernel_rfl) rfl (fun _ _ => opv_extract (v := .agg _) rfl rfl) ((((E5.trans E6).trans E7).trans E8).trans E9) ?_
        refine Wh_take 7 rfl (by kernel_rfl) (by kernel_rfl) rfl (fun _ _ => opv_extract (v := .bool _) rfl rfl) ((((E5.trans E6).trans E7).trans E8).trans E9) ?_; refine Wh_all (rs := [9]) (by kernel_rfl) rfl ?_
        refine WhAll_cons rfl ?_ ?_
        refine Wo_st2 rfl Try.sizeOf25 rfl rfl (by first | rfl | assumption) (by first | rfl | assumption) (hB3.ext ((E7.trans E8).trans E9)) (by omega) ((((((((E1.trans E2).trans E3).trans E4).trans E5).trans E6).trans E7).trans E8).trans E9) ?_
        rintro w10 E10 hB3 K2 hz2
        have E11 := (((((((E2.trans E3).trans E4).trans E5).trans E6).trans E7).trans E8).trans E9).wroteAt ((((((((E1.trans E2).trans E3).trans E4).trans E5).trans E6).trans E7).trans E8).trans E9) E10 K2 hz2 (by omega)
        have szE11 := E11.size; have E12 := ((((((E3.trans E4).trans E5).trans E6).trans E7).trans E8).trans E9).wroteAt ((((((((E1.trans E2).trans E3).trans E4).trans E5).trans E6).trans E7).trans E8).trans E9) E10 K2 hz2 (by omega)
        have szE12 := E12.size; have E13 := (((((E4.trans E5).trans E6).trans E7).trans E8).trans E9).wroteAt ((((((((E1.trans E2).trans E3).trans E4).trans E5).trans E6).trans E7).trans E8).trans E9) E10 K2 hz2 (by omega)
        have szE13 := E13.size; have E14 := ((((E5.trans E6).trans E7).trans E8).trans E9).wroteAt ((((((((E1.trans E2).trans E3).trans E4).trans E5).trans E6).trans E7).trans E8).trans E9) E10 K2 hz2 (by omega); have szE14 := E14.size
        have E15 := (((E6.trans E7).trans E8).trans E9).wroteAt ((((((((E1.trans E2).trans E3).trans E4).trans E5).trans E6).trans E7).trans E8).trans E9) E10 K2 hz2 (by omega); have szE15 := E15.size
        have hB1 := (hB1.ext (((((((E2.trans E3).trans E4).trans E5).trans E6).trans E7).trans E8).trans E9)).of_heap (K2 _ (by omega))
        have hB2 := (hB2.ext ((((((E3.trans E4).trans E5).trans E6).trans E7).trans E8).trans E9)).of_heap (K2 _ (by omega)); have hO1 := (hO1.toB.ext (E8.trans E9)).wrote K2 (by omega)
        have hQ1 := (hQ1.toB.ext (E8.trans E9)).wrote K2 (by omega); have hO2 := (hO2.toB.ext E9).wrote K2 (by omega); have hQ2 := (hQ2.toB.ext E9).wrote K2 (by omega); have hO3 := hO3.toB.wrote K2 (by omega)
        have hQ3 := hQ3.toB.wrote K2 (by omega); refine Wo_nil ?_; refine ⟨E14, ?_⟩; refine Wh_take 10 rfl (by kernel_rfl) (by kernel_rfl) rfl (fun _ _ => opv_assign (v := .bool _) rfl) E14 ?_; refine Wh_done (by kernel_rfl) ?_; rotate_left
        exact WhAll_nil; exact WhAll_nil; exact WhAll_nil; exact WhAll_nil; exact WhAll_nil
      all_goals exact ⟨(b3, u5, q3), ⟨rfl, rfl, trivial⟩, by repeat (first | with_reducible exact Same.refl | refine Same.upd rfl ?_ | refine Same.upds rfl ?_ | refine Same.mix rfl ?_), by assumption, by assumption, hO3.read, hQ3.read⟩
    rintro ⟨b6, uw, qw⟩ ρ8 w8 ⟨E8, hB6, hw1, hw2⟩
    have stop14 : True := trivial
    focus
      have szE8 := E8.size; have szE4 := E4.size; have szE3 := E3.size; have szE2 := E2.size; have szE1 := E1.size; refine W_seq ?_; refine W_region rfl ?_
      refine Wo (v := .agg _) rfl (opv_load2 Try.isAgg34 Try.sizeOf34 rfl (hB1.ext (((E2.trans E3).trans E4).trans E8))) ?_
      refine Wo_call rfl (opc1 (a := .agg _) Try.call23 rfl) (toStream_ok _ _ _ _ _ ((Mono.mono ((((E1.trans E2).trans E3).trans E4).trans E8) h1)) ((Mono.mono ((((E1.trans E2).trans E3).trans E4).trans E8) h2)) (by assumption) (by assumption)) ?_
      rintro _ w5 ⟨u3, q1, rfl, E5, hO1, hQ1, hd1⟩; have icu3 := OwnedB.isC (Owned.toB hO1); have cpu3 := OwnedB.capOk (Owned.toB hO1); have icq1 := OwnedB.isC (Owned.toB hQ1); have cpq1 := OwnedB.capOk (Owned.toB hQ1)
      have hs5 := E5.size; refine Wo_alloc2 rfl flat25 ?_; rintro b3 w6 hb3 E6 hB3; have hlb3 := hB3.lt; have hs6 := E6.size
      refine Wo_st2 rfl Try.sizeOf25 rfl rfl (by first | rfl | assumption) (by first | rfl | assumption) hB3 (by omega) ((((((E1.trans E2).trans E3).trans E4).trans E8).trans E5).trans E6) ?_; rintro w7 E7 hB3 K1 hz1
      have E9 := (((((E2.trans E3).trans E4).trans E8).trans E5).trans E6).wroteAt ((((((E1.trans E2).trans E3).trans E4).trans E8).trans E5).trans E6) E7 K1 hz1 (by omega); have szE9 := E9.size
      have E10 := ((((E3.trans E4).trans E8).trans E5).trans E6).wroteAt ((((((E1.trans E2).trans E3).trans E4).trans E8).trans E5).trans E6) E7 K1 hz1 (by omega); have szE10 := E10.size
      have E11 := (((E4.trans E8).trans E5).trans E6).wroteAt ((((((E1.trans E2).trans E3).trans E4).trans E8).trans E5).trans E6) E7 K1 hz1 (by omega); have szE11 := E11.size
      have E12 := ((E8.trans E5).trans E6).wroteAt ((((((E1.trans E2).trans E3).trans E4).trans E8).trans E5).trans E6) E7 K1 hz1 (by omega); have szE12 := E12.size
      have E13 := (E5.trans E6).wroteAt ((((((E1.trans E2).trans E3).trans E4).trans E8).trans E5).trans E6) E7 K1 hz1 (by omega); have szE13 := E13.size
      have E14 := E6.wroteAt ((((((E1.trans E2).trans E3).trans E4).trans E8).trans E5).trans E6) E7 K1 hz1 (by omega); have szE14 := E14.size
      have hB1 := (hB1.ext (((((E2.trans E3).trans E4).trans E8).trans E5).trans E6)).of_heap (K1 _ (by omega)); have hB2 := (hB2.ext ((((E3.trans E4).trans E8).trans E5).trans E6)).of_heap (K1 _ (by omega))
      have hO1 := (hO1.toB.ext E6).wrote K1 (by omega); have hQ1 := (hQ1.toB.ext E6).wrote K1 (by omega); refine Wo_nil ?_; refine W_seq ?_; refine W_region rfl ?_
      refine Wo (v := .agg _) rfl (opv_load2 Try.isAgg34 Try.sizeOf34 rfl hB2) ?_; refine Wo_call rfl (opc1 (a := .agg _) Try.call23 rfl) (toStream_ok _ _ _ _ _ ((Mono.mono E7 h3)) ((Mono.mono E7 h4)) (by assumption) (by assumption)) ?_
      rintro _ w9 ⟨u4, q2, rfl, E15, hO2, hQ2, hd2⟩; have icu4 := OwnedB.isC (Owned.toB hO2); have cpu4 := OwnedB.capOk (Owned.toB hO2); have icq2 := OwnedB.isC (Owned.toB hQ2); have cpq2 := OwnedB.capOk (Owned.toB hQ2)
      have hs7 := E15.size; refine Wo_alloc2 rfl flat25 ?_; rintro b4 w10 hb4 E16 hB4; have hlb4 := hB4.lt; have hs8 := E16.size
      refine Wo_st2 rfl Try.sizeOf25 rfl rfl (by first | rfl | assumption) (by first | rfl | assumption) hB4 (by omega) ((E7.trans E15).trans E16) ?_; rintro w11 E17 hB4 K2 hz2
      have E18 := ((E9.trans E15).trans E16).wroteAt ((E7.trans E15).trans E16) E17 K2 hz2 (by omega); have szE18 := E18.size; have E19 := ((E10.trans E15).trans E16).wroteAt ((E7.trans E15).trans E16) E17 K2 hz2 (by omega)
      have szE19 := E19.size; have E20 := ((E11.trans E15).trans E16).wroteAt ((E7.trans E15).trans E16) E17 K2 hz2 (by omega); have szE20 := E20.size
      have E21 := ((E12.trans E15).trans E16).wroteAt ((E7.trans E15).trans E16) E17 K2 hz2 (by omega); have szE21 := E21.size; have E22 := ((E13.trans E15).trans E16).wroteAt ((E7.trans E15).trans E16) E17 K2 hz2 (by omega)
      have szE22 := E22.size; have E23 := ((E14.trans E15).trans E16).wroteAt ((E7.trans E15).trans E16) E17 K2 hz2 (by omega); have szE23 := E23.size; have E24 := (E15.trans E16).wroteAt ((E7.trans E15).trans E16) E17 K2 hz2 (by omega)
      have szE24 := E24.size; have E25 := E16.wroteAt ((E7.trans E15).trans E16) E17 K2 hz2 (by omega); have szE25 := E25.size; have hB3 := (hB3.ext (E15.trans E16)).of_heap (K2 _ (by omega))
      have hB1 := (hB1.ext (E15.trans E16)).of_heap (K2 _ (by omega)); have hB2 := (hB2.ext (E15.trans E16)).of_heap (K2 _ (by omega)); have hO1 := (hO1.ext (E15.trans E16)).wrote K2 (by omega)
      have hQ1 := (hQ1.ext (E15.trans E16)).wrote K2 (by omega); have hO2 := (hO2.toB.ext E16).wrote K2 (by omega); have hQ2 := (hQ2.toB.ext E16).wrote K2 (by omega); refine Wo_nil ?_; refine W_seq ?_; refine W_region rfl ?_
      refine Wo (v := .agg _) rfl (opv_load2 Try.isAgg25 Try.sizeOf25 rfl hB3) ?_; refine Wo (v := .agg _) rfl (opv_load2 Try.isAgg25 Try.sizeOf25 rfl hB4) ?_
      refine Wo_call rfl (opc2 (a := .agg _) (b := .agg _) Try.call36 rfl rfl) (k2 _ _ _ _ _ ((OwnedB.read hO1)) ((OwnedB.read hQ1)) ((OwnedB.read hO2)) ((OwnedB.read hQ2))) ?_; rintro _ w12 ⟨u5, q3, rfl, E26, hO3, hQ3, hd3⟩
      have icu5 := OwnedB.isC (Owned.toB hO3); have cpu5 := OwnedB.capOk (Owned.toB hO3); have icq3 := OwnedB.isC (Owned.toB hQ3); have cpq3 := OwnedB.capOk (Owned.toB hQ3); have hs9 := E26.size
      refine Wo rfl (opv_move (v := .tuple _) rfl) ?_; refine Wo rfl (opv_extract (v := .agg _) rfl rfl) ?_; refine Wo rfl (opv_extract (v := .bool _) rfl rfl) ?_; refine Wo_alloc2 rfl flat25 ?_; rintro b5 w13 hb5 E27 hB5
      have hlb5 := hB5.lt; have hs10 := E27.size; refine Wo_st2 rfl Try.sizeOf25 rfl rfl (by first | rfl | assumption) (by first | rfl | assumption) hB5 (by omega) ((E17.trans E26).trans E27) ?_; rintro w14 E28 hB5 K3 hz3
      have E29 := ((E18.trans E26).trans E27).wroteAt ((E17.trans E26).trans E27) E28 K3 hz3 (by omega); have szE29 := E29.size; have E30 := ((E19.trans E26).trans E27).wroteAt ((E17.trans E26).trans E27) E28 K3 hz3 (by omega)
      have szE30 := E30.size; have E31 := ((E20.trans E26).trans E27).wroteAt ((E17.trans E26).trans E27) E28 K3 hz3 (by omega); have szE31 := E31.size
      have E32 := ((E21.trans E26).trans E27).wroteAt ((E17.trans E26).trans E27) E28 K3 hz3 (by omega); have szE32 := E32.size; have E33 := ((E22.trans E26).trans E27).wroteAt ((E17.trans E26).trans E27) E28 K3 hz3 (by omega)
      have szE33 := E33.size; have E34 := ((E23.trans E26).trans E27).wroteAt ((E17.trans E26).trans E27) E28 K3 hz3 (by omega); have szE34 := E34.size
      have E35 := ((E24.trans E26).trans E27).wroteAt ((E17.trans E26).trans E27) E28 K3 hz3 (by omega); have szE35 := E35.size; have E36 := ((E25.trans E26).trans E27).wroteAt ((E17.trans E26).trans E27) E28 K3 hz3 (by omega)
      have szE36 := E36.size; have E37 := (E26.trans E27).wroteAt ((E17.trans E26).trans E27) E28 K3 hz3 (by omega); have szE37 := E37.size; have E38 := E27.wroteAt ((E17.trans E26).trans E27) E28 K3 hz3 (by omega); have szE38 := E38.size
      have hB4 := (hB4.ext (E26.trans E27)).of_heap (K3 _ (by omega)); have hB3 := (hB3.ext (E26.trans E27)).of_heap (K3 _ (by omega)); have hB1 := (hB1.ext (E26.trans E27)).of_heap (K3 _ (by omega))
      have hB2 := (hB2.ext (E26.trans E27)).of_heap (K3 _ (by omega)); have hO1 := (hO1.ext (E26.trans E27)).wrote K3 (by omega); have hQ1 := (hQ1.ext (E26.trans E27)).wrote K3 (by omega)
      have hO2 := (hO2.ext (E26.trans E27)).wrote K3 (by omega); have hQ2 := (hQ2.ext (E26.trans E27)).wrote K3 (by omega); have hO3 := (hO3.toB.ext E27).wrote K3 (by omega); have hQ3 := (hQ3.toB.ext E27).wrote K3 (by omega)
      refine Wo rfl (opv_assign (v := .bool _) rfl) ?_; refine Wo_nil ?_; refine W_seq ?_; refine W_seq ?_; refine W_region rfl ?_; refine Wo (v := .agg _) rfl (opv_load2 Try.isAgg25 Try.sizeOf25 rfl hB5) ?_
      refine Wo (v := .agg _) rfl (opv_load2 Try.isAgg25 Try.sizeOf25 rfl (hB6.ext E33)) ?_
      refine Wo_call rfl (opc2 (a := .agg _) (b := .agg _) Try.call24 rfl rfl) (eq_same _ _ _ _ _ _ _ ((OwnedB.read hO3)) ((OwnedB.read hQ3)) ((Mono.mono E33 hw1)) ((Mono.mono E33 hw2))) ?_; rintro _ w15 ⟨rfl, E39⟩; have hs11 := E39.size
      refine Wo rfl (opv_not rfl) ?_; refine Wo_split rfl (opv_move (v := .bool _) rfl) (fun h9 => ?_) (fun h9 => ?_); contradiction; refine Wo rfl (opv_move (v := .bool _) rfl) ?_; refine Wo rfl (opv_move (v := .bool _) rfl) ?_
      refine Wo rfl (opv_neq_bool Try.underlying4 rfl rfl) ?_; refine Wo rfl (opv_pick_f (v := .bool _) rfl rfl) ?_; refine Wo_nil ?_; refine W_cond_ndec rfl (fun h10 => ?_) (fun h10 => ?_); contradiction; refine W_skip ?_
      refine W_seq ?_; refine W_seq ?_
    clear stop14
    clear heldS
    have heldS : w15 = w15 := rfl
    have stop31 : True := trivial
    focus
      have szE39 := E39.size; have szE38 := E38.size; have szE37 := E37.size; have szE36 := E36.size; have szE35 := E35.size; have szE34 := E34.size; have szE33 := E33.size; have szE32 := E32.size; have szE31 := E31.size
      have szE30 := E30.size; have szE29 := E29.size; have szE28 := E28.size; have szE27 := E27.size; have szE26 := E26.size; have szE25 := E25.size; have szE24 := E24.size; have szE23 := E23.size; have szE22 := E22.size
      have szE21 := E21.size; have szE20 := E20.size; have szE19 := E19.size; have szE18 := E18.size; have szE17 := E17.size; have szE16 := E16.size; have szE15 := E15.size; have szE14 := E14.size; have szE13 := E13.size
      have szE12 := E12.size; have szE11 := E11.size; have szE10 := E10.size; have szE9 := E9.size; have szE7 := E7.size; have szE6 := E6.size; have szE5 := E5.size; have szE8 := E8.size; have szE4 := E4.size; have szE3 := E3.size
      have szE2 := E2.size; have szE1 := E1.size; refine W_held (fun w' => Ext w15 w') mixed rfl (by kernel_rfl) ?_; intro w16 E40 K4 hz4; have hs12 := E40.size
      refine Wh_take (v := .agg _) 0 rfl (by kernel_rfl) (by kernel_rfl) rfl (fun w' hw' => opv_load2 Try.isAgg25 Try.sizeOf25 rfl (hB3.ext (E39.trans hw'))) E40 ?_
      refine Wh_take (v := .agg _) 1 rfl (by kernel_rfl) (by kernel_rfl) rfl (fun w' hw' => opv_load2 Try.isAgg34 Try.sizeOf34 rfl (hB1.ext (E39.trans hw'))) E40 ?_; refine Wh_all (rs := [2]) (by kernel_rfl) rfl ?_
      refine WhAll_cons rfl ?_ ?_; refine Wo_call rfl (opc1 (a := .agg _) Try.call23 rfl) (toStream_ok _ _ _ _ _ ((Mono.mono ((E28.trans E39).trans E40) h1)) ((Mono.mono ((E28.trans E39).trans E40) h2)) (by assumption) (by assumption)) ?_
      rintro _ w17 ⟨u6, q4, rfl, E41, hO4, hQ4, hd4⟩; have icu6 := OwnedB.isC (Owned.toB hO4); have cpu6 := OwnedB.capOk (Owned.toB hO4); have icq4 := OwnedB.isC (Owned.toB hQ4); have cpq4 := OwnedB.capOk (Owned.toB hQ4)
      have hs13 := E41.size; refine Wo_nil ?_; refine ⟨(E40.trans E41), ?_⟩; refine Wh_all (rs := [3]) (by kernel_rfl) rfl ?_; refine WhAll_cons rfl ?_ ?_
      refine Wo_call rfl (opc2 (a := .agg _) (b := .agg _) Try.call24 rfl rfl) (eq_same _ _ _ _ _ _ _ ((Mono.mono ((E39.trans E40).trans E41) (OwnedB.read hO1))) ((Mono.mono ((E39.trans E40).trans E41) (OwnedB.read hQ1))) ((Owned.read hO4)) ((Owned.read hQ4))) ?_
      rintro _ w18 ⟨rfl, E42⟩; have hs14 := E42.size; refine Wo_nil ?_; refine ⟨((E40.trans E41).trans E42), ?_⟩; refine Wh_take 4 rfl (by kernel_rfl) (by kernel_rfl) rfl (fun _ _ => opv_not rfl) ((E40.trans E41).trans E42) ?_
      refine Wh_done (by kernel_rfl) ?_; refine W_cond rfl (fun h11 => ?_) (fun h11 => ?_); contradiction; refine W_skip ?_; refine W_seq ?_; refine W_seq ?_; refine W_held (fun w' => Ext w15 w') mixed rfl (by kernel_rfl) ?_
      intro w19 E43 K5 hz5; have hs15 := E43.size
      refine Wh_take (v := .agg _) 0 rfl (by kernel_rfl) (by kernel_rfl) rfl (fun w' hw' => opv_load2 Try.isAgg25 Try.sizeOf25 rfl (hB4.ext (E39.trans hw'))) (((E40.trans E41).trans E42).trans E43) ?_
      refine Wh_take (v := .agg _) 1 rfl (by kernel_rfl) (by kernel_rfl) rfl (fun w' hw' => opv_load2 Try.isAgg34 Try.sizeOf34 rfl (hB2.ext (E39.trans hw'))) (((E40.trans E41).trans E42).trans E43) ?_
      refine Wh_all (rs := [2]) (by kernel_rfl) rfl ?_; refine WhAll_cons rfl ?_ ?_
      refine Wo_call rfl (opc1 (a := .agg _) Try.call23 rfl) (toStream_ok _ _ _ _ _ ((Mono.mono (((((E28.trans E39).trans E40).trans E41).trans E42).trans E43) h3)) ((Mono.mono (((((E28.trans E39).trans E40).trans E41).trans E42).trans E43) h4)) (by assumption) (by assumption)) ?_
      rintro _ w20 ⟨u7, q5, rfl, E44, hO5, hQ5, hd5⟩; have icu7 := OwnedB.isC (Owned.toB hO5); have cpu7 := OwnedB.capOk (Owned.toB hO5); have icq5 := OwnedB.isC (Owned.toB hQ5); have cpq5 := OwnedB.capOk (Owned.toB hQ5)
      have hs16 := E44.size; refine Wo_nil ?_; refine ⟨((((E40.trans E41).trans E42).trans E43).trans E44), ?_⟩; refine Wh_all (rs := [3]) (by kernel_rfl) rfl ?_; refine WhAll_cons rfl ?_ ?_
      refine Wo_call rfl (opc2 (a := .agg _) (b := .agg _) Try.call24 rfl rfl) (eq_same _ _ _ _ _ _ _ ((Mono.mono (((((E39.trans E40).trans E41).trans E42).trans E43).trans E44) (OwnedB.read hO2))) ((Mono.mono (((((E39.trans E40).trans E41).trans E42).trans E43).trans E44) (OwnedB.read hQ2))) ((Owned.read hO5)) ((Owned.read hQ5))) ?_
      rintro _ w21 ⟨rfl, E45⟩; have hs17 := E45.size; refine Wo_nil ?_; refine ⟨(((((E40.trans E41).trans E42).trans E43).trans E44).trans E45), ?_⟩
      refine Wh_take 4 rfl (by kernel_rfl) (by kernel_rfl) rfl (fun _ _ => opv_not rfl) (((((E40.trans E41).trans E42).trans E43).trans E44).trans E45) ?_; refine Wh_done (by kernel_rfl) ?_
      refine W_cond rfl (fun h12 => ?_) (fun h12 => ?_); contradiction; refine W_skip ?_; refine W_seq ?_; refine W_region rfl ?_; refine Wo rfl (opv_assign (v := .int _ _) rfl) ?_; refine Wo_nil ?_; refine W_seq ?_
      refine W_region rfl ?_; refine Wo (v := .agg _) rfl (opv_load2 Try.isAgg25 Try.sizeOf25 rfl (hB3.ext ((((((E39.trans E40).trans E41).trans E42).trans E43).trans E44).trans E45))) ?_; refine Wo rfl (opv_move (v := .int _ _) rfl) ?_
      refine Wo_call rfl (opc2 (a := .agg _) (b := .int _ _) Try.call25 rfl rfl) (markStreamB_ok _ _ _ _ _ ((hO1.ext ((((((E39.trans E40).trans E41).trans E42).trans E43).trans E44).trans E45))) ((hQ1.ext ((((((E39.trans E40).trans E41).trans E42).trans E43).trans E44).trans E45))) (by assumption) (by assumption) (by omega) _ (by omega) (by assumption) (by assumption)) ?_
      rintro _ w22 ⟨rfl, E46, hO6, hQ6⟩; have hB5 := (hB5.ext ((((((E39.trans E40).trans E41).trans E42).trans E43).trans E44).trans E45)).span E46 (by omega)
      have hB4 := (hB4.ext ((((((E39.trans E40).trans E41).trans E42).trans E43).trans E44).trans E45)).span E46 (by omega)
      have hB3 := (hB3.ext ((((((E39.trans E40).trans E41).trans E42).trans E43).trans E44).trans E45)).span E46 (by omega)
      have hB1 := (hB1.ext ((((((E39.trans E40).trans E41).trans E42).trans E43).trans E44).trans E45)).span E46 (by omega)
      have hB2 := (hB2.ext ((((((E39.trans E40).trans E41).trans E42).trans E43).trans E44).trans E45)).span E46 (by omega)
      have hO2 := (hO2.ext ((((((E39.trans E40).trans E41).trans E42).trans E43).trans E44).trans E45)).span E46 (by omega)
      have hQ2 := (hQ2.ext ((((((E39.trans E40).trans E41).trans E42).trans E43).trans E44).trans E45)).span E46 (by omega)
      have hO3 := (hO3.ext ((((((E39.trans E40).trans E41).trans E42).trans E43).trans E44).trans E45)).span E46 (by omega)
      have hQ3 := (hQ3.ext ((((((E39.trans E40).trans E41).trans E42).trans E43).trans E44).trans E45)).span E46 (by omega); have hO4 := (hO4.toB.ext (((E42.trans E43).trans E44).trans E45)).span E46 (by omega)
      have hQ4 := (hQ4.toB.ext (((E42.trans E43).trans E44).trans E45)).span E46 (by omega); have hO5 := (hO5.toB.ext E45).span E46 (by omega); have hQ5 := (hQ5.toB.ext E45).span E46 (by omega)
      have E47 := (((((((E28.trans E39).trans E40).trans E41).trans E42).trans E43).trans E44).trans E45).span E46 (by omega)
      have E48 := ((((((((E29.trans E39).trans E40).trans E41).trans E42).trans E43).trans E44).trans E45)).span E46 (by omega); have szE48 := E48.size
      have E49 := ((((((((E30.trans E39).trans E40).trans E41).trans E42).trans E43).trans E44).trans E45)).span E46 (by omega); have szE49 := E49.size
      have E50 := ((((((((E31.trans E39).trans E40).trans E41).trans E42).trans E43).trans E44).trans E45)).span E46 (by omega); have szE50 := E50.size
      have E51 := ((((((((E32.trans E39).trans E40).trans E41).trans E42).trans E43).trans E44).trans E45)).span E46 (by omega); have szE51 := E51.size
      have E52 := ((((((((E33.trans E39).trans E40).trans E41).trans E42).trans E43).trans E44).trans E45)).span E46 (by omega); have szE52 := E52.size; have hs18 := E46.size; refine Wo rfl (opv_assign (v := .int _ _) rfl) ?_
      refine Wo_nil ?_; refine W_seq ?_; refine W_region rfl ?_; refine Wo (v := .agg _) rfl (opv_load2 Try.isAgg25 Try.sizeOf25 rfl hB4) ?_; refine Wo rfl (opv_move (v := .int _ _) rfl) ?_
      refine Wo_call rfl (opc2 (a := .agg _) (b := .int _ _) Try.call25 rfl rfl) (markStreamB_ok _ _ _ _ _ (hO2) (hQ2) (by assumption) (by assumption) (by omega) _ (by omega) (by assumption) (by assumption)) ?_
      rintro _ w23 ⟨rfl, E53, hO7, hQ7⟩; have hO6 := hO6.span E53 (by omega); have hQ6 := hQ6.span E53 (by omega); have hB5 := hB5.span E53 (by omega); have hB4 := hB4.span E53 (by omega); have hB3 := hB3.span E53 (by omega)
      have hB1 := hB1.span E53 (by omega); have hB2 := hB2.span E53 (by omega); have hO3 := hO3.span E53 (by omega); have hQ3 := hQ3.span E53 (by omega); have hO4 := hO4.span E53 (by omega); have hQ4 := hQ4.span E53 (by omega)
      have hO5 := hO5.span E53 (by omega); have hQ5 := hQ5.span E53 (by omega); have E54 := E47.span E53 (by omega); have E55 := (E48).span E53 (by omega); have szE55 := E55.size; have E56 := (E49).span E53 (by omega)
      have szE56 := E56.size; have E57 := (E50).span E53 (by omega); have szE57 := E57.size; have E58 := (E51).span E53 (by omega); have szE58 := E58.size; have E59 := (E52).span E53 (by omega); have szE59 := E59.size
      have hs19 := E53.size; refine Wo rfl (opv_assign (v := .int _ _) rfl) ?_; refine Wo_nil ?_; refine W_seq ?_; refine W_seq ?_; refine W_region rfl ?_; refine Wo rfl (opv_move (v := .int _ _) rfl) ?_
      refine Wo rfl (opv_lss rfl rfl) ?_; refine Wo_split_dec rfl (opv_move (v := .bool _) rfl) (fun h13 => ?_) (fun h13 => ?_); contradiction; refine Wo (v := .agg _) rfl (opv_load2 Try.isAgg25 Try.sizeOf25 rfl hB5) ?_
      refine Wo (v := .agg _) rfl (opv_load2 Try.isAgg25 Try.sizeOf25 rfl (hB6.ext E59)) ?_
      refine Wo_call rfl (opc2 (a := .agg _) (b := .agg _) Try.call24 rfl rfl) (eq_same _ _ _ _ _ _ _ ((OwnedB.read hO3)) ((OwnedB.read hQ3)) ((Mono.mono E59 hw1)) ((Mono.mono E59 hw2))) ?_; rintro _ w24 ⟨rfl, E60⟩; have hs20 := E60.size
      refine Wo rfl (opv_not rfl) ?_; refine Wo rfl (opv_pick_f (v := .bool _) rfl rfl) ?_; refine Wo_split rfl (opv_move (v := .bool _) rfl) (fun h14 => ?_) (fun h14 => ?_); contradiction; refine Wo rfl (opv_move (v := .bool _) rfl) ?_
      refine Wo rfl (opv_move (v := .bool _) rfl) ?_; refine Wo rfl (opv_neq_bool Try.underlying4 rfl rfl) ?_; refine Wo rfl (opv_pick_f (v := .bool _) rfl rfl) ?_; refine Wo_nil ?_; refine W_cond_ndec rfl (fun h15 => ?_) (fun h15 => ?_)
      contradiction; refine W_skip ?_; refine W_seq ?_; refine W_region rfl ?_; refine Wo rfl (opv_assign (v := .int _ _) rfl) ?_; refine Wo_nil ?_; refine W_seq ?_; refine W_region rfl ?_
      refine Wo (v := .agg _) rfl (opv_load2 Try.isAgg25 Try.sizeOf25 rfl (hB5.ext E60)) ?_; refine Wo rfl (opv_move (v := .int _ _) rfl) ?_
      refine Wo_call rfl (opc2 (a := .agg _) (b := .int _ _) Try.call25 rfl rfl) (markStreamB_ok _ _ _ _ _ ((hO3.ext E60)) ((hQ3.ext E60)) (by assumption) (by assumption) (by omega) _ (by omega) (by omega) (by omega)) ?_
      rintro _ w25 ⟨rfl, E61, hO8, hQ8⟩; have hO7 := (hO7.ext E60).span E61 (by omega); have hQ7 := (hQ7.ext E60).span E61 (by omega); have hO6 := (hO6.ext E60).span E61 (by omega); have hQ6 := (hQ6.ext E60).span E61 (by omega)
      have hB5 := (hB5.ext E60).span E61 (by omega); have hB4 := (hB4.ext E60).span E61 (by omega); have hB3 := (hB3.ext E60).span E61 (by omega); have hB1 := (hB1.ext E60).span E61 (by omega)
      have hB2 := (hB2.ext E60).span E61 (by omega); have hO4 := (hO4.ext E60).span E61 (by omega); have hQ4 := (hQ4.ext E60).span E61 (by omega); have hO5 := (hO5.ext E60).span E61 (by omega)
      have hQ5 := (hQ5.ext E60).span E61 (by omega); have E62 := (E54.trans E60).span E61 (by omega); have E63 := ((E55.trans E60)).span E61 (by omega); have szE63 := E63.size; have E64 := ((E56.trans E60)).span E61 (by omega)
      have szE64 := E64.size; have E65 := ((E57.trans E60)).span E61 (by omega); have szE65 := E65.size; have E66 := ((E58.trans E60)).span E61 (by omega); have szE66 := E66.size; have E67 := ((E59.trans E60)).span E61 (by omega)
      have szE67 := E67.size; have hs21 := E61.size; refine Wo rfl (opv_assign (v := .int _ _) rfl) ?_; refine Wo_nil ?_; refine W_seq ?_; refine W_region rfl ?_; refine Wo rfl (opv_assign (v := .int _ _) rfl) ?_; refine Wo_nil ?_
      refine W_seq ?_; refine W_region rfl ?_; refine Wo (v := .agg _) rfl (opv_load2 Try.isAgg25 Try.sizeOf25 rfl hB5) ?_; refine Wo rfl (opv_move (v := .int _ _) rfl) ?_
      refine Wo_call rfl (opc2 (a := .agg _) (b := .int _ _) Try.call26 rfl rfl) (heldStream_ok _ _ _ _ _ _ ((OwnedB.read hO8)) ((OwnedB.read hQ8)) (by omega) (by omega) (by omega)) ?_; rintro _ w26 ⟨rfl, E68⟩; have hs22 := E68.size
      refine Wo rfl (opv_assign (v := .int _ _) rfl) ?_; refine Wo_nil ?_; refine W_seq ?_; refine W_seq ?_; refine W_region rfl ?_; refine Wo rfl (opv_move (v := .int _ _) rfl) ?_; refine Wo rfl (opv_lss rfl rfl) ?_; refine Wo_nil ?_
      refine W_cond_dec rfl (fun h16 => ?_) (fun h16 => ?_); contradiction; refine W_skip ?_; refine W_seq ?_; refine W_seq ?_; refine W_region rfl ?_; refine Wo rfl (opv_move (v := .int _ _) rfl) ?_
      refine Wo rfl (opv_move (v := .int _ _) rfl) ?_; refine Wo rfl (opv_neq rfl rfl) ?_; refine Wo_nil ?_; refine W_cond_ndec rfl (fun h17 => ?_) (fun h17 => ?_); contradiction; refine W_skip ?_; refine W_seq ?_; rotate_left
      exact WhAll_nil; exact WhAll_nil; exact WhAll_nil; exact WhAll_nil
    clear stop31
    clear heldS
    have heldS : w26 = w26 := rfl
    focus
      have szE68 := E68.size; have szE67 := E67.size; have szE66 := E66.size; have szE65 := E65.size; have szE64 := E64.size; have szE63 := E63.size; have szE62 := E62.size; have szE60 := E60.size; have szE59 := E59.size
      have szE58 := E58.size; have szE57 := E57.size; have szE56 := E56.size; have szE55 := E55.size; have szE54 := E54.size; have szE52 := E52.size; have szE51 := E51.size; have szE50 := E50.size; have szE49 := E49.size
      have szE48 := E48.size; have szE47 := E47.size; have szE45 := E45.size; have szE44 := E44.size; have szE43 := E43.size; have szE42 := E42.size; have szE41 := E41.size; have szE40 := E40.size; have szE39 := E39.size
      have szE38 := E38.size; have szE37 := E37.size; have szE36 := E36.size; have szE35 := E35.size; have szE34 := E34.size; have szE33 := E33.size; have szE32 := E32.size; have szE31 := E31.size; have szE30 := E30.size
      have szE29 := E29.size; have szE28 := E28.size; have szE27 := E27.size; have szE26 := E26.size; have szE25 := E25.size; have szE24 := E24.size; have szE23 := E23.size; have szE22 := E22.size; have szE21 := E21.size
      have szE20 := E20.size; have szE19 := E19.size; have szE18 := E18.size; have szE17 := E17.size; have szE16 := E16.size; have szE15 := E15.size; have szE14 := E14.size; have szE13 := E13.size; have szE12 := E12.size
      have szE11 := E11.size; have szE10 := E10.size; have szE9 := E9.size; have szE7 := E7.size; have szE6 := E6.size; have szE5 := E5.size; have szE8 := E8.size; have szE4 := E4.size; have szE3 := E3.size; have szE2 := E2.size
      have szE1 := E1.size; refine W_held (fun w' => Ext w26 w') mixed rfl (by kernel_rfl) ?_; intro w27 E69 K6 hz6; have hs23 := E69.size
      refine Wh_take (v := .agg _) 0 rfl (by kernel_rfl) (by kernel_rfl) rfl (fun w' hw' => opv_load2 Try.isAgg34 Try.sizeOf34 rfl (hB1.ext (E68.trans hw'))) E69 ?_
      refine Wh_take (v := .agg _) 2 rfl (by kernel_rfl) (by kernel_rfl) rfl (fun w' hw' => opv_load2 Try.isAgg34 Try.sizeOf34 rfl (hB2.ext (E68.trans hw'))) E69 ?_; refine Wh_all (rs := [1, 8]) (by kernel_rfl) rfl ?_
      refine WhAll_cons rfl ?_ ?_; refine Wo_call rfl (opc1 (a := .agg _) Try.call23 rfl) (toStream_ok _ _ _ _ _ ((Mono.mono ((E62.trans E68).trans E69) h1)) ((Mono.mono ((E62.trans E68).trans E69) h2)) (by assumption) (by assumption)) ?_
      rintro _ w28 ⟨u8, q6, rfl, E70, hO9, hQ9, hd6⟩; have icu8 := OwnedB.isC (Owned.toB hO9); have cpu8 := OwnedB.capOk (Owned.toB hO9); have icq6 := OwnedB.isC (Owned.toB hQ9); have cpq6 := OwnedB.capOk (Owned.toB hQ9)
      have hs24 := E70.size; refine Wo_nil ?_; refine ⟨(E69.trans E70), ?_⟩; refine Wh_all (rs := [3, 8]) (by kernel_rfl) rfl ?_; refine WhAll_cons rfl ?_ ?_
      refine Wo_call rfl (opc1 (a := .agg _) Try.call23 rfl) (toStream_ok _ _ _ _ _ ((Mono.mono (((E62.trans E68).trans E69).trans E70) h3)) ((Mono.mono (((E62.trans E68).trans E69).trans E70) h4)) (by assumption) (by assumption)) ?_
      rintro _ w29 ⟨u9, q7, rfl, E71, hO10, hQ10, hd7⟩; have icu9 := OwnedB.isC (Owned.toB hO10); have cpu9 := OwnedB.capOk (Owned.toB hO10); have icq7 := OwnedB.isC (Owned.toB hQ10); have cpq7 := OwnedB.capOk (Owned.toB hQ10)
      have hs25 := E71.size; refine Wo_nil ?_; refine ⟨((E69.trans E70).trans E71), ?_⟩; refine Wh_all (rs := [4, 8]) (by kernel_rfl) rfl ?_; refine WhAll_cons rfl ?_ ?_
      refine Wo_call rfl (opc2 (a := .agg _) (b := .agg _) Try.call36 rfl rfl) (k2 _ _ _ _ _ ((Mono.mono E71 (Owned.read hO9))) ((Mono.mono E71 (Owned.read hQ9))) ((Owned.read hO10)) ((Owned.read hQ10))) ?_
      rintro _ w30 ⟨u10, q8, rfl, E72, hO11, hQ11, hd8⟩; have icu10 := OwnedB.isC (Owned.toB hO11); have cpu10 := OwnedB.capOk (Owned.toB hO11); have icq8 := OwnedB.isC (Owned.toB hQ11); have cpq8 := OwnedB.capOk (Owned.toB hQ11)
      have hs26 := E72.size; refine Wo_nil ?_; refine ⟨(((E69.trans E70).trans E71).trans E72), ?_⟩
      refine Wh_take 5 rfl (by kernel_rfl) (by kernel_rfl) rfl (fun _ _ => opv_move (v := .tuple _) rfl) (((E69.trans E70).trans E71).trans E72) ?_
      refine Wh_take 6 rfl (by kernel_rfl) (by kernel_rfl) rfl (fun _ _ => opv_extract (v := .agg _) rfl rfl) (((E69.trans E70).trans E71).trans E72) ?_
      refine Wh_take 7 rfl (by kernel_rfl) (by kernel_rfl) rfl (fun _ _ => opv_extract (v := .bool _) rfl rfl) (((E69.trans E70).trans E71).trans E72) ?_; refine Wh_all (rs := [8]) (by kernel_rfl) rfl ?_; refine WhAll_cons rfl ?_ ?_
      refine Wo_alloc2 rfl flat25 ?_; rintro b7 w31 hb6 E73 hB7; have hlb7 := hB7.lt; have hs27 := E73.size; refine Wo_nil ?_; refine ⟨((((E69.trans E70).trans E71).trans E72).trans E73), ?_⟩
      refine Wh_all (rs := [9]) (by kernel_rfl) rfl ?_; refine WhAll_cons rfl ?_ ?_
      refine Wo_st2 rfl Try.sizeOf25 rfl rfl (by first | rfl | assumption) (by first | rfl | assumption) hB7 (by omega) ((((((E62.trans E68).trans E69).trans E70).trans E71).trans E72).trans E73) ?_; rintro w32 E74 hB7 K7 hz7
      have E75 := ((((((E63.trans E68).trans E69).trans E70).trans E71).trans E72).trans E73).wroteAt ((((((E62.trans E68).trans E69).trans E70).trans E71).trans E72).trans E73) E74 K7 hz7 (by omega); have szE75 := E75.size
      have E76 := ((((((E64.trans E68).trans E69).trans E70).trans E71).trans E72).trans E73).wroteAt ((((((E62.trans E68).trans E69).trans E70).trans E71).trans E72).trans E73) E74 K7 hz7 (by omega); have szE76 := E76.size
      have E77 := ((((((E65.trans E68).trans E69).trans E70).trans E71).trans E72).trans E73).wroteAt ((((((E62.trans E68).trans E69).trans E70).trans E71).trans E72).trans E73) E74 K7 hz7 (by omega); have szE77 := E77.size
      have E78 := ((((((E66.trans E68).trans E69).trans E70).trans E71).trans E72).trans E73).wroteAt ((((((E62.trans E68).trans E69).trans E70).trans E71).trans E72).trans E73) E74 K7 hz7 (by omega); have szE78 := E78.size
      have E79 := ((((((E67.trans E68).trans E69).trans E70).trans E71).trans E72).trans E73).wroteAt ((((((E62.trans E68).trans E69).trans E70).trans E71).trans E72).trans E73) E74 K7 hz7 (by omega); have szE79 := E79.size
      have E80 := (((((E68.trans E69).trans E70).trans E71).trans E72).trans E73).wroteAt ((((((E62.trans E68).trans E69).trans E70).trans E71).trans E72).trans E73) E74 K7 hz7 (by omega); have szE80 := E80.size
      have E81 := ((((E69.trans E70).trans E71).trans E72).trans E73).wroteAt ((((((E62.trans E68).trans E69).trans E70).trans E71).trans E72).trans E73) E74 K7 hz7 (by omega); have szE81 := E81.size
      have E82 := (((E70.trans E71).trans E72).trans E73).wroteAt ((((((E62.trans E68).trans E69).trans E70).trans E71).trans E72).trans E73) E74 K7 hz7 (by omega); have szE82 := E82.size
      have E83 := ((E71.trans E72).trans E73).wroteAt ((((((E62.trans E68).trans E69).trans E70).trans E71).trans E72).trans E73) E74 K7 hz7 (by omega); have szE83 := E83.size
      have E84 := (E72.trans E73).wroteAt ((((((E62.trans E68).trans E69).trans E70).trans E71).trans E72).trans E73) E74 K7 hz7 (by omega); have szE84 := E84.size
      have E85 := E73.wroteAt ((((((E62.trans E68).trans E69).trans E70).trans E71).trans E72).trans E73) E74 K7 hz7 (by omega); have szE85 := E85.size
      have hO8 := (hO8.ext (((((E68.trans E69).trans E70).trans E71).trans E72).trans E73)).wrote K7 (by omega); have hQ8 := (hQ8.ext (((((E68.trans E69).trans E70).trans E71).trans E72).trans E73)).wrote K7 (by omega)
      have hO7 := (hO7.ext (((((E68.trans E69).trans E70).trans E71).trans E72).trans E73)).wrote K7 (by omega); have hQ7 := (hQ7.ext (((((E68.trans E69).trans E70).trans E71).trans E72).trans E73)).wrote K7 (by omega)
      have hO6 := (hO6.ext (((((E68.trans E69).trans E70).trans E71).trans E72).trans E73)).wrote K7 (by omega); have hQ6 := (hQ6.ext (((((E68.trans E69).trans E70).trans E71).trans E72).trans E73)).wrote K7 (by omega)
      have hB5 := (hB5.ext (((((E68.trans E69).trans E70).trans E71).trans E72).trans E73)).of_heap (K7 _ (by omega)); have hB4 := (hB4.ext (((((E68.trans E69).trans E70).trans E71).trans E72).trans E73)).of_heap (K7 _ (by omega))
      have hB3 := (hB3.ext (((((E68.trans E69).trans E70).trans E71).trans E72).trans E73)).of_heap (K7 _ (by omega)); have hB1 := (hB1.ext (((((E68.trans E69).trans E70).trans E71).trans E72).trans E73)).of_heap (K7 _ (by omega))
      have hB2 := (hB2.ext (((((E68.trans E69).trans E70).trans E71).trans E72).trans E73)).of_heap (K7 _ (by omega)); have hO4 := (hO4.ext (((((E68.trans E69).trans E70).trans E71).trans E72).trans E73)).wrote K7 (by omega)
      have hQ4 := (hQ4.ext (((((E68.trans E69).trans E70).trans E71).trans E72).trans E73)).wrote K7 (by omega); have hO5 := (hO5.ext (((((E68.trans E69).trans E70).trans E71).trans E72).trans E73)).wrote K7 (by omega)
      have hQ5 := (hQ5.ext (((((E68.trans E69).trans E70).trans E71).trans E72).trans E73)).wrote K7 (by omega); have hO9 := (hO9.toB.ext ((E71.trans E72).trans E73)).wrote K7 (by omega)
      have hQ9 := (hQ9.toB.ext ((E71.trans E72).trans E73)).wrote K7 (by omega); have hO10 := (hO10.toB.ext (E72.trans E73)).wrote K7 (by omega); have hQ10 := (hQ10.toB.ext (E72.trans E73)).wrote K7 (by omega)
      have hO11 := (hO11.toB.ext E73).wrote K7 (by omega); have hQ11 := (hQ11.toB.ext E73).wrote K7 (by omega); refine Wo_nil ?_; refine ⟨E81, ?_⟩
      refine Wh_take 10 rfl (by kernel_rfl) (by kernel_rfl) rfl (fun _ _ => opv_assign (v := .bool _) rfl) E81 ?_; refine Wh_done (by kernel_rfl) ?_; refine W_seq ?_; refine W_seq ?_; refine W_region rfl ?_
      refine Wo (v := .agg _) rfl (opv_load2 Try.isAgg25 Try.sizeOf25 rfl hB7) ?_; refine Wo (v := .agg _) rfl (opv_load2 Try.isAgg25 Try.sizeOf25 rfl (hB6.ext E79)) ?_
      refine Wo_call rfl (opc2 (a := .agg _) (b := .agg _) Try.call24 rfl rfl) (eq_same _ _ _ _ _ _ _ ((OwnedB.read hO11)) ((OwnedB.read hQ11)) ((Mono.mono E79 hw1)) ((Mono.mono E79 hw2))) ?_; rintro _ w33 ⟨rfl, E86⟩
      have hs28 := E86.size; refine Wo rfl (opv_not rfl) ?_; refine Wo_split rfl (opv_move (v := .bool _) rfl) (fun h18 => ?_) (fun h18 => ?_); contradiction; refine Wo rfl (opv_move (v := .bool _) rfl) ?_
      refine Wo rfl (opv_move (v := .bool _) rfl) ?_; refine Wo rfl (opv_neq_bool Try.underlying4 rfl rfl) ?_; refine Wo rfl (opv_pick_f (v := .bool _) rfl rfl) ?_; refine Wo_nil ?_; refine W_cond_ndec rfl (fun h19 => ?_) (fun h19 => ?_)
      contradiction; refine W_skip ?_; refine W_seq ?_; refine W_region rfl ?_; refine Wo rfl (opv_assign (v := .int _ _) rfl) ?_; refine Wo_nil ?_; refine W_seq ?_; refine W_region rfl ?_
      refine Wo (v := .agg _) rfl (opv_load2 Try.isAgg25 Try.sizeOf25 rfl (hB5.ext E86)) ?_; refine Wo rfl (opv_move (v := .int _ _) rfl) ?_
      refine Wo_call rfl (opc2 (a := .agg _) (b := .int _ _) Try.call26 rfl rfl) (heldStream_ok _ _ _ _ _ _ ((Mono.mono E86 (OwnedB.read hO8))) ((Mono.mono E86 (OwnedB.read hQ8))) (by omega) (by omega) (by omega)) ?_
      rintro _ w34 ⟨rfl, E87⟩; have hs29 := E87.size; refine Wo rfl (opv_assign (v := .int _ _) rfl) ?_; refine Wo_nil ?_; refine W_seq ?_; refine W_seq ?_; refine W_region rfl ?_; refine Wo rfl (opv_move (v := .int _ _) rfl) ?_
      refine Wo rfl (opv_lss rfl rfl) ?_; refine Wo_nil ?_; refine W_cond_dec rfl (fun h20 => ?_) (fun h20 => ?_); contradiction; refine W_skip ?_; refine W_seq ?_; refine W_seq ?_; refine W_region rfl ?_
      refine Wo rfl (opv_move (v := .int _ _) rfl) ?_; refine Wo rfl (opv_move (v := .int _ _) rfl) ?_; refine Wo rfl (opv_neq rfl rfl) ?_; refine Wo_nil ?_; refine W_cond_ndec rfl (fun h21 => ?_) (fun h21 => ?_); contradiction
      refine W_skip ?_; refine W_seq ?_; refine W_region rfl ?_; refine Wo rfl (opv_assign (v := .bool _) rfl) ?_; refine Wo_nil ?_; refine W_ret ?_; exact ⟨rfl, ((E74.trans E86).trans E87)⟩; exact WhAll_nil; exact WhAll_nil
      refine WhAll_cons rfl ?_ ?_; refine Wo_alloc2 rfl flat25 ?_; rintro b7 w30 hb6 E72 hB7; have hlb7 := hB7.lt; have hs26 := E72.size; refine Wo_nil ?_; refine ⟨(((E69.trans E70).trans E71).trans E72), ?_⟩
      refine Wh_all (rs := [4]) (by kernel_rfl) rfl ?_; refine WhAll_cons rfl ?_ ?_
      refine Wo_call rfl (opc2 (a := .agg _) (b := .agg _) Try.call36 rfl rfl) (k2 _ _ _ _ _ ((Mono.mono (E71.trans E72) (Owned.read hO9))) ((Mono.mono (E71.trans E72) (Owned.read hQ9))) ((Mono.mono E72 (Owned.read hO10))) ((Mono.mono E72 (Owned.read hQ10)))) ?_
      rintro _ w31 ⟨u10, q8, rfl, E73, hO11, hQ11, hd8⟩; have icu10 := OwnedB.isC (Owned.toB hO11); have cpu10 := OwnedB.capOk (Owned.toB hO11); have icq8 := OwnedB.isC (Owned.toB hQ11); have cpq8 := OwnedB.capOk (Owned.toB hQ11)
      have hs27 := E73.size; refine Wo_nil ?_; refine ⟨((((E69.trans E70).trans E71).trans E72).trans E73), ?_⟩
      refine Wh_take 5 rfl (by kernel_rfl) (by kernel_rfl) rfl (fun _ _ => opv_move (v := .tuple _) rfl) ((((E69.trans E70).trans E71).trans E72).trans E73) ?_
      refine Wh_take 6 rfl (by kernel_rfl) (by kernel_rfl) rfl (fun _ _ => opv_extract (v := .agg _) rfl rfl) ((((E69.trans E70).trans E71).trans E72).trans E73) ?_
      refine Wh_take 7 rfl (by kernel_rfl) (by kernel_rfl) rfl (fun _ _ => opv_extract (v := .bool _) rfl rfl) ((((E69.trans E70).trans E71).trans E72).trans E73) ?_; refine Wh_all (rs := [9]) (by kernel_rfl) rfl ?_
      refine WhAll_cons rfl ?_ ?_; refine Wo_st2 rfl Try.sizeOf25 rfl rfl (by first | rfl | assumption) (by first | rfl | assumption) (hB7.ext E73) (by omega) ((((((E62.trans E68).trans E69).trans E70).trans E71).trans E72).trans E73) ?_
      rintro w32 E74 hB7 K7 hz7; have E75 := ((((((E63.trans E68).trans E69).trans E70).trans E71).trans E72).trans E73).wroteAt ((((((E62.trans E68).trans E69).trans E70).trans E71).trans E72).trans E73) E74 K7 hz7 (by omega)
      have szE75 := E75.size; have E76 := ((((((E64.trans E68).trans E69).trans E70).trans E71).trans E72).trans E73).wroteAt ((((((E62.trans E68).trans E69).trans E70).trans E71).trans E72).trans E73) E74 K7 hz7 (by omega)
      have szE76 := E76.size; have E77 := ((((((E65.trans E68).trans E69).trans E70).trans E71).trans E72).trans E73).wroteAt ((((((E62.trans E68).trans E69).trans E70).trans E71).trans E72).trans E73) E74 K7 hz7 (by omega)
      have szE77 := E77.size; have E78 := ((((((E66.trans E68).trans E69).trans E70).trans E71).trans E72).trans E73).wroteAt ((((((E62.trans E68).trans E69).trans E70).trans E71).trans E72).trans E73) E74 K7 hz7 (by omega)
      have szE78 := E78.size; have E79 := ((((((E67.trans E68).trans E69).trans E70).trans E71).trans E72).trans E73).wroteAt ((((((E62.trans E68).trans E69).trans E70).trans E71).trans E72).trans E73) E74 K7 hz7 (by omega)
      have szE79 := E79.size; have E80 := (((((E68.trans E69).trans E70).trans E71).trans E72).trans E73).wroteAt ((((((E62.trans E68).trans E69).trans E70).trans E71).trans E72).trans E73) E74 K7 hz7 (by omega); have szE80 := E80.size
      have E81 := ((((E69.trans E70).trans E71).trans E72).trans E73).wroteAt ((((((E62.trans E68).trans E69).trans E70).trans E71).trans E72).trans E73) E74 K7 hz7 (by omega); have szE81 := E81.size
      have E82 := (((E70.trans E71).trans E72).trans E73).wroteAt ((((((E62.trans E68).trans E69).trans E70).trans E71).trans E72).trans E73) E74 K7 hz7 (by omega); have szE82 := E82.size
      have E83 := ((E71.trans E72).trans E73).wroteAt ((((((E62.trans E68).trans E69).trans E70).trans E71).trans E72).trans E73) E74 K7 hz7 (by omega); have szE83 := E83.size
      have E84 := (E72.trans E73).wroteAt ((((((E62.trans E68).trans E69).trans E70).trans E71).trans E72).trans E73) E74 K7 hz7 (by omega); have szE84 := E84.size
      have hO8 := (hO8.ext (((((E68.trans E69).trans E70).trans E71).trans E72).trans E73)).wrote K7 (by omega); have hQ8 := (hQ8.ext (((((E68.trans E69).trans E70).trans E71).trans E72).trans E73)).wrote K7 (by omega)
      have hO7 := (hO7.ext (((((E68.trans E69).trans E70).trans E71).trans E72).trans E73)).wrote K7 (by omega); have hQ7 := (hQ7.ext (((((E68.trans E69).trans E70).trans E71).trans E72).trans E73)).wrote K7 (by omega)
      have hO6 := (hO6.ext (((((E68.trans E69).trans E70).trans E71).trans E72).trans E73)).wrote K7 (by omega); have hQ6 := (hQ6.ext (((((E68.trans E69).trans E70).trans E71).trans E72).trans E73)).wrote K7 (by omega)
      have hB5 := (hB5.ext (((((E68.trans E69).trans E70).trans E71).trans E72).trans E73)).of_heap (K7 _ (by omega)); have hB4 := (hB4.ext (((((E68.trans E69).trans E70).trans E71).trans E72).trans E73)).of_heap (K7 _ (by omega))
      have hB3 := (hB3.ext (((((E68.trans E69).trans E70).trans E71).trans E72).trans E73)).of_heap (K7 _ (by omega)); have hB1 := (hB1.ext (((((E68.trans E69).trans E70).trans E71).trans E72).trans E73)).of_heap (K7 _ (by omega))
      have hB2 := (hB2.ext (((((E68.trans E69).trans E70).trans E71).trans E72).trans E73)).of_heap (K7 _ (by omega)); have hO4 := (hO4.ext (((((E68.trans E69).trans E70).trans E71).trans E72).trans E73)).wrote K7 (by omega)
      have hQ4 := (hQ4.ext (((((E68.trans E69).trans E70).trans E71).trans E72).trans E73)).wrote K7 (by omega); have hO5 := (hO5.ext (((((E68.trans E69).trans E70).trans E71).trans E72).trans E73)).wrote K7 (by omega)
      have hQ5 := (hQ5.ext (((((E68.trans E69).trans E70).trans E71).trans E72).trans E73)).wrote K7 (by omega); have hO9 := (hO9.toB.ext ((E71.trans E72).trans E73)).wrote K7 (by omega)
      have hQ9 := (hQ9.toB.ext ((E71.trans E72).trans E73)).wrote K7 (by omega); have hO10 := (hO10.toB.ext (E72.trans E73)).wrote K7 (by omega); have hQ10 := (hQ10.toB.ext (E72.trans E73)).wrote K7 (by omega)
      have hO11 := hO11.toB.wrote K7 (by omega); have hQ11 := hQ11.toB.wrote K7 (by omega); refine Wo_nil ?_; refine ⟨E81, ?_⟩; refine Wh_take 10 rfl (by kernel_rfl) (by kernel_rfl) rfl (fun _ _ => opv_assign (v := .bool _) rfl) E81 ?_
      refine Wh_done (by kernel_rfl) ?_; refine W_seq ?_; refine W_seq ?_; refine W_region rfl ?_; refine Wo (v := .agg _) rfl (opv_load2 Try.isAgg25 Try.sizeOf25 rfl hB7) ?_
      refine Wo (v := .agg _) rfl (opv_load2 Try.isAgg25 Try.sizeOf25 rfl (hB6.ext E79)) ?_
      refine Wo_call rfl (opc2 (a := .agg _) (b := .agg _) Try.call24 rfl rfl) (eq_same _ _ _ _ _ _ _ ((OwnedB.read hO11)) ((OwnedB.read hQ11)) ((Mono.mono E79 hw1)) ((Mono.mono E79 hw2))) ?_; rintro _ w33 ⟨rfl, E85⟩
      have hs28 := E85.size; refine Wo rfl (opv_not rfl) ?_; refine Wo_split rfl (opv_move (v := .bool _) rfl) (fun h18 => ?_) (fun h18 => ?_); contradiction; refine Wo rfl (opv_move (v := .bool _) rfl) ?_
      refine Wo rfl (opv_move (v := .bool _) rfl) ?_; refine Wo rfl (opv_neq_bool Try.underlying4 rfl rfl) ?_; refine Wo rfl (opv_pick_f (v := .bool _) rfl rfl) ?_; refine Wo_nil ?_; refine W_cond_ndec rfl (fun h19 => ?_) (fun h19 => ?_)
      contradiction; refine W_skip ?_; refine W_seq ?_; refine W_region rfl ?_; refine Wo rfl (opv_assign (v := .int _ _) rfl) ?_; refine Wo_nil ?_; refine W_seq ?_; refine W_region rfl ?_
      refine Wo (v := .agg _) rfl (opv_load2 Try.isAgg25 Try.sizeOf25 rfl (hB5.ext E85)) ?_; refine Wo rfl (opv_move (v := .int _ _) rfl) ?_
      refine Wo_call rfl (opc2 (a := .agg _) (b := .int _ _) Try.call26 rfl rfl) (heldStream_ok _ _ _ _ _ _ ((Mono.mono E85 (OwnedB.read hO8))) ((Mono.mono E85 (OwnedB.read hQ8))) (by omega) (by omega) (by omega)) ?_
      rintro _ w34 ⟨rfl, E86⟩; have hs29 := E86.size; refine Wo rfl (opv_assign (v := .int _ _) rfl) ?_; refine Wo_nil ?_; refine W_seq ?_; refine W_seq ?_; refine W_region rfl ?_; refine Wo rfl (opv_move (v := .int _ _) rfl) ?_
      refine Wo rfl (opv_lss rfl rfl) ?_; refine Wo_nil ?_; refine W_cond_dec rfl (fun h20 => ?_) (fun h20 => ?_); contradiction; refine W_skip ?_; refine W_seq ?_; refine W_seq ?_; refine W_region rfl ?_
      refine Wo rfl (opv_move (v := .int _ _) rfl) ?_; refine Wo rfl (opv_move (v := .int _ _) rfl) ?_; refine Wo rfl (opv_neq rfl rfl) ?_; refine Wo_nil ?_; refine W_cond_ndec rfl (fun h21 => ?_) (fun h21 => ?_); contradiction
      refine W_skip ?_; refine W_seq ?_; refine W_region rfl ?_; refine Wo rfl (opv_assign (v := .bool _) rfl) ?_; refine Wo_nil ?_; refine W_ret ?_; exact ⟨rfl, ((E74.trans E85).trans E86)⟩; exact WhAll_nil; exact WhAll_nil
      exact WhAll_nil; refine WhAll_cons rfl ?_ ?_; refine Wo_alloc2 rfl flat25 ?_; rintro b7 w29 hb6 E71 hB7; have hlb7 := hB7.lt; have hs25 := E71.size; refine Wo_nil ?_; refine ⟨((E69.trans E70).trans E71), ?_⟩
      refine Wh_all (rs := [3]) (by kernel_rfl) rfl ?_; refine WhAll_cons rfl ?_ ?_
      refine Wo_call rfl (opc1 (a := .agg _) Try.call23 rfl) (toStream_ok _ _ _ _ _ ((Mono.mono ((((E62.trans E68).trans E69).trans E70).trans E71) h3)) ((Mono.mono ((((E62.trans E68).trans E69).trans E70).trans E71) h4)) (by assumption) (by assumption)) ?_
      rintro _ w30 ⟨u9, q7, rfl, E72, hO10, hQ10, hd7⟩; have icu9 := OwnedB.isC (Owned.toB hO10); have cpu9 := OwnedB.capOk (Owned.toB hO10); have icq7 := OwnedB.isC (Owned.toB hQ10); have cpq7 := OwnedB.capOk (Owned.toB hQ10)
      have hs26 := E72.size; refine Wo_nil ?_; refine ⟨(((E69.trans E70).trans E71).trans E72), ?_⟩; refine Wh_all (rs := [4]) (by kernel_rfl) rfl ?_; refine WhAll_cons rfl ?_ ?_
      refine Wo_call rfl (opc2 (a := .agg _) (b := .agg _) Try.call36 rfl rfl) (k2 _ _ _ _ _ ((Mono.mono (E71.trans E72) (Owned.read hO9))) ((Mono.mono (E71.trans E72) (Owned.read hQ9))) ((Owned.read hO10)) ((Owned.read hQ10))) ?_
      rintro _ w31 ⟨u10, q8, rfl, E73, hO11, hQ11, hd8⟩; have icu10 := OwnedB.isC (Owned.toB hO11); have cpu10 := OwnedB.capOk (Owned.toB hO11); have icq8 := OwnedB.isC (Owned.toB hQ11); have cpq8 := OwnedB.capOk (Owned.toB hQ11)
      have hs27 := E73.size; refine Wo_nil ?_; refine ⟨((((E69.trans E70).trans E71).trans E72).trans E73), ?_⟩
      refine Wh_take 5 rfl (by kernel_rfl) (by kernel_rfl) rfl (fun _ _ => opv_move (v := .tuple _) rfl) ((((E69.trans E70).trans E71).trans E72).trans E73) ?_
      refine Wh_take 6 rfl (by kernel_rfl) (by kernel_rfl) rfl (fun _ _ => opv_extract (v := .agg _) rfl rfl) ((((E69.trans E70).trans E71).trans E72).trans E73) ?_
      refine Wh_take 7 rfl (by kernel_rfl) (by kernel_rfl) rfl (fun _ _ => opv_extract (v := .bool _) rfl rfl) ((((E69.trans E70).trans E71).trans E72).trans E73) ?_; refine Wh_all (rs := [9]) (by kernel_rfl) rfl ?_
      refine WhAll_cons rfl ?_ ?_
      refine Wo_st2 rfl Try.sizeOf25 rfl rfl (by first | rfl | assumption) (by first | rfl | assumption) (hB7.ext (E72.trans E73)) (by omega) ((((((E62.trans E68).trans E69).trans E70).trans E71).trans E72).trans E73) ?_
      rintro w32 E74 hB7 K7 hz7; have E75 := ((((((E63.trans E68).trans E69).trans E70).trans E71).trans E72).trans E73).wroteAt ((((((E62.trans E68).trans E69).trans E70).trans E71).trans E72).trans E73) E74 K7 hz7 (by omega)
      have szE75 := E75.size; have E76 := ((((((E64.trans E68).trans E69).trans E70).trans E71).trans E72).trans E73).wroteAt ((((((E62.trans E68).trans E69).trans E70).trans E71).trans E72).trans E73) E74 K7 hz7 (by omega)
      have szE76 := E76.size; have E77 := ((((((E65.trans E68).trans E69).trans E70).trans E71).trans E72).trans E73).wroteAt ((((((E62.trans E68).trans E69).trans E70).trans E71).trans E72).trans E73) E74 K7 hz7 (by omega)
      have szE77 := E77.size; have E78 := ((((((E66.trans E68).trans E69).trans E70).trans E71).trans E72).trans E73).wroteAt ((((((E62.trans E68).trans E69).trans E70).trans E71).trans E72).trans E73) E74 K7 hz7 (by omega)
      have szE78 := E78.size; have E79 := ((((((E67.trans E68).trans E69).trans E70).trans E71).trans E72).trans E73).wroteAt ((((((E62.trans E68).trans E69).trans E70).trans E71).trans E72).trans E73) E74 K7 hz7 (by omega)
      have szE79 := E79.size; have E80 := (((((E68.trans E69).trans E70).trans E71).trans E72).trans E73).wroteAt ((((((E62.trans E68).trans E69).trans E70).trans E71).trans E72).trans E73) E74 K7 hz7 (by omega); have szE80 := E80.size
      have E81 := ((((E69.trans E70).trans E71).trans E72).trans E73).wroteAt ((((((E62.trans E68).trans E69).trans E70).trans E71).trans E72).trans E73) E74 K7 hz7 (by omega); have szE81 := E81.size
      have E82 := (((E70.trans E71).trans E72).trans E73).wroteAt ((((((E62.trans E68).trans E69).trans E70).trans E71).trans E72).trans E73) E74 K7 hz7 (by omega); have szE82 := E82.size
      have E83 := ((E71.trans E72).trans E73).wroteAt ((((((E62.trans E68).trans E69).trans E70).trans E71).trans E72).trans E73) E74 K7 hz7 (by omega); have szE83 := E83.size
      have hO8 := (hO8.ext (((((E68.trans E69).trans E70).trans E71).trans E72).trans E73)).wrote K7 (by omega); have hQ8 := (hQ8.ext (((((E68.trans E69).trans E70).trans E71).trans E72).trans E73)).wrote K7 (by omega)
      have hO7 := (hO7.ext (((((E68.trans E69).trans E70).trans E71).trans E72).trans E73)).wrote K7 (by omega); have hQ7 := (hQ7.ext (((((E68.trans E69).trans E70).trans E71).trans E72).trans E73)).wrote K7 (by omega)
      have hO6 := (hO6.ext (((((E68.trans E69).trans E70).trans E71).trans E72).trans E73)).wrote K7 (by omega); have hQ6 := (hQ6.ext (((((E68.trans E69).trans E70).trans E71).trans E72).trans E73)).wrote K7 (by omega)
      have hB5 := (hB5.ext (((((E68.trans E69).trans E70).trans E71).trans E72).trans E73)).of_heap (K7 _ (by omega)); have hB4 := (hB4.ext (((((E68.trans E69).trans E70).trans E71).trans E72).trans E73)).of_heap (K7 _ (by omega))
      have hB3 := (hB3.ext (((((E68.trans E69).trans E70).trans E71).trans E72).trans E73)).of_heap (K7 _ (by omega)); have hB1 := (hB1.ext (((((E68.trans E69).trans E70).trans E71).trans E72).trans E73)).of_heap (K7 _ (by omega))
      have hB2 := (hB2.ext (((((E68.trans E69).trans E70).trans E71).trans E72).trans E73)).of_heap (K7 _ (by omega)); have hO4 := (hO4.ext (((((E68.trans E69).trans E70).trans E71).trans E72).trans E73)).wrote K7 (by omega)
      have hQ4 := (hQ4.ext (((((E68.trans E69).trans E70).trans E71).trans E72).trans E73)).wrote K7 (by omega); have hO5 := (hO5.ext (((((E68.trans E69).trans E70).trans E71).trans E72).trans E73)).wrote K7 (by omega)
      have hQ5 := (hQ5.ext (((((E68.trans E69).trans E70).trans E71).trans E72).trans E73)).wrote K7 (by omega); have hO9 := (hO9.toB.ext ((E71.trans E72).trans E73)).wrote K7 (by omega)
      have hQ9 := (hQ9.toB.ext ((E71.trans E72).trans E73)).wrote K7 (by omega); have hO10 := (hO10.toB.ext E73).wrote K7 (by omega); have hQ10 := (hQ10.toB.ext E73).wrote K7 (by omega); have hO11 := hO11.toB.wrote K7 (by omega)
      have hQ11 := hQ11.toB.wrote K7 (by omega); refine Wo_nil ?_; refine ⟨E81, ?_⟩; refine Wh_take 10 rfl (by kernel_rfl) (by kernel_rfl) rfl (fun _ _ => opv_assign (v := .bool _) rfl) E81 ?_; refine Wh_done (by kernel_rfl) ?_
      refine W_seq ?_; refine W_seq ?_; refine W_region rfl ?_; refine Wo (v := .agg _) rfl (opv_load2 Try.isAgg25 Try.sizeOf25 rfl hB7) ?_; refine Wo (v := .agg _) rfl (opv_load2 Try.isAgg25 Try.sizeOf25 rfl (hB6.ext E79)) ?_
      refine Wo_call rfl (opc2 (a := .agg _) (b := .agg _) Try.call24 rfl rfl) (eq_same _ _ _ _ _ _ _ ((OwnedB.read hO11)) ((OwnedB.read hQ11)) ((Mono.mono E79 hw1)) ((Mono.mono E79 hw2))) ?_; rintro _ w33 ⟨rfl, E84⟩
      have hs28 := E84.size; refine Wo rfl (opv_not rfl) ?_; refine Wo_split rfl (opv_move (v := .bool _) rfl) (fun h18 => ?_) (fun h18 => ?_); contradiction; refine Wo rfl (opv_move (v := .bool _) rfl) ?_
      refine Wo rfl (opv_move (v := .bool _) rfl) ?_; refine Wo rfl (opv_neq_bool Try.underlying4 rfl rfl) ?_; refine Wo rfl (opv_pick_f (v := .bool _) rfl rfl) ?_; refine Wo_nil ?_; refine W_cond_ndec rfl (fun h19 => ?_) (fun h19 => ?_)
      contradiction; refine W_skip ?_; refine W_seq ?_; refine W_region rfl ?_; refine Wo rfl (opv_assign (v := .int _ _) rfl) ?_; refine Wo_nil ?_; refine W_seq ?_; refine W_region rfl ?_
      refine Wo (v := .agg _) rfl (opv_load2 Try.isAgg25 Try.sizeOf25 rfl (hB5.ext E84)) ?_; refine Wo rfl (opv_move (v := .int _ _) rfl) ?_
      refine Wo_call rfl (opc2 (a := .agg _) (b := .int _ _) Try.call26 rfl rfl) (heldStream_ok _ _ _ _ _ _ ((Mono.mono E84 (OwnedB.read hO8))) ((Mono.mono E84 (OwnedB.read hQ8))) (by omega) (by omega) (by omega)) ?_
      rintro _ w34 ⟨rfl, E85⟩; have hs29 := E85.size; refine Wo rfl (opv_assign (v := .int _ _) rfl) ?_; refine Wo_nil ?_; refine W_seq ?_; refine W_seq ?_; refine W_region rfl ?_; refine Wo rfl (opv_move (v := .int _ _) rfl) ?_
      refine Wo rfl (opv_lss rfl rfl) ?_; refine Wo_nil ?_; refine W_cond_dec rfl (fun h20 => ?_) (fun h20 => ?_); contradiction; refine W_skip ?_; refine W_seq ?_; refine W_seq ?_; refine W_region rfl ?_
      refine Wo rfl (opv_move (v := .int _ _) rfl) ?_; refine Wo rfl (opv_move (v := .int _ _) rfl) ?_; refine Wo rfl (opv_neq rfl rfl) ?_; refine Wo_nil ?_; refine W_cond_ndec rfl (fun h21 => ?_) (fun h21 => ?_); contradiction
      refine W_skip ?_; refine W_seq ?_; refine W_region rfl ?_; refine Wo rfl (opv_assign (v := .bool _) rfl) ?_; refine Wo_nil ?_; refine W_ret ?_; exact ⟨rfl, ((E74.trans E84).trans E85)⟩; exact WhAll_nil; exact WhAll_nil
      exact WhAll_nil; exact WhAll_nil; refine WhAll_cons rfl ?_ ?_; refine Wo_alloc2 rfl flat25 ?_; rintro b7 w28 hb6 E70 hB7; have hlb7 := hB7.lt; have hs24 := E70.size; refine Wo_nil ?_; refine ⟨(E69.trans E70), ?_⟩
      refine Wh_all (rs := [1]) (by kernel_rfl) rfl ?_; refine WhAll_cons rfl ?_ ?_
      refine Wo_call rfl (opc1 (a := .agg _) Try.call23 rfl) (toStream_ok _ _ _ _ _ ((Mono.mono (((E62.trans E68).trans E69).trans E70) h1)) ((Mono.mono (((E62.trans E68).trans E69).trans E70) h2)) (by assumption) (by assumption)) ?_
      rintro _ w29 ⟨u8, q6, rfl, E71, hO9, hQ9, hd6⟩; have icu8 := OwnedB.isC (Owned.toB hO9); have cpu8 := OwnedB.capOk (Owned.toB hO9); have icq6 := OwnedB.isC (Owned.toB hQ9); have cpq6 := OwnedB.capOk (Owned.toB hQ9)
      have hs25 := E71.size; refine Wo_nil ?_; refine ⟨((E69.trans E70).trans E71), ?_⟩; refine Wh_all (rs := [3]) (by kernel_rfl) rfl ?_; refine WhAll_cons rfl ?_ ?_
      refine Wo_call rfl (opc1 (a := .agg _) Try.call23 rfl) (toStream_ok _ _ _ _ _ ((Mono.mono ((((E62.trans E68).trans E69).trans E70).trans E71) h3)) ((Mono.mono ((((E62.trans E68).trans E69).trans E70).trans E71) h4)) (by assumption) (by assumption)) ?_
      rintro _ w30 ⟨u9, q7, rfl, E72, hO10, hQ10, hd7⟩; have icu9 := OwnedB.isC (Owned.toB hO10); have cpu9 := OwnedB.capOk (Owned.toB hO10); have icq7 := OwnedB.isC (Owned.toB hQ10); have cpq7 := OwnedB.capOk (Owned.toB hQ10)
      have hs26 := E72.size; refine Wo_nil ?_; refine ⟨(((E69.trans E70).trans E71).trans E72), ?_⟩; refine Wh_all (rs := [4]) (by kernel_rfl) rfl ?_; refine WhAll_cons rfl ?_ ?_
      refine Wo_call rfl (opc2 (a := .agg _) (b := .agg _) Try.call36 rfl rfl) (k2 _ _ _ _ _ ((Mono.mono E72 (Owned.read hO9))) ((Mono.mono E72 (Owned.read hQ9))) ((Owned.read hO10)) ((Owned.read hQ10))) ?_
      rintro _ w31 ⟨u10, q8, rfl, E73, hO11, hQ11, hd8⟩; have icu10 := OwnedB.isC (Owned.toB hO11); have cpu10 := OwnedB.capOk (Owned.toB hO11); have icq8 := OwnedB.isC (Owned.toB hQ11); have cpq8 := OwnedB.capOk (Owned.toB hQ11)
      have hs27 := E73.size; refine Wo_nil ?_; refine ⟨((((E69.trans E70).trans E71).trans E72).trans E73), ?_⟩
      refine Wh_take 5 rfl (by kernel_rfl) (by kernel_rfl) rfl (fun _ _ => opv_move (v := .tuple _) rfl) ((((E69.trans E70).trans E71).trans E72).trans E73) ?_
      refine Wh_take 6 rfl (by kernel_rfl) (by kernel_rfl) rfl (fun _ _ => opv_extract (v := .agg _) rfl rfl) ((((E69.trans E70).trans E71).trans E72).trans E73) ?_
      refine Wh_take 7 rfl (by kernel_rfl) (by kernel_rfl) rfl (fun _ _ => opv_extract (v := .bool _) rfl rfl) ((((E69.trans E70).trans E71).trans E72).trans E73) ?_; refine Wh_all (rs := [9]) (by kernel_rfl) rfl ?_
      refine WhAll_cons rfl ?_ ?_
      refine Wo_st2 rfl Try.sizeOf25 rfl rfl (by first | rfl | assumption) (by first | rfl | assumption) (hB7.ext ((E71.trans E72).trans E73)) (by omega) ((((((E62.trans E68).trans E69).trans E70).trans E71).trans E72).trans E73) ?_
      rintro w32 E74 hB7 K7 hz7; have E75 := ((((((E63.trans E68).trans E69).trans E70).trans E71).trans E72).trans E73).wroteAt ((((((E62.trans E68).trans E69).trans E70).trans E71).trans E72).trans E73) E74 K7 hz7 (by omega)
      have szE75 := E75.size; have E76 := ((((((E64.trans E68).trans E69).trans E70).trans E71).trans E72).trans E73).wroteAt ((((((E62.trans E68).trans E69).trans E70).trans E71).trans E72).trans E73) E74 K7 hz7 (by omega)
      have szE76 := E76.size; have E77 := ((((((E65.trans E68).trans E69).trans E70).trans E71).trans E72).trans E73).wroteAt ((((((E62.trans E68).trans E69).trans E70).trans E71).trans E72).trans E73) E74 K7 hz7 (by omega)
      have szE77 := E77.size; have E78 := ((((((E66.trans E68).trans E69).trans E70).trans E71).trans E72).trans E73).wroteAt ((((((E62.trans E68).trans E69).trans E70).trans E71).trans E72).trans E73) E74 K7 hz7 (by omega)
      have szE78 := E78.size; have E79 := ((((((E67.trans E68).trans E69).trans E70).trans E71).trans E72).trans E73).wroteAt ((((((E62.trans E68).trans E69).trans E70).trans E71).trans E72).trans E73) E74 K7 hz7 (by omega)
      have szE79 := E79.size; have E80 := (((((E68.trans E69).trans E70).trans E71).trans E72).trans E73).wroteAt ((((((E62.trans E68).trans E69).trans E70).trans E71).trans E72).trans E73) E74 K7 hz7 (by omega); have szE80 := E80.size
      have E81 := ((((E69.trans E70).trans E71).trans E72).trans E73).wroteAt ((((((E62.trans E68).trans E69).trans E70).trans E71).trans E72).trans E73) E74 K7 hz7 (by omega); have szE81 := E81.size
      have E82 := (((E70.trans E71).trans E72).trans E73).wroteAt ((((((E62.trans E68).trans E69).trans E70).trans E71).trans E72).trans E73) E74 K7 hz7 (by omega); have szE82 := E82.size
      have hO8 := (hO8.ext (((((E68.trans E69).trans E70).trans E71).trans E72).trans E73)).wrote K7 (by omega); have hQ8 := (hQ8.ext (((((E68.trans E69).trans E70).trans E71).trans E72).trans E73)).wrote K7 (by omega)
      have hO7 := (hO7.ext (((((E68.trans E69).trans E70).trans E71).trans E72).trans E73)).wrote K7 (by omega); have hQ7 := (hQ7.ext (((((E68.trans E69).trans E70).trans E71).trans E72).trans E73)).wrote K7 (by omega)
      have hO6 := (hO6.ext (((((E68.trans E69).trans E70).trans E71).trans E72).trans E73)).wrote K7 (by omega); have hQ6 := (hQ6.ext (((((E68.trans E69).trans E70).trans E71).trans E72).trans E73)).wrote K7 (by omega)
      have hB5 := (hB5.ext (((((E68.trans E69).trans E70).trans E71).trans E72).trans E73)).of_heap (K7 _ (by omega)); have hB4 := (hB4.ext (((((E68.trans E69).trans E70).trans E71).trans E72).trans E73)).of_heap (K7 _ (by omega))
      have hB3 := (hB3.ext (((((E68.trans E69).trans E70).trans E71).trans E72).trans E73)).of_heap (K7 _ (by omega)); have hB1 := (hB1.ext (((((E68.trans E69).trans E70).trans E71).trans E72).trans E73)).of_heap (K7 _ (by omega))
      have hB2 := (hB2.ext (((((E68.trans E69).trans E70).trans E71).trans E72).trans E73)).of_heap (K7 _ (by omega)); have hO4 := (hO4.ext (((((E68.trans E69).trans E70).trans E71).trans E72).trans E73)).wrote K7 (by omega)
      have hQ4 := (hQ4.ext (((((E68.trans E69).trans E70).trans E71).trans E72).trans E73)).wrote K7 (by omega); have hO5 := (hO5.ext (((((E68.trans E69).trans E70).trans E71).trans E72).trans E73)).wrote K7 (by omega)
      have hQ5 := (hQ5.ext (((((E68.trans E69).trans E70).trans E71).trans E72).trans E73)).wrote K7 (by omega); have hO9 := (hO9.toB.ext (E72.trans E73)).wrote K7 (by omega); have hQ9 := (hQ9.toB.ext (E72.trans E73)).wrote K7 (by omega)
      have hO10 := (hO10.toB.ext E73).wrote K7 (by omega); have hQ10 := (hQ10.toB.ext E73).wrote K7 (by omega); have hO11 := hO11.toB.wrote K7 (by omega); have hQ11 := hQ11.toB.wrote K7 (by omega); refine Wo_nil ?_; refine ⟨E81, ?_⟩
      refine Wh_take 10 rfl (by kernel_rfl) (by kernel_rfl) rfl (fun _ _ => opv_assign (v := .bool _) rfl) E81 ?_; refine Wh_done (by kernel_rfl) ?_; refine W_seq ?_; refine W_seq ?_; refine W_region rfl ?_
      refine Wo (v := .agg _) rfl (opv_load2 Try.isAgg25 Try.sizeOf25 rfl hB7) ?_; refine Wo (v := .agg _) rfl (opv_load2 Try.isAgg25 Try.sizeOf25 rfl (hB6.ext E79)) ?_
      refine Wo_call rfl (opc2 (a := .agg _) (b := .agg _) Try.call24 rfl rfl) (eq_same _ _ _ _ _ _ _ ((OwnedB.read hO11)) ((OwnedB.read hQ11)) ((Mono.mono E79 hw1)) ((Mono.mono E79 hw2))) ?_; rintro _ w33 ⟨rfl, E83⟩
      have hs28 := E83.size; refine Wo rfl (opv_not rfl) ?_; refine Wo_split rfl (opv_move (v := .bool _) rfl) (fun h18 => ?_) (fun h18 => ?_); contradiction; refine Wo rfl (opv_move (v := .bool _) rfl) ?_
      refine Wo rfl (opv_move (v := .bool _) rfl) ?_; refine Wo rfl (opv_neq_bool Try.underlying4 rfl rfl) ?_; refine Wo rfl (opv_pick_f (v := .bool _) rfl rfl) ?_; refine Wo_nil ?_; refine W_cond_ndec rfl (fun h19 => ?_) (fun h19 => ?_)
      contradiction; refine W_skip ?_; refine W_seq ?_; refine W_region rfl ?_; refine Wo rfl (opv_assign (v := .int _ _) rfl) ?_; refine Wo_nil ?_; refine W_seq ?_; refine W_region rfl ?_
      refine Wo (v := .agg _) rfl (opv_load2 Try.isAgg25 Try.sizeOf25 rfl (hB5.ext E83)) ?_; refine Wo rfl (opv_move (v := .int _ _) rfl) ?_
      refine Wo_call rfl (opc2 (a := .agg _) (b := .int _ _) Try.call26 rfl rfl) (heldStream_ok _ _ _ _ _ _ ((Mono.mono E83 (OwnedB.read hO8))) ((Mono.mono E83 (OwnedB.read hQ8))) (by omega) (by omega) (by omega)) ?_
      rintro _ w34 ⟨rfl, E84⟩; have hs29 := E84.size; refine Wo rfl (opv_assign (v := .int _ _) rfl) ?_; refine Wo_nil ?_; refine W_seq ?_; refine W_seq ?_; refine W_region rfl ?_; refine Wo rfl (opv_move (v := .int _ _) rfl) ?_
      refine Wo rfl (opv_lss rfl rfl) ?_; refine Wo_nil ?_; refine W_cond_dec rfl (fun h20 => ?_) (fun h20 => ?_); contradiction; refine W_skip ?_; refine W_seq ?_; refine W_seq ?_; refine W_region rfl ?_
      refine Wo rfl (opv_move (v := .int _ _) rfl) ?_; refine Wo rfl (opv_move (v := .int _ _) rfl) ?_; refine Wo rfl (opv_neq rfl rfl) ?_; refine Wo_nil ?_; refine W_cond_ndec rfl (fun h21 => ?_) (fun h21 => ?_); contradiction
      refine W_skip ?_; refine W_seq ?_; refine W_region rfl ?_; refine Wo rfl (opv_assign (v := .bool _) rfl) ?_; refine Wo_nil ?_; refine W_ret ?_; exact ⟨rfl, ((E74.trans E83).trans E84)⟩; exact WhAll_nil; exact WhAll_nil
      exact WhAll_nil; exact WhAll_nil; exact WhAll_nil
  · have heldS : w4 = w4 := rfl
    refine W_mid [27, 28, 29, 30, 31, 32, 33, 34, 6, 7] (fun ((b6, _) : Nat × Value × Value) => [(6, .pointer (some ⟨b6, 0, none⟩)), (7, .bool true)]) (fun (b6, uw, qw) w' => Ext w4 w' ∧ Blk w' b6 [uw, qw] ∧ Ints w' uw X ∧ Ints w' qw Y) ?_ ?_
    · focus
        have szE4 := E4.size; have szE3 := E3.size; have szE2 := E2.size; have szE1 := E1.size; refine W_held (fun w' => Ext w4 w') mixed rfl (by kernel_rfl) ?_; intro w5 E5 K1 hz1; have hs5 := E5.size
        refine Wh_take (v := .agg _) 0 rfl (by kernel_rfl) (by kernel_rfl) rfl (fun w' hw' => opv_load2 Try.isAgg34 Try.sizeOf34 rfl (hB1.ext (((E2.trans E3).trans E4).trans hw'))) E5 ?_
        refine Wh_take (v := .agg _) 2 rfl (by kernel_rfl) (by kernel_rfl) rfl (fun w' hw' => opv_load2 Try.isAgg34 Try.sizeOf34 rfl (hB2.ext ((E3.trans E4).trans hw'))) E5 ?_; refine Wh_all (rs := [1, 8]) (by kernel_rfl) rfl ?_
        refine WhAll_cons rfl ?_ ?_
        refine Wo_call rfl (opc1 (a := .agg _) Try.call23 rfl) (toStream_ok _ _ _ _ _ ((Mono.mono ((((E1.trans E2).trans E3).trans E4).trans E5) h1)) ((Mono.mono ((((E1.trans E2).trans E3).trans E4).trans E5) h2)) (by assumption) (by assumption)) ?_
        rintro _ w6 ⟨u3, q1, rfl, E6, hO1, hQ1, hd1⟩; have icu3 := OwnedB.isC (Owned.toB hO1); have cpu3 := OwnedB.capOk (Owned.toB hO1); have icq1 := OwnedB.isC (Owned.toB hQ1); have cpq1 := OwnedB.capOk (Owned.toB hQ1)
        have hs6 := E6.size; refine Wo_nil ?_; refine ⟨(E5.trans E6), ?_⟩; refine Wh_all (rs := [3, 8]) (by kernel_rfl) rfl ?_; refine WhAll_cons rfl ?_ ?_
        refine Wo_call rfl (opc1 (a := .agg _) Try.call23 rfl) (toStream_ok _ _ _ _ _ ((Mono.mono (((((E1.trans E2).trans E3).trans E4).trans E5).trans E6) h3)) ((Mono.mono (((((E1.trans E2).trans E3).trans E4).trans E5).trans E6) h4)) (by assumption) (by assumption)) ?_
        rintro _ w7 ⟨u4, q2, rfl, E7, hO2, hQ2, hd2⟩; have icu4 := OwnedB.isC (Owned.toB hO2); have cpu4 := OwnedB.capOk (Owned.toB hO2); have icq2 := OwnedB.isC (Owned.toB hQ2); have cpq2 := OwnedB.capOk (Owned.toB hQ2)
        have hs7 := E7.size; refine Wo_nil ?_; refine ⟨((E5.trans E6).trans E7), ?_⟩; refine Wh_all (rs := [4, 8]) (by kernel_rfl) rfl ?_; refine WhAll_cons rfl ?_ ?_
        refine Wo_call rfl (opc2 (a := .agg _) (b := .agg _) Try.call35 rfl rfl) (k1 _ _ _ _ _ ((Mono.mono E7 (Owned.read hO1))) ((Mono.mono E7 (Owned.read hQ1))) ((Owned.read hO2)) ((Owned.read hQ2))) ?_
        rintro _ w8 ⟨u5, q3, rfl, E8, hO3, hQ3, hd3⟩; have icu5 := OwnedB.isC (Owned.toB hO3); have cpu5 := OwnedB.capOk (Owned.toB hO3); have icq3 := OwnedB.isC (Owned.toB hQ3); have cpq3 := OwnedB.capOk (Owned.toB hQ3)
        have hs8 := E8.size; refine Wo_nil ?_; refine ⟨(((E5.trans E6).trans E7).trans E8), ?_⟩; refine Wh_take 5 rfl (by kernel_rfl) (by kernel_rfl) rfl (fun _ _ => opv_move (v := .tuple _) rfl) (((E5.trans E6).trans E7).trans E8) ?_
        refine Wh_take 6 rfl (by kernel_rfl) (by kernel_rfl) rfl (fun _ _ => opv_extract (v := .agg _) rfl rfl) (((E5.trans E6).trans E7).trans E8) ?_
        refine Wh_take 7 rfl (by kernel_rfl) (by kernel_rfl) rfl (fun _ _ => opv_extract (v := .bool _) rfl rfl) (((E5.trans E6).trans E7).trans E8) ?_; refine Wh_all (rs := [8]) (by kernel_rfl) rfl ?_; refine WhAll_cons rfl ?_ ?_
        refine Wo_alloc2 rfl flat25 ?_; rintro b3 w9 hb3 E9 hB3; have hlb3 := hB3.lt; have hs9 := E9.size; refine Wo_nil ?_; refine ⟨((((E5.trans E6).trans E7).trans E8).trans E9), ?_⟩; refine Wh_all (rs := [9]) (by kernel_rfl) rfl ?_
        refine WhAll_cons rfl ?_ ?_
        refine Wo_st2 rfl Try.sizeOf25 rfl rfl (by first | rfl | assumption) (by first | rfl | assumption) hB3 (by omega) ((((((((E1.trans E2).trans E3).trans E4).trans E5).trans E6).trans E7).trans E8).trans E9) ?_
        rintro w10 E10 hB3 K2 hz2
        have E11 := (((((((E2.trans E3).trans E4).trans E5).trans E6).trans E7).trans E8).trans E9).wroteAt ((((((((E1.trans E2).trans E3).trans E4).trans E5).trans E6).trans E7).trans E8).trans E9) E10 K2 hz2 (by omega)
        have szE11 := E11.size; have E12 := ((((((E3.trans E4).trans E5).trans E6).trans E7).trans E8).trans E9).wroteAt ((((((((E1.trans E2).trans E3).trans E4).trans E5).trans E6).trans E7).trans E8).trans E9) E10 K2 hz2 (by omega)
        have szE12 := E12.size; have E13 := (((((E4.trans E5).trans E6).trans E7).trans E8).trans E9).wroteAt ((((((((E1.trans E2).trans E3).trans E4).trans E5).trans E6).trans E7).trans E8).trans E9) E10 K2 hz2 (by omega)
        have szE13 := E13.size; have E14 := ((((E5.trans E6).trans E7).trans E8).trans E9).wroteAt ((((((((E1.trans E2).trans E3).trans E4).trans E5).trans E6).trans E7).trans E8).trans E9) E10 K2 hz2 (by omega); have szE14 := E14.size
        have E15 := (((E6.trans E7).trans E8).trans E9).wroteAt ((((((((E1.trans E2).trans E3).trans E4).trans E5).trans E6).trans E7).trans E8).trans E9) E10 K2 hz2 (by omega); have szE15 := E15.size
        have E16 := ((E7.trans E8).trans E9).wroteAt ((((((((E1.trans E2).trans E3).trans E4).trans E5).trans E6).trans E7).trans E8).trans E9) E10 K2 hz2 (by omega); have szE16 := E16.size
        have E17 := (E8.trans E9).wroteAt ((((((((E1.trans E2).trans E3).trans E4).trans E5).trans E6).trans E7).trans E8).trans E9) E10 K2 hz2 (by omega); have szE17 := E17.size
        have E18 := E9.wroteAt ((((((((E1.trans E2).trans E3).trans E4).trans E5).trans E6).trans E7).trans E8).trans E9) E10 K2 hz2 (by omega); have szE18 := E18.size
        have hB1 := (hB1.ext (((((((E2.trans E3).trans E4).trans E5).trans E6).trans E7).trans E8).trans E9)).of_heap (K2 _ (by omega))
        have hB2 := (hB2.ext ((((((E3.trans E4).trans E5).trans E6).trans E7).trans E8).trans E9)).of_heap (K2 _ (by omega)); have hO1 := (hO1.toB.ext ((E7.trans E8).trans E9)).wrote K2 (by omega)
        have hQ1 := (hQ1.toB.ext ((E7.trans E8).trans E9)).wrote K2 (by omega); have hO2 := (hO2.toB.ext (E8.trans E9)).wrote K2 (by omega); have hQ2 := (hQ2.toB.ext (E8.trans E9)).wrote K2 (by omega)
        have hO3 := (hO3.toB.ext E9).wrote K2 (by omega); have hQ3 := (hQ3.toB.ext E9).wrote K2 (by omega); refine Wo_nil ?_; refine ⟨E14, ?_⟩
        refine Wh_take 10 rfl (by kernel_rfl) (by kernel_rfl) rfl (fun _ _ => opv_assign (v := .bool _) rfl) E14 ?_; refine Wh_done (by kernel_rfl) ?_; rotate_left; exact WhAll_nil; exact WhAll_nil; refine WhAll_cons rfl ?_ ?_
        refine Wo_alloc2 rfl flat25 ?_; rintro b3 w8 hb3 E8 hB3; have hlb3 := hB3.lt; have hs8 := E8.size; refine Wo_nil ?_; refine ⟨(((E5.trans E6).trans E7).trans E8), ?_⟩; refine Wh_all (rs := [4]) (by kernel_rfl) rfl ?_
        refine WhAll_cons rfl ?_ ?_
        refine Wo_call rfl (opc2 (a := .agg _) (b := .agg _) Try.call35 rfl rfl) (k1 _ _ _ _ _ ((Mono.mono (E7.trans E8) (Owned.read hO1))) ((Mono.mono (E7.trans E8) (Owned.read hQ1))) ((Mono.mono E8 (Owned.read hO2))) ((Mono.mono E8 (Owned.read hQ2)))) ?_
        rintro _ w9 ⟨u5, q3, rfl, E9, hO3, hQ3, hd3⟩; have icu5 := OwnedB.isC (Owned.toB hO3); have cpu5 := OwnedB.capOk (Owned.toB hO3); have icq3 := OwnedB.isC (Owned.toB hQ3); have cpq3 := OwnedB.capOk (Owned.toB hQ3)
        have hs9 := E9.size; refine Wo_nil ?_; refine ⟨((((E5.trans E6).trans E7).trans E8).trans E9), ?_⟩
        refine Wh_take 5 rfl (by kernel_rfl) (by kernel_rfl) rfl (fun _ _ => opv_move (v := .tuple _) rfl) ((((E5.trans E6).trans E7).trans E8).trans E9) ?_
        refine Wh_take 6 rfl (by kernel_rfl) (by kernel_rfl) rfl (fun _ _ => opv_extract (v := .agg _) rfl rfl) ((((E5.trans E6).trans E7).trans E8).trans E9) ?_
        refine Wh_take 7 rfl (by kernel_rfl) (by kernel_rfl) rfl (fun _ _ => opv_extract (v := .bool _) rfl rfl) ((((E5.trans E6).trans E7).trans E8).trans E9) ?_; refine Wh_all (rs := [9]) (by kernel_rfl) rfl ?_
        refine WhAll_cons rfl ?_ ?_
        refine Wo_st2 rfl Try.sizeOf25 rfl rfl (by first | rfl | assumption) (by first | rfl | assumption) (hB3.ext E9) (by omega) ((((((((E1.trans E2).trans E3).trans E4).trans E5).trans E6).trans E7).trans E8).trans E9) ?_
        rintro w10 E10 hB3 K2 hz2
        have E11 := (((((((E2.trans E3).trans E4).trans E5).trans E6).trans E7).trans E8).trans E9).wroteAt ((((((((E1.trans E2).trans E3).trans E4).trans E5).trans E6).trans E7).trans E8).trans E9) E10 K2 hz2 (by omega)
        have szE11 := E11.size; have E12 := ((((((E3.trans E4).trans E5).trans E6).trans E7).trans E8).trans E9).wroteAt ((((((((E1.trans E2).trans E3).trans E4).trans E5).trans E6).trans E7).trans E8).trans E9) E10 K2 hz2 (by omega)
        have szE12 := E12.size; have E13 := (((((E4.trans E5).trans E6).trans E7).trans E8).trans E9).wroteAt ((((((((E1.trans E2).trans E3).trans E4).trans E5).trans E6).trans E7).trans E8).trans E9) E10 K2 hz2 (by omega)
        have szE13 := E13.size; have E14 := ((((E5.trans E6).trans E7).trans E8).trans E9).wroteAt ((((((((E1.trans E2).trans E3).trans E4).trans E5).trans E6).trans E7).trans E8).trans E9) E10 K2 hz2 (by omega); have szE14 := E14.size
        have E15 := (((E6.trans E7).trans E8).trans E9).wroteAt ((((((((E1.trans E2).trans E3).trans E4).trans E5).trans E6).trans E7).trans E8).trans E9) E10 K2 hz2 (by omega); have szE15 := E15.size
        have E16 := ((E7.trans E8).trans E9).wroteAt ((((((((E1.trans E2).trans E3).trans E4).trans E5).trans E6).trans E7).trans E8).trans E9) E10 K2 hz2 (by omega); have szE16 := E16.size
        have E17 := (E8.trans E9).wroteAt ((((((((E1.trans E2).trans E3).trans E4).trans E5).trans E6).trans E7).trans E8).trans E9) E10 K2 hz2 (by omega); have szE17 := E17.size
        have hB1 := (hB1.ext (((((((E2.trans E3).trans E4).trans E5).trans E6).trans E7).trans E8).trans E9)).of_heap (K2 _ (by omega))
        have hB2 := (hB2.ext ((((((E3.trans E4).trans E5).trans E6).trans E7).trans E8).trans E9)).of_heap (K2 _ (by omega)); have hO1 := (hO1.toB.ext ((E7.trans E8).trans E9)).wrote K2 (by omega)
        have hQ1 := (hQ1.toB.ext ((E7.trans E8).trans E9)).wrote K2 (by omega); have hO2 := (hO2.toB.ext (E8.trans E9)).wrote K2 (by omega); have hQ2 := (hQ2.toB.ext (E8.trans E9)).wrote K2 (by omega)
        have hO3 := hO3.toB.wrote K2 (by omega); have hQ3 := hQ3.toB.wrote K2 (by omega); refine Wo_nil ?_; refine ⟨E14, ?_⟩; refine Wh_take 10 rfl (by kernel_rfl) (by kernel_rfl) rfl (fun _ _ => opv_assign (v := .bool _) rfl) E14 ?_
        refine Wh_done (by kernel_rfl) ?_; rotate_left; exact WhAll_nil; exact WhAll_nil; exact WhAll_nil; refine WhAll_cons rfl ?_ ?_; refine Wo_alloc2 rfl flat25 ?_; rintro b3 w7 hb3 E7 hB3; have hlb3 := hB3.lt; have hs7 := E7.size
        refine Wo_nil ?_; refine ⟨((E5.trans E6).trans E7), ?_⟩; refine Wh_all (rs := [3]) (by kernel_rfl) rfl ?_; refine WhAll_cons rfl ?_ ?_
        refine Wo_call rfl (opc1 (a := .agg _) Try.call23 rfl) (toStream_ok _ _ _ _ _ ((Mono.mono ((((((E1.trans E2).trans E3).trans E4).trans E5).trans E6).trans E7) h3)) ((Mono.mono ((((((E1.trans E2).trans E3).trans E4).trans E5).trans E6).trans E7) h4)) (by assumption) (by assumption)) ?_
        rintro _ w8 ⟨u4, q2, rfl, E8, hO2, hQ2, hd2⟩; have icu4 := OwnedB.isC (Owned.toB hO2); have cpu4 := OwnedB.capOk (Owned.toB hO2); have icq2 := OwnedB.isC (Owned.toB hQ2); have cpq2 := OwnedB.capOk (Owned.toB hQ2)
        have hs8 := E8.size; refine Wo_nil ?_; refine ⟨(((E5.trans E6).trans E7).trans E8), ?_⟩; refine Wh_all (rs := [4]) (by kernel_rfl) rfl ?_; refine WhAll_cons rfl ?_ ?_
        refine Wo_call rfl (opc2 (a := .agg _) (b := .agg _) Try.call35 rfl rfl) (k1 _ _ _ _ _ ((Mono.mono (E7.trans E8) (Owned.read hO1))) ((Mono.mono (E7.trans E8) (Owned.read hQ1))) ((Owned.read hO2)) ((Owned.read hQ2))) ?_
        rintro _ w9 ⟨u5, q3, rfl, E9, hO3, hQ3, hd3⟩; have icu5 := OwnedB.isC (Owned.toB hO3); have cpu5 := OwnedB.capOk (Owned.toB hO3); have icq3 := OwnedB.isC (Owned.toB hQ3); have cpq3 := OwnedB.capOk (Owned.toB hQ3)
        have hs9 := E9.size; refine Wo_nil ?_; refine ⟨((((E5.trans E6).trans E7).trans E8).trans E9), ?_⟩
        refine Wh_take 5 rfl (by kernel_rfl) (by kernel_rfl) rfl (fun _ _ => opv_move (v := .tuple _) rfl) ((((E5.trans E6).trans E7).trans E8).trans E9) ?_
        refine Wh_take 6 rfl (by kernel_rfl) (by kernel_rfl) rfl (fun _ _ => opv_extract (v := .agg _) rfl rfl) ((((E5.trans E6).trans E7).trans E8).trans E9) ?_
        refine Wh_take 7 rfl (by kernel_rfl) (by kernel_rfl) rfl (fun _ _ => opv_extract (v := .bool _) rfl rfl) ((((E5.trans E6).trans E7).trans E8).trans E9) ?_; refine Wh_all (rs := [9]) (by kernel_rfl) rfl ?_
        refine WhAll_cons rfl ?_ ?_
        refine Wo_st2 rfl Try.sizeOf25 rfl rfl (by first | rfl | assumption) (by first | rfl | assumption) (hB3.ext (E8.trans E9)) (by omega) ((((((((E1.trans E2).trans E3).trans E4).trans E5).trans E6).trans E7).trans E8).trans E9) ?_
        rintro w10 E10 hB3 K2 hz2
        have E11 := (((((((E2.trans E3).trans E4).trans E5).trans E6).trans E7).trans E8).trans E9).wroteAt ((((((((E1.trans E2).trans E3).trans E4).trans E5).trans E6).trans E7).trans E8).trans E9) E10 K2 hz2 (by omega)
        have szE11 := E11.size; have E12 := ((((((E3.trans E4).trans E5).trans E6).trans E7).trans E8).trans E9).wroteAt ((((((((E1.trans E2).trans E3).trans E4).trans E5).trans E6).trans E7).trans E8).trans E9) E10 K2 hz2 (by omega)
        have szE12 := E12.size; have E13 := (((((E4.trans E5).trans E6).trans E7).trans E8).trans E9).wroteAt ((((((((E1.trans E2).trans E3).trans E4).trans E5).trans E6).trans E7).trans E8).trans E9) E10 K2 hz2 (by omega)
        have szE13 := E13.size; have E14 := ((((E5.trans E6).trans E7).trans E8).trans E9).wroteAt ((((((((E1.trans E2).trans E3).trans E4).trans E5).trans E6).trans E7).trans E8).trans E9) E10 K2 hz2 (by omega); have szE14 := E14.size
        have E15 := (((E6.trans E7).trans E8).trans E9).wroteAt ((((((((E1.trans E2).trans E3).trans E4).trans E5).trans E6).trans E7).trans E8).trans E9) E10 K2 hz2 (by omega); have szE15 := E15.size
        have E16 := ((E7.trans E8).trans E9).wroteAt ((((((((E1.trans E2).trans E3).trans E4).trans E5).trans E6).trans E7).trans E8).trans E9) E10 K2 hz2 (by omega); have szE16 := E16.size
        have hB1 := (hB1.ext (((((((E2.trans E3).trans E4).trans E5).trans E6).trans E7).trans E8).trans E9)).of_heap (K2 _ (by omega))
        have hB2 := (hB2.ext ((((((E3.trans E4).trans E5).trans E6).trans E7).trans E8).trans E9)).of_heap (K2 _ (by omega)); have hO1 := (hO1.toB.ext ((E7.trans E8).trans E9)).wrote K2 (by omega)
        have hQ1 := (hQ1.toB.ext ((E7.trans E8).trans E9)).wrote K2 (by omega); have hO2 := (hO2.toB.ext E9).wrote K2 (by omega); have hQ2 := (hQ2.toB.ext E9).wrote K2 (by omega); have hO3 := hO3.toB.wrote K2 (by omega)
        have hQ3 := hQ3.toB.wrote K2 (by omega); refine Wo_nil ?_; refine ⟨E14, ?_⟩; refine Wh_take 10 rfl (by kernel_rfl) (by kernel_rfl) rfl (fun _ _ => opv_assign (v := .bool _) rfl) E14 ?_; refine Wh_done (by kernel_rfl) ?_; rotate_left
        exact WhAll_nil; exact WhAll_nil; exact WhAll_nil; exact WhAll_nil; refine WhAll_cons rfl ?_ ?_; refine Wo_alloc2 rfl flat25 ?_; rintro b3 w6 hb3 E6 hB3; have hlb3 := hB3.lt; have hs6 := E6.size; refine Wo_nil ?_
        refine ⟨(E5.trans E6), ?_⟩; refine Wh_all (rs := [1]) (by kernel_rfl) rfl ?_; refine WhAll_cons rfl ?_ ?_
        refine Wo_call rfl (opc1 (a := .agg _) Try.call23 rfl) (toStream_ok _ _ _ _ _ ((Mono.mono (((((E1.trans E2).trans E3).trans E4).trans E5).trans E6) h1)) ((Mono.mono (((((E1.trans E2).trans E3).trans E4).trans E5).trans E6) h2)) (by assumption) (by assumption)) ?_
        rintro _ w7 ⟨u3, q1, rfl, E7, hO1, hQ1, hd1⟩; have icu3 := OwnedB.isC (Owned.toB hO1); have cpu3 := OwnedB.capOk (Owned.toB hO1); have icq1 := OwnedB.isC (Owned.toB hQ1); have cpq1 := OwnedB.capOk (Owned.toB hQ1)
        have hs7 := E7.size; refine Wo_nil ?_; refine ⟨((E5.trans E6).trans E7), ?_⟩; refine Wh_all (rs := [3]) (by kernel_rfl) rfl ?_; refine WhAll_cons rfl ?_ ?_
        refine Wo_call rfl (opc1 (a := .agg _) Try.call23 rfl) (toStream_ok _ _ _ _ _ ((Mono.mono ((((((E1.trans E2).trans E3).trans E4).trans E5).trans E6).trans E7) h3)) ((Mono.mono ((((((E1.trans E2).trans E3).trans E4).trans E5).trans E6).trans E7) h4)) (by assumption) (by assumption)) ?_
        rintro _ w8 ⟨u4, q2, rfl, E8, hO2, hQ2, hd2⟩; have icu4 := OwnedB.isC (Owned.toB hO2); have cpu4 := OwnedB.capOk (Owned.toB hO2); have icq2 := OwnedB.isC (Owned.toB hQ2); have cpq2 := OwnedB.capOk (Owned.toB hQ2)
        have hs8 := E8.size; refine Wo_nil ?_; refine ⟨(((E5.trans E6).trans E7).trans E8), ?_⟩; refine Wh_all (rs := [4]) (by kernel_rfl) rfl ?_; refine WhAll_cons rfl ?_ ?_
        refine Wo_call rfl (opc2 (a := .agg _) (b := .agg _) Try.call35 rfl rfl) (k1 _ _ _ _ _ ((Mono.mono E8 (Owned.read hO1))) ((Mono.mono E8 (Owned.read hQ1))) ((Owned.read hO2)) ((Owned.read hQ2))) ?_
        rintro _ w9 ⟨u5, q3, rfl, E9, hO3, hQ3, hd3⟩; have icu5 := OwnedB.isC (Owned.toB hO3); have cpu5 := OwnedB.capOk (Owned.toB hO3); have icq3 := OwnedB.isC (Owned.toB hQ3); have cpq3 := OwnedB.capOk (Owned.toB hQ3)
        have hs9 := E9.size; refine Wo_nil ?_; refine ⟨((((E5.trans E6).trans E7).trans E8).trans E9), ?_⟩
        refine Wh_take 5 rfl (by kernel_rfl) (by kernel_rfl) rfl (fun _ _ => opv_move (v := .tuple _) rfl) ((((E5.trans E6).trans E7).trans E8).trans E9) ?_
        refine Wh_take 6 rfl (by kernel_rfl) (by kernel_rfl) rfl (fun _ _ => opv_extract (v := .agg _) rfl rfl) ((((E5.trans E6).trans E7).trans E8).trans E9) ?_
        refine Wh_take 7 rfl (by kernel_rfl) (by kernel_rfl) rfl (fun _ _ => opv_extract (v := .bool _) rfl rfl) ((((E5.trans E6).trans E7).trans E8).trans E9) ?_; refine Wh_all (rs := [9]) (by kernel_rfl) rfl ?_
        refine WhAll_cons rfl ?_ ?_
        refine Wo_st2 rfl Try.sizeOf25 rfl rfl (by first | rfl | assumption) (by first | rfl | assumption) (hB3.ext ((E7.trans E8).trans E9)) (by omega) ((((((((E1.trans E2).trans E3).trans E4).trans E5).trans E6).trans E7).trans E8).trans E9) ?_
        rintro w10 E10 hB3 K2 hz2
        have E11 := (((((((E2.trans E3).trans E4).trans E5).trans E6).trans E7).trans E8).trans E9).wroteAt ((((((((E1.trans E2).trans E3).trans E4).trans E5).trans E6).trans E7).trans E8).trans E9) E10 K2 hz2 (by omega)
        have szE11 := E11.size; have E12 := ((((((E3.trans E4).trans E5).trans E6).trans E7).trans E8).trans E9).wroteAt ((((((((E1.trans E2).trans E3).trans E4).trans E5).trans E6).trans E7).trans E8).trans E9) E10 K2 hz2 (by omega)
        have szE12 := E12.size; have E13 := (((((E4.trans E5).trans E6).trans E7).trans E8).trans E9).wroteAt ((((((((E1.trans E2).trans E3).trans E4).trans E5).trans E6).trans E7).trans E8).trans E9) E10 K2 hz2 (by omega)
        have szE13 := E13.size; have E14 := ((((E5.trans E6).trans E7).trans E8).trans E9).wroteAt ((((((((E1.trans E2).trans E3).trans E4).trans E5).trans E6).trans E7).trans E8).trans E9) E10 K2 hz2 (by omega); have szE14 := E14.size
        have E15 := (((E6.trans E7).trans E8).trans E9).wroteAt ((((((((E1.trans E2).trans E3).trans E4).trans E5).trans E6).trans E7).trans E8).trans E9) E10 K2 hz2 (by omega); have szE15 := E15.size
        have hB1 := (hB1.ext (((((((E2.trans E3).trans E4).trans E5).trans E6).trans E7).trans E8).trans E9)).of_heap (K2 _ (by omega))
        have hB2 := (hB2.ext ((((((E3.trans E4).trans E5).trans E6).trans E7).trans E8).trans E9)).of_heap (K2 _ (by omega)); have hO1 := (hO1.toB.ext (E8.trans E9)).wrote K2 (by omega)
        have hQ1 := (hQ1.toB.ext (E8.trans E9)).wrote K2 (by omega); have hO2 := (hO2.toB.ext E9).wrote K2 (by omega); have hQ2 := (hQ2.toB.ext E9).wrote K2 (by omega); have hO3 := hO3.toB.wrote K2 (by omega)
        have hQ3 := hQ3.toB.wrote K2 (by omega); refine Wo_nil ?_; refine ⟨E14, ?_⟩; refine Wh_take 10 rfl (by kernel_rfl) (by kernel_rfl) rfl (fun _ _ => opv_assign (v := .bool _) rfl) E14 ?_; refine Wh_done (by kernel_rfl) ?_; rotate_left
        exact WhAll_nil; exact WhAll_nil; exact WhAll_nil; exact WhAll_nil; exact WhAll_nil
      all_goals exact ⟨(b3, u5, q3), ⟨rfl, rfl, trivial⟩, by repeat (first | with_reducible exact Same.refl | refine Same.upd rfl ?_ | refine Same.upds rfl ?_ | refine Same.mix rfl ?_), by assumption, by assumption, hO3.read, hQ3.read⟩
    rintro ⟨b6, uw, qw⟩ ρ8 w8 ⟨E8, hB6, hw1, hw2⟩
    have stop14 : True := trivial
    focus
      have szE8 := E8.size; have szE4 := E4.size; have szE3 := E3.size; have szE2 := E2.size; have szE1 := E1.size; refine W_seq ?_; refine W_region rfl ?_
      refine Wo (v := .agg _) rfl (opv_load2 Try.isAgg34 Try.sizeOf34 rfl (hB1.ext (((E2.trans E3).trans E4).trans E8))) ?_
      refine Wo_call rfl (opc1 (a := .agg _) Try.call23 rfl) (toStream_ok _ _ _ _ _ ((Mono.mono ((((E1.trans E2).trans E3).trans E4).trans E8) h1)) ((Mono.mono ((((E1.trans E2).trans E3).trans E4).trans E8) h2)) (by assumption) (by assumption)) ?_
      rintro _ w5 ⟨u3, q1, rfl, E5, hO1, hQ1, hd1⟩; have icu3 := OwnedB.isC (Owned.toB hO1); have cpu3 := OwnedB.capOk (Owned.toB hO1); have icq1 := OwnedB.isC (Owned.toB hQ1); have cpq1 := OwnedB.capOk (Owned.toB hQ1)
      have hs5 := E5.size; refine Wo_alloc2 rfl flat25 ?_; rintro b3 w6 hb3 E6 hB3; have hlb3 := hB3.lt; have hs6 := E6.size
      refine Wo_st2 rfl Try.sizeOf25 rfl rfl (by first | rfl | assumption) (by first | rfl | assumption) hB3 (by omega) ((((((E1.trans E2).trans E3).trans E4).trans E8).trans E5).trans E6) ?_; rintro w7 E7 hB3 K1 hz1
      have E9 := (((((E2.trans E3).trans E4).trans E8).trans E5).trans E6).wroteAt ((((((E1.trans E2).trans E3).trans E4).trans E8).trans E5).trans E6) E7 K1 hz1 (by omega); have szE9 := E9.size
      have E10 := ((((E3.trans E4).trans E8).trans E5).trans E6).wroteAt ((((((E1.trans E2).trans E3).trans E4).trans E8).trans E5).trans E6) E7 K1 hz1 (by omega); have szE10 := E10.size
      have E11 := (((E4.trans E8).trans E5).trans E6).wroteAt ((((((E1.trans E2).trans E3).trans E4).trans E8).trans E5).trans E6) E7 K1 hz1 (by omega); have szE11 := E11.size
      have E12 := ((E8.trans E5).trans E6).wroteAt ((((((E1.trans E2).trans E3).trans E4).trans E8).trans E5).trans E6) E7 K1 hz1 (by omega); have szE12 := E12.size
      have E13 := (E5.trans E6).wroteAt ((((((E1.trans E2).trans E3).trans E4).trans E8).trans E5).trans E6) E7 K1 hz1 (by omega); have szE13 := E13.size
      have E14 := E6.wroteAt ((((((E1.trans E2).trans E3).trans E4).trans E8).trans E5).trans E6) E7 K1 hz1 (by omega); have szE14 := E14.size
      have hB1 := (hB1.ext (((((E2.trans E3).trans E4).trans E8).trans E5).trans E6)).of_heap (K1 _ (by omega)); have hB2 := (hB2.ext ((((E3.trans E4).trans E8).trans E5).trans E6)).of_heap (K1 _ (by omega))
      have hO1 := (hO1.toB.ext E6).wrote K1 (by omega); have hQ1 := (hQ1.toB.ext E6).wrote K1 (by omega); refine Wo_nil ?_; refine W_seq ?_; refine W_region rfl ?_
      refine Wo (v := .agg _) rfl (opv_load2 Try.isAgg34 Try.sizeOf34 rfl hB2) ?_; refine Wo_call rfl (opc1 (a := .agg _) Try.call23 rfl) (toStream_ok _ _ _ _ _ ((Mono.mono E7 h3)) ((Mono.mono E7 h4)) (by assumption) (by assumption)) ?_
      rintro _ w9 ⟨u4, q2, rfl, E15, hO2, hQ2, hd2⟩; have icu4 := OwnedB.isC (Owned.toB hO2); have cpu4 := OwnedB.capOk (Owned.toB hO2); have icq2 := OwnedB.isC (Owned.toB hQ2); have cpq2 := OwnedB.capOk (Owned.toB hQ2)
      have hs7 := E15.size; refine Wo_alloc2 rfl flat25 ?_; rintro b4 w10 hb4 E16 hB4; have hlb4 := hB4.lt; have hs8 := E16.size
      refine Wo_st2 rfl Try.sizeOf25 rfl rfl (by first | rfl | assumption) (by first | rfl | assumption) hB4 (by omega) ((E7.trans E15).trans E16) ?_; rintro w11 E17 hB4 K2 hz2
      have E18 := ((E9.trans E15).trans E16).wroteAt ((E7.trans E15).trans E16) E17 K2 hz2 (by omega); have szE18 := E18.size; have E19 := ((E10.trans E15).trans E16).wroteAt ((E7.trans E15).trans E16) E17 K2 hz2 (by omega)
      have szE19 := E19.size; have E20 := ((E11.trans E15).trans E16).wroteAt ((E7.trans E15).trans E16) E17 K2 hz2 (by omega); have szE20 := E20.size
      have E21 := ((E12.trans E15).trans E16).wroteAt ((E7.trans E15).trans E16) E17 K2 hz2 (by omega); have szE21 := E21.size; have E22 := ((E13.trans E15).trans E16).wroteAt ((E7.trans E15).trans E16) E17 K2 hz2 (by omega)
      have szE22 := E22.size; have E23 := ((E14.trans E15).trans E16).wroteAt ((E7.trans E15).trans E16) E17 K2 hz2 (by omega); have szE23 := E23.size; have E24 := (E15.trans E16).wroteAt ((E7.trans E15).trans E16) E17 K2 hz2 (by omega)
      have szE24 := E24.size; have E25 := E16.wroteAt ((E7.trans E15).trans E16) E17 K2 hz2 (by omega); have szE25 := E25.size; have hB3 := (hB3.ext (E15.trans E16)).of_heap (K2 _ (by omega))
      have hB1 := (hB1.ext (E15.trans E16)).of_heap (K2 _ (by omega)); have hB2 := (hB2.ext (E15.trans E16)).of_heap (K2 _ (by omega)); have hO1 := (hO1.ext (E15.trans E16)).wrote K2 (by omega)
      have hQ1 := (hQ1.ext (E15.trans E16)).wrote K2 (by omega); have hO2 := (hO2.toB.ext E16).wrote K2 (by omega); have hQ2 := (hQ2.toB.ext E16).wrote K2 (by omega); refine Wo_nil ?_; refine W_seq ?_; refine W_region rfl ?_
      refine Wo (v := .agg _) rfl (opv_load2 Try.isAgg25 Try.sizeOf25 rfl hB3) ?_; refine Wo (v := .agg _) rfl (opv_load2 Try.isAgg25 Try.sizeOf25 rfl hB4) ?_
      refine Wo_call rfl (opc2 (a := .agg _) (b := .agg _) Try.call36 rfl rfl) (k2 _ _ _ _ _ ((OwnedB.read hO1)) ((OwnedB.read hQ1)) ((OwnedB.read hO2)) ((OwnedB.read hQ2))) ?_; rintro _ w12 ⟨u5, q3, rfl, E26, hO3, hQ3, hd3⟩
      have icu5 := OwnedB.isC (Owned.toB hO3); have cpu5 := OwnedB.capOk (Owned.toB hO3); have icq3 := OwnedB.isC (Owned.toB hQ3); have cpq3 := OwnedB.capOk (Owned.toB hQ3); have hs9 := E26.size
      refine Wo rfl (opv_move (v := .tuple _) rfl) ?_; refine Wo rfl (opv_extract (v := .agg _) rfl rfl) ?_; refine Wo rfl (opv_extract (v := .bool _) rfl rfl) ?_; refine Wo_alloc2 rfl flat25 ?_; rintro b5 w13 hb5 E27 hB5
      have hlb5 := hB5.lt; have hs10 := E27.size; refine Wo_st2 rfl Try.sizeOf25 rfl rfl (by first | rfl | assumption) (by first | rfl | assumption) hB5 (by omega) ((E17.trans E26).trans E27) ?_; rintro w14 E28 hB5 K3 hz3
      have E29 := ((E18.trans E26).trans E27).wroteAt ((E17.trans E26).trans E27) E28 K3 hz3 (by omega); have szE29 := E29.size; have E30 := ((E19.trans E26).trans E27).wroteAt ((E17.trans E26).trans E27) E28 K3 hz3 (by omega)
      have szE30 := E30.size; have E31 := ((E20.trans E26).trans E27).wroteAt ((E17.trans E26).trans E27) E28 K3 hz3 (by omega); have szE31 := E31.size
      have E32 := ((E21.trans E26).trans E27).wroteAt ((E17.trans E26).trans E27) E28 K3 hz3 (by omega); have szE32 := E32.size; have E33 := ((E22.trans E26).trans E27).wroteAt ((E17.trans E26).trans E27) E28 K3 hz3 (by omega)
      have szE33 := E33.size; have E34 := ((E23.trans E26).trans E27).wroteAt ((E17.trans E26).trans E27) E28 K3 hz3 (by omega); have szE34 := E34.size
      have E35 := ((E24.trans E26).trans E27).wroteAt ((E17.trans E26).trans E27) E28 K3 hz3 (by omega); have szE35 := E35.size; have E36 := ((E25.trans E26).trans E27).wroteAt ((E17.trans E26).trans E27) E28 K3 hz3 (by omega)
      have szE36 := E36.size; have E37 := (E26.trans E27).wroteAt ((E17.trans E26).trans E27) E28 K3 hz3 (by omega); have szE37 := E37.size; have E38 := E27.wroteAt ((E17.trans E26).trans E27) E28 K3 hz3 (by omega); have szE38 := E38.size
      have hB4 := (hB4.ext (E26.trans E27)).of_heap (K3 _ (by omega)); have hB3 := (hB3.ext (E26.trans E27)).of_heap (K3 _ (by omega)); have hB1 := (hB1.ext (E26.trans E27)).of_heap (K3 _ (by omega))
      have hB2 := (hB2.ext (E26.trans E27)).of_heap (K3 _ (by omega)); have hO1 := (hO1.ext (E26.trans E27)).wrote K3 (by omega); have hQ1 := (hQ1.ext (E26.trans E27)).wrote K3 (by omega)
      have hO2 := (hO2.ext (E26.trans E27)).wrote K3 (by omega); have hQ2 := (hQ2.ext (E26.trans E27)).wrote K3 (by omega); have hO3 := (hO3.toB.ext E27).wrote K3 (by omega); have hQ3 := (hQ3.toB.ext E27).wrote K3 (by omega)
      refine Wo rfl (opv_assign (v := .bool _) rfl) ?_; refine Wo_nil ?_; refine W_seq ?_; refine W_seq ?_; refine W_region rfl ?_; refine Wo (v := .agg _) rfl (opv_load2 Try.isAgg25 Try.sizeOf25 rfl hB5) ?_
      refine Wo (v := .agg _) rfl (opv_load2 Try.isAgg25 Try.sizeOf25 rfl (hB6.ext E33)) ?_
      refine Wo_call rfl (opc2 (a := .agg _) (b := .agg _) Try.call24 rfl rfl) (eq_same _ _ _ _ _ _ _ ((OwnedB.read hO3)) ((OwnedB.read hQ3)) ((Mono.mono E33 hw1)) ((Mono.mono E33 hw2))) ?_; rintro _ w15 ⟨rfl, E39⟩; have hs11 := E39.size
      refine Wo rfl (opv_not rfl) ?_; refine Wo_split rfl (opv_move (v := .bool _) rfl) (fun h9 => ?_) (fun h9 => ?_); contradiction; refine Wo rfl (opv_move (v := .bool _) rfl) ?_; refine Wo rfl (opv_move (v := .bool _) rfl) ?_
      refine Wo rfl (opv_neq_bool Try.underlying4 rfl rfl) ?_; refine Wo rfl (opv_pick_f (v := .bool _) rfl rfl) ?_; refine Wo_nil ?_; refine W_cond_ndec rfl (fun h10 => ?_) (fun h10 => ?_); contradiction; refine W_skip ?_
      refine W_seq ?_; refine W_seq ?_
    clear stop14
    clear heldS
    have heldS : w15 = w15 := rfl
    have stop31 : True := trivial
    focus
      have szE39 := E39.size; have szE38 := E38.size; have szE37 := E37.size; have szE36 := E36.size; have szE35 := E35.size; have szE34 := E34.size; have szE33 := E33.size; have szE32 := E32.size; have szE31 := E31.size
      have szE30 := E30.size; have szE29 := E29.size; have szE28 := E28.size; have szE27 := E27.size; have szE26 := E26.size; have szE25 := E25.size; have szE24 := E24.size; have szE23 := E23.size; have szE22 := E22.size
      have szE21 := E21.size; have szE20 := E20.size; have szE19 := E19.size; have szE18 := E18.size; have szE17 := E17.size; have szE16 := E16.size; have szE15 := E15.size; have szE14 := E14.size; have szE13 := E13.size
      have szE12 := E12.size; have szE11 := E11.size; have szE10 := E10.size; have szE9 := E9.size; have szE7 := E7.size; have szE6 := E6.size; have szE5 := E5.size; have szE8 := E8.size; have szE4 := E4.size; have szE3 := E3.size
      have szE2 := E2.size; have szE1 := E1.size; refine W_held (fun w' => Ext w15 w') mixed rfl (by kernel_rfl) ?_; intro w16 E40 K4 hz4; have hs12 := E40.size
      refine Wh_take (v := .agg _) 0 rfl (by kernel_rfl) (by kernel_rfl) rfl (fun w' hw' => opv_load2 Try.isAgg25 Try.sizeOf25 rfl (hB3.ext (E39.trans hw'))) E40 ?_
      refine Wh_take (v := .agg _) 1 rfl (by kernel_rfl) (by kernel_rfl) rfl (fun w' hw' => opv_load2 Try.isAgg34 Try.sizeOf34 rfl (hB1.ext (E39.trans hw'))) E40 ?_; refine Wh_all (rs := [2]) (by kernel_rfl) rfl ?_
      refine WhAll_cons rfl ?_ ?_; refine Wo_call rfl (opc1 (a := .agg _) Try.call23 rfl) (toStream_ok _ _ _ _ _ ((Mono.mono ((E28.trans E39).trans E40) h1)) ((Mono.mono ((E28.trans E39).trans E40) h2)) (by assumption) (by assumption)) ?_
      rintro _ w17 ⟨u6, q4, rfl, E41, hO4, hQ4, hd4⟩; have icu6 := OwnedB.isC (Owned.toB hO4); have cpu6 := OwnedB.capOk (Owned.toB hO4); have icq4 := OwnedB.isC (Owned.toB hQ4); have cpq4 := OwnedB.capOk (Owned.toB hQ4)
      have hs13 := E41.size; refine Wo_nil ?_; refine ⟨(E40.trans E41), ?_⟩; refine Wh_all (rs := [3]) (by kernel_rfl) rfl ?_; refine WhAll_cons rfl ?_ ?_
      refine Wo_call rfl (opc2 (a := .agg _) (b := .agg _) Try.call24 rfl rfl) (eq_same _ _ _ _ _ _ _ ((Mono.mono ((E39.trans E40).trans E41) (OwnedB.read hO1))) ((Mono.mono ((E39.trans E40).trans E41) (OwnedB.read hQ1))) ((Owned.read hO4)) ((Owned.read hQ4))) ?_
      rintro _ w18 ⟨rfl, E42⟩; have hs14 := E42.size; refine Wo_nil ?_; refine ⟨((E40.trans E41).trans E42), ?_⟩; refine Wh_take 4 rfl (by kernel_rfl) (by kernel_rfl) rfl (fun _ _ => opv_not rfl) ((E40.trans E41).trans E42) ?_
      refine Wh_done (by kernel_rfl) ?_; refine W_cond rfl (fun h11 => ?_) (fun h11 => ?_); contradiction; refine W_skip ?_; refine W_seq ?_; refine W_seq ?_; refine W_held (fun w' => Ext w15 w') mixed rfl (by kernel_rfl) ?_
      intro w19 E43 K5 hz5; have hs15 := E43.size
      refine Wh_take (v := .agg _) 0 rfl (by kernel_rfl) (by kernel_rfl) rfl (fun w' hw' => opv_load2 Try.isAgg25 Try.sizeOf25 rfl (hB4.ext (E39.trans hw'))) (((E40.trans E41).trans E42).trans E43) ?_
      refine Wh_take (v := .agg _) 1 rfl (by kernel_rfl) (by kernel_rfl) rfl (fun w' hw' => opv_load2 Try.isAgg34 Try.sizeOf34 rfl (hB2.ext (E39.trans hw'))) (((E40.trans E41).trans E42).trans E43) ?_
      refine Wh_all (rs := [2]) (by kernel_rfl) rfl ?_; refine WhAll_cons rfl ?_ ?_
      refine Wo_call rfl (opc1 (a := .agg _) Try.call23 rfl) (toStream_ok _ _ _ _ _ ((Mono.mono (((((E28.trans E39).trans E40).trans E41).trans E42).trans E43) h3)) ((Mono.mono (((((E28.trans E39).trans E40).trans E41).trans E42).trans E43) h4)) (by assumption) (by assumption)) ?_
      rintro _ w20 ⟨u7, q5, rfl, E44, hO5, hQ5, hd5⟩; have icu7 := OwnedB.isC (Owned.toB hO5); have cpu7 := OwnedB.capOk (Owned.toB hO5); have icq5 := OwnedB.isC (Owned.toB hQ5); have cpq5 := OwnedB.capOk (Owned.toB hQ5)
      have hs16 := E44.size; refine Wo_nil ?_; refine ⟨((((E40.trans E41).trans E42).trans E43).trans E44), ?_⟩; refine Wh_all (rs := [3]) (by kernel_rfl) rfl ?_; refine WhAll_cons rfl ?_ ?_
      refine Wo_call rfl (opc2 (a := .agg _) (b := .agg _) Try.call24 rfl rfl) (eq_same _ _ _ _ _ _ _ ((Mono.mono (((((E39.trans E40).trans E41).trans E42).trans E43).trans E44) (OwnedB.read hO2))) ((Mono.mono (((((E39.trans E40).trans E41).trans E42).trans E43).trans E44) (OwnedB.read hQ2))) ((Owned.read hO5)) ((Owned.read hQ5))) ?_
      rintro _ w21 ⟨rfl, E45⟩; have hs17 := E45.size; refine Wo_nil ?_; refine ⟨(((((E40.trans E41).trans E42).trans E43).trans E44).trans E45), ?_⟩
      refine Wh_take 4 rfl (by kernel_rfl) (by kernel_rfl) rfl (fun _ _ => opv_not rfl) (((((E40.trans E41).trans E42).trans E43).trans E44).trans E45) ?_; refine Wh_done (by kernel_rfl) ?_
      refine W_cond rfl (fun h12 => ?_) (fun h12 => ?_); contradiction; refine W_skip ?_; refine W_seq ?_; refine W_region rfl ?_; refine Wo rfl (opv_assign (v := .int _ _) rfl) ?_; refine Wo_nil ?_; refine W_seq ?_
      refine W_region rfl ?_; refine Wo (v := .agg _) rfl (opv_load2 Try.isAgg25 Try.sizeOf25 rfl (hB3.ext ((((((E39.trans E40).trans E41).trans E42).trans E43).trans E44).trans E45))) ?_; refine Wo rfl (opv_move (v := .int _ _) rfl) ?_
      refine Wo_call rfl (opc2 (a := .agg _) (b := .int _ _) Try.call25 rfl rfl) (markStreamB_ok _ _ _ _ _ ((hO1.ext ((((((E39.trans E40).trans E41).trans E42).trans E43).trans E44).trans E45))) ((hQ1.ext ((((((E39.trans E40).trans E41).trans E42).trans E43).trans E44).trans E45))) (by assumption) (by assumption) (by omega) _ (by omega) (by assumption) (by assumption)) ?_
      rintro _ w22 ⟨rfl, E46, hO6, hQ6⟩; have hB5 := (hB5.ext ((((((E39.trans E40).trans E41).trans E42).trans E43).trans E44).trans E45)).span E46 (by omega)
      have hB4 := (hB4.ext ((((((E39.trans E40).trans E41).trans E42).trans E43).trans E44).trans E45)).span E46 (by omega)
      have hB3 := (hB3.ext ((((((E39.trans E40).trans E41).trans E42).trans E43).trans E44).trans E45)).span E46 (by omega)
      have hB1 := (hB1.ext ((((((E39.trans E40).trans E41).trans E42).trans E43).trans E44).trans E45)).span E46 (by omega)
      have hB2 := (hB2.ext ((((((E39.trans E40).trans E41).trans E42).trans E43).trans E44).trans E45)).span E46 (by omega)
      have hO2 := (hO2.ext ((((((E39.trans E40).trans E41).trans E42).trans E43).trans E44).trans E45)).span E46 (by omega)
      have hQ2 := (hQ2.ext ((((((E39.trans E40).trans E41).trans E42).trans E43).trans E44).trans E45)).span E46 (by omega)
      have hO3 := (hO3.ext ((((((E39.trans E40).trans E41).trans E42).trans E43).trans E44).trans E45)).span E46 (by omega)
      have hQ3 := (hQ3.ext ((((((E39.trans E40).trans E41).trans E42).trans E43).trans E44).trans E45)).span E46 (by omega); have hO4 := (hO4.toB.ext (((E42.trans E43).trans E44).trans E45)).span E46 (by omega)
      have hQ4 := (hQ4.toB.ext (((E42.trans E43).trans E44).trans E45)).span E46 (by omega); have hO5 := (hO5.toB.ext E45).span E46 (by omega); have hQ5 := (hQ5.toB.ext E45).span E46 (by omega)
      have E47 := (((((((E28.trans E39).trans E40).trans E41).trans E42).trans E43).trans E44).trans E45).span E46 (by omega)
      have E48 := ((((((((E29.trans E39).trans E40).trans E41).trans E42).trans E43).trans E44).trans E45)).span E46 (by omega); have szE48 := E48.size
      have E49 := ((((((((E30.trans E39).trans E40).trans E41).trans E42).trans E43).trans E44).trans E45)).span E46 (by omega); have szE49 := E49.size
      have E50 := ((((((((E31.trans E39).trans E40).trans E41).trans E42).trans E43).trans E44).trans E45)).span E46 (by omega); have szE50 := E50.size
      have E51 := ((((((((E32.trans E39).trans E40).trans E41).trans E42).trans E43).trans E44).trans E45)).span E46 (by omega); have szE51 := E51.size
      have E52 := ((((((((E33.trans E39).trans E40).trans E41).trans E42).trans E43).trans E44).trans E45)).span E46 (by omega); have szE52 := E52.size; have hs18 := E46.size; refine Wo rfl (opv_assign (v := .int _ _) rfl) ?_
      refine Wo_nil ?_; refine W_seq ?_; refine W_region rfl ?_; refine Wo (v := .agg _) rfl (opv_load2 Try.isAgg25 Try.sizeOf25 rfl hB4) ?_; refine Wo rfl (opv_move (v := .int _ _) rfl) ?_
      refine Wo_call rfl (opc2 (a := .agg _) (b := .int _ _) Try.call25 rfl rfl) (markStreamB_ok _ _ _ _ _ (hO2) (hQ2) (by assumption) (by assumption) (by omega) _ (by omega) (by assumption) (by assumption)) ?_
      rintro _ w23 ⟨rfl, E53, hO7, hQ7⟩; have hO6 := hO6.span E53 (by omega); have hQ6 := hQ6.span E53 (by omega); have hB5 := hB5.span E53 (by omega); have hB4 := hB4.span E53 (by omega); have hB3 := hB3.span E53 (by omega)
      have hB1 := hB1.span E53 (by omega); have hB2 := hB2.span E53 (by omega); have hO3 := hO3.span E53 (by omega); have hQ3 := hQ3.span E53 (by omega); have hO4 := hO4.span E53 (by omega); have hQ4 := hQ4.span E53 (by omega)
      have hO5 := hO5.span E53 (by omega); have hQ5 := hQ5.span E53 (by omega); have E54 := E47.span E53 (by omega); have E55 := (E48).span E53 (by omega); have szE55 := E55.size; have E56 := (E49).span E53 (by omega)
      have szE56 := E56.size; have E57 := (E50).span E53 (by omega); have szE57 := E57.size; have E58 := (E51).span E53 (by omega); have szE58 := E58.size; have E59 := (E52).span E53 (by omega); have szE59 := E59.size
      have hs19 := E53.size; refine Wo rfl (opv_assign (v := .int _ _) rfl) ?_; refine Wo_nil ?_; refine W_seq ?_; refine W_seq ?_; refine W_region rfl ?_; refine Wo rfl (opv_move (v := .int _ _) rfl) ?_
      refine Wo rfl (opv_lss rfl rfl) ?_; refine Wo_split_dec rfl (opv_move (v := .bool _) rfl) (fun h13 => ?_) (fun h13 => ?_); contradiction; refine Wo (v := .agg _) rfl (opv_load2 Try.isAgg25 Try.sizeOf25 rfl hB5) ?_
      refine Wo (v := .agg _) rfl (opv_load2 Try.isAgg25 Try.sizeOf25 rfl (hB6.ext E59)) ?_
      refine Wo_call rfl (opc2 (a := .agg _) (b := .agg _) Try.call24 rfl rfl) (eq_same _ _ _ _ _ _ _ ((OwnedB.read hO3)) ((OwnedB.read hQ3)) ((Mono.mono E59 hw1)) ((Mono.mono E59 hw2))) ?_; rintro _ w24 ⟨rfl, E60⟩; have hs20 := E60.size
      refine Wo rfl (opv_not rfl) ?_; refine Wo rfl (opv_pick_f (v := .bool _) rfl rfl) ?_; refine Wo_split rfl (opv_move (v := .bool _) rfl) (fun h14 => ?_) (fun h14 => ?_); contradiction; refine Wo rfl (opv_move (v := .bool _) rfl) ?_
      refine Wo rfl (opv_move (v := .bool _) rfl) ?_; refine Wo rfl (opv_neq_bool Try.underlying4 rfl rfl) ?_; refine Wo rfl (opv_pick_f (v := .bool _) rfl rfl) ?_; refine Wo_nil ?_; refine W_cond_ndec rfl (fun h15 => ?_) (fun h15 => ?_)
      contradiction; refine W_skip ?_; refine W_seq ?_; refine W_region rfl ?_; refine Wo rfl (opv_assign (v := .int _ _) rfl) ?_; refine Wo_nil ?_; refine W_seq ?_; refine W_region rfl ?_
      refine Wo (v := .agg _) rfl (opv_load2 Try.isAgg25 Try.sizeOf25 rfl (hB5.ext E60)) ?_; refine Wo rfl (opv_move (v := .int _ _) rfl) ?_
      refine Wo_call rfl (opc2 (a := .agg _) (b := .int _ _) Try.call25 rfl rfl) (markStreamB_ok _ _ _ _ _ ((hO3.ext E60)) ((hQ3.ext E60)) (by assumption) (by assumption) (by omega) _ (by omega) (by omega) (by omega)) ?_
      rintro _ w25 ⟨rfl, E61, hO8, hQ8⟩; have hO7 := (hO7.ext E60).span E61 (by omega); have hQ7 := (hQ7.ext E60).span E61 (by omega); have hO6 := (hO6.ext E60).span E61 (by omega); have hQ6 := (hQ6.ext E60).span E61 (by omega)
      have hB5 := (hB5.ext E60).span E61 (by omega); have hB4 := (hB4.ext E60).span E61 (by omega); have hB3 := (hB3.ext E60).span E61 (by omega); have hB1 := (hB1.ext E60).span E61 (by omega)
      have hB2 := (hB2.ext E60).span E61 (by omega); have hO4 := (hO4.ext E60).span E61 (by omega); have hQ4 := (hQ4.ext E60).span E61 (by omega); have hO5 := (hO5.ext E60).span E61 (by omega)
      have hQ5 := (hQ5.ext E60).span E61 (by omega); have E62 := (E54.trans E60).span E61 (by omega); have E63 := ((E55.trans E60)).span E61 (by omega); have szE63 := E63.size; have E64 := ((E56.trans E60)).span E61 (by omega)
      have szE64 := E64.size; have E65 := ((E57.trans E60)).span E61 (by omega); have szE65 := E65.size; have E66 := ((E58.trans E60)).span E61 (by omega); have szE66 := E66.size; have E67 := ((E59.trans E60)).span E61 (by omega)
      have szE67 := E67.size; have hs21 := E61.size; refine Wo rfl (opv_assign (v := .int _ _) rfl) ?_; refine Wo_nil ?_; refine W_seq ?_; refine W_region rfl ?_; refine Wo rfl (opv_assign (v := .int _ _) rfl) ?_; refine Wo_nil ?_
      refine W_seq ?_; refine W_region rfl ?_; refine Wo (v := .agg _) rfl (opv_load2 Try.isAgg25 Try.sizeOf25 rfl hB5) ?_; refine Wo rfl (opv_move (v := .int _ _) rfl) ?_
      refine Wo_call rfl (opc2 (a := .agg _) (b := .int _ _) Try.call26 rfl rfl) (heldStream_ok _ _ _ _ _ _ ((OwnedB.read hO8)) ((OwnedB.read hQ8)) (by omega) (by omega) (by omega)) ?_; rintro _ w26 ⟨rfl, E68⟩; have hs22 := E68.size
      refine Wo rfl (opv_assign (v := .int _ _) rfl) ?_; refine Wo_nil ?_; refine W_seq ?_; refine W_seq ?_; refine W_region rfl ?_; refine Wo rfl (opv_move (v := .int _ _) rfl) ?_; refine Wo rfl (opv_lss rfl rfl) ?_; refine Wo_nil ?_
      refine W_cond_dec rfl (fun h16 => ?_) (fun h16 => ?_); contradiction; refine W_skip ?_; refine W_seq ?_; refine W_seq ?_; refine W_region rfl ?_; refine Wo rfl (opv_move (v := .int _ _) rfl) ?_
      refine Wo rfl (opv_move (v := .int _ _) rfl) ?_; refine Wo rfl (opv_neq rfl rfl) ?_; refine Wo_nil ?_; refine W_cond_ndec rfl (fun h17 => ?_) (fun h17 => ?_); contradiction; refine W_skip ?_; refine W_seq ?_; rotate_left
      exact WhAll_nil; exact WhAll_nil; exact WhAll_nil; exact WhAll_nil
    clear stop31
    clear heldS
    have heldS : w26 = w26 := rfl
    focus
      have szE68 := E68.size; have szE67 := E67.size; have szE66 := E66.size; have szE65 := E65.size; have szE64 := E64.size; have szE63 := E63.size; have szE62 := E62.size; have szE60 := E60.size; have szE59 := E59.size
      have szE58 := E58.size; have szE57 := E57.size; have szE56 := E56.size; have szE55 := E55.size; have szE54 := E54.size; have szE52 := E52.size; have szE51 := E51.size; have szE50 := E50.size; have szE49 := E49.size
      have szE48 := E48.size; have szE47 := E47.size; have szE45 := E45.size; have szE44 := E44.size; have szE43 := E43.size; have szE42 := E42.size; have szE41 := E41.size; have szE40 := E40.size; have szE39 := E39.size
      have szE38 := E38.size; have szE37 := E37.size; have szE36 := E36.size; have szE35 := E35.size; have szE34 := E34.size; have szE33 := E33.size; have szE32 := E32.size; have szE31 := E31.size; have szE30 := E30.size
      have szE29 := E29.size; have szE28 := E28.size; have szE27 := E27.size; have szE26 := E26.size; have szE25 := E25.size; have szE24 := E24.size; have szE23 := E23.size; have szE22 := E22.size; have szE21 := E21.size
      have szE20 := E20.size; have szE19 := E19.size; have szE18 := E18.size; have szE17 := E17.size; have szE16 := E16.size; have szE15 := E15.size; have szE14 := E14.size; have szE13 := E13.size; have szE12 := E12.size
      have szE11 := E11.size; have szE10 := E10.size; have szE9 := E9.size; have szE7 := E7.size; have szE6 := E6.size; have szE5 := E5.size; have szE8 := E8.size; have szE4 := E4.size; have szE3 := E3.size; have szE2 := E2.size
      have szE1 := E1.size; refine W_held (fun w' => Ext w26 w') mixed rfl (by kernel_rfl) ?_; intro w27 E69 K6 hz6; have hs23 := E69.size
      refine Wh_take (v := .agg _) 0 rfl (by kernel_rfl) (by kernel_rfl) rfl (fun w' hw' => opv_load2 Try.isAgg34 Try.sizeOf34 rfl (hB1.ext (E68.trans hw'))) E69 ?_
      refine Wh_take (v := .agg _) 2 rfl (by kernel_rfl) (by kernel_rfl) rfl (fun w' hw' => opv_load2 Try.isAgg34 Try.sizeOf34 rfl (hB2.ext (E68.trans hw'))) E69 ?_; refine Wh_all (rs := [1, 8]) (by kernel_rfl) rfl ?_
      refine WhAll_cons rfl ?_ ?_; refine Wo_call rfl (opc1 (a := .agg _) Try.call23 rfl) (toStream_ok _ _ _ _ _ ((Mono.mono ((E62.trans E68).trans E69) h1)) ((Mono.mono ((E62.trans E68).trans E69) h2)) (by assumption) (by assumption)) ?_
      rintro _ w28 ⟨u8, q6, rfl, E70, hO9, hQ9, hd6⟩; have icu8 := OwnedB.isC (Owned.toB hO9); have cpu8 := OwnedB.capOk (Owned.toB hO9); have icq6 := OwnedB.isC (Owned.toB hQ9); have cpq6 := OwnedB.capOk (Owned.toB hQ9)
      have hs24 := E70.size; refine Wo_nil ?_; refine ⟨(E69.trans E70), ?_⟩; refine Wh_all (rs := [3, 8]) (by kernel_rfl) rfl ?_; refine WhAll_cons rfl ?_ ?_
      refine Wo_call rfl (opc1 (a := .agg _) Try.call23 rfl) (toStream_ok _ _ _ _ _ ((Mono.mono (((E62.trans E68).trans E69).trans E70) h3)) ((Mono.mono (((E62.trans E68).trans E69).trans E70) h4)) (by assumption) (by assumption)) ?_
      rintro _ w29 ⟨u9, q7, rfl, E71, hO10, hQ10, hd7⟩; have icu9 := OwnedB.isC (Owned.toB hO10); have cpu9 := OwnedB.capOk (Owned.toB hO10); have icq7 := OwnedB.isC (Owned.toB hQ10); have cpq7 := OwnedB.capOk (Owned.toB hQ10)
      have hs25 := E71.size; refine Wo_nil ?_; refine ⟨((E69.trans E70).trans E71), ?_⟩; refine Wh_all (rs := [4, 8]) (by kernel_rfl) rfl ?_; refine WhAll_cons rfl ?_ ?_
      refine Wo_call rfl (opc2 (a := .agg _) (b := .agg _) Try.call36 rfl rfl) (k2 _ _ _ _ _ ((Mono.mono E71 (Owned.read hO9))) ((Mono.mono E71 (Owned.read hQ9))) ((Owned.read hO10)) ((Owned.read hQ10))) ?_
      rintro _ w30 ⟨u10, q8, rfl, E72, hO11, hQ11, hd8⟩; have icu10 := OwnedB.isC (Owned.toB hO11); have cpu10 := OwnedB.capOk (Owned.toB hO11); have icq8 := OwnedB.isC (Owned.toB hQ11); have cpq8 := OwnedB.capOk (Owned.toB hQ11)
      have hs26 := E72.size; refine Wo_nil ?_; refine ⟨(((E69.trans E70).trans E71).trans E72), ?_⟩
      refine Wh_take 5 rfl (by kernel_rfl) (by kernel_rfl) rfl (fun _ _ => opv_move (v := .tuple _) rfl) (((E69.trans E70).trans E71).trans E72) ?_
      refine Wh_take 6 rfl (by kernel_rfl) (by kernel_rfl) rfl (fun _ _ => opv_extract (v := .agg _) rfl rfl) (((E69.trans E70).trans E71).trans E72) ?_
      refine Wh_take 7 rfl (by kernel_rfl) (by kernel_rfl) rfl (fun _ _ => opv_extract (v := .bool _) rfl rfl) (((E69.trans E70).trans E71).trans E72) ?_; refine Wh_all (rs := [8]) (by kernel_rfl) rfl ?_; refine WhAll_cons rfl ?_ ?_
      refine Wo_alloc2 rfl flat25 ?_; rintro b7 w31 hb6 E73 hB7; have hlb7 := hB7.lt; have hs27 := E73.size; refine Wo_nil ?_; refine ⟨((((E69.trans E70).trans E71).trans E72).trans E73), ?_⟩
      refine Wh_all (rs := [9]) (by kernel_rfl) rfl ?_; refine WhAll_cons rfl ?_ ?_
      refine Wo_st2 rfl Try.sizeOf25 rfl rfl (by first | rfl | assumption) (by first | rfl | assumption) hB7 (by omega) ((((((E62.trans E68).trans E69).trans E70).trans E71).trans E72).trans E73) ?_; rintro w32 E74 hB7 K7 hz7
      have E75 := ((((((E63.trans E68).trans E69).trans E70).trans E71).trans E72).trans E73).wroteAt ((((((E62.trans E68).trans E69).trans E70).trans E71).trans E72).trans E73) E74 K7 hz7 (by omega); have szE75 := E75.size
      have E76 := ((((((E64.trans E68).trans E69).trans E70).trans E71).trans E72).trans E73).wroteAt ((((((E62.trans E68).trans E69).trans E70).trans E71).trans E72).trans E73) E74 K7 hz7 (by omega); have szE76 := E76.size
      have E77 := ((((((E65.trans E68).trans E69).trans E70).trans E71).trans E72).trans E73).wroteAt ((((((E62.trans E68).trans E69).trans E70).trans E71).trans E72).trans E73) E74 K7 hz7 (by omega); have szE77 := E77.size
      have E78 := ((((((E66.trans E68).trans E69).trans E70).trans E71).trans E72).trans E73).wroteAt ((((((E62.trans E68).trans E69).trans E70).trans E71).trans E72).trans E73) E74 K7 hz7 (by omega); have szE78 := E78.size
      have E79 := ((((((E67.trans E68).trans E69).trans E70).trans E71).trans E72).trans E73).wroteAt ((((((E62.trans E68).trans E69).trans E70).trans E71).trans E72).trans E73) E74 K7 hz7 (by omega); have szE79 := E79.size
      have E80 := (((((E68.trans E69).trans E70).trans E71).trans E72).trans E73).wroteAt ((((((E62.trans E68).trans E69).trans E70).trans E71).trans E72).trans E73) E74 K7 hz7 (by omega); have szE80 := E80.size
      have E81 := ((((E69.trans E70).trans E71).trans E72).trans E73).wroteAt ((((((E62.trans E68).trans E69).trans E70).trans E71).trans E72).trans E73) E74 K7 hz7 (by omega); have szE81 := E81.size
      have E82 := (((E70.trans E71).trans E72).trans E73).wroteAt ((((((E62.trans E68).trans E69).trans E70).trans E71).trans E72).trans E73) E74 K7 hz7 (by omega); have szE82 := E82.size
      have E83 := ((E71.trans E72).trans E73).wroteAt ((((((E62.trans E68).trans E69).trans E70).trans E71).trans E72).trans E73) E74 K7 hz7 (by omega); have szE83 := E83.size
      have E84 := (E72.trans E73).wroteAt ((((((E62.trans E68).trans E69).trans E70).trans E71).trans E72).trans E73) E74 K7 hz7 (by omega); have szE84 := E84.size
      have E85 := E73.wroteAt ((((((E62.trans E68).trans E69).trans E70).trans E71).trans E72).trans E73) E74 K7 hz7 (by omega); have szE85 := E85.size
      have hO8 := (hO8.ext (((((E68.trans E69).trans E70).trans E71).trans E72).trans E73)).wrote K7 (by omega); have hQ8 := (hQ8.ext (((((E68.trans E69).trans E70).trans E71).trans E72).trans E73)).wrote K7 (by omega)
      have hO7 := (hO7.ext (((((E68.trans E69).trans E70).trans E71).trans E72).trans E73)).wrote K7 (by omega); have hQ7 := (hQ7.ext (((((E68.trans E69).trans E70).trans E71).trans E72).trans E73)).wrote K7 (by omega)
      have hO6 := (hO6.ext (((((E68.trans E69).trans E70).trans E71).trans E72).trans E73)).wrote K7 (by omega); have hQ6 := (hQ6.ext (((((E68.trans E69).trans E70).trans E71).trans E72).trans E73)).wrote K7 (by omega)
      have hB5 := (hB5.ext (((((E68.trans E69).trans E70).trans E71).trans E72).trans E73)).of_heap (K7 _ (by omega)); have hB4 := (hB4.ext (((((E68.trans E69).trans E70).trans E71).trans E72).trans E73)).of_heap (K7 _ (by omega))
      have hB3 := (hB3.ext (((((E68.trans E69).trans E70).trans E71).trans E72).trans E73)).of_heap (K7 _ (by omega)); have hB1 := (hB1.ext (((((E68.trans E69).trans E70).trans E71).trans E72).trans E73)).of_heap (K7 _ (by omega))
      have hB2 := (hB2.ext (((((E68.trans E69).trans E70).trans E71).trans E72).trans E73)).of_heap (K7 _ (by omega)); have hO4 := (hO4.ext (((((E68.trans E69).trans E70).trans E71).trans E72).trans E73)).wrote K7 (by omega)
      have hQ4 := (hQ4.ext (((((E68.trans E69).trans E70).trans E71).trans E72).trans E73)).wrote K7 (by omega); have hO5 := (hO5.ext (((((E68.trans E69).trans E70).trans E71).trans E72).trans E73)).wrote K7 (by omega)
      have hQ5 := (hQ5.ext (((((E68.trans E69).trans E70).trans E71).trans E72).trans E73)).wrote K7 (by omega); have hO9 := (hO9.toB.ext ((E71.trans E72).trans E73)).wrote K7 (by omega)
      have hQ9 := (hQ9.toB.ext ((E71.trans E72).trans E73)).wrote K7 (by omega); have hO10 := (hO10.toB.ext (E72.trans E73)).wrote K7 (by omega); have hQ10 := (hQ10.toB.ext (E72.trans E73)).wrote K7 (by omega)
      have hO11 := (hO11.toB.ext E73).wrote K7 (by omega); have hQ11 := (hQ11.toB.ext E73).wrote K7 (by omega); refine Wo_nil ?_; refine ⟨E81, ?_⟩
      refine Wh_take 10 rfl (by kernel_rfl) (by kernel_rfl) rfl (fun _ _ => opv_assign (v := .bool _) rfl) E81 ?_; refine Wh_done (by kernel_rfl) ?_; refine W_seq ?_; refine W_seq ?_; refine W_region rfl ?_
      refine Wo (v := .agg _) rfl (opv_load2 Try.isAgg25 Try.sizeOf25 rfl hB7) ?_; refine Wo (v := .agg _) rfl (opv_load2 Try.isAgg25 Try.sizeOf25 rfl (hB6.ext E79)) ?_
      refine Wo_call rfl (opc2 (a := .agg _) (b := .agg _) Try.call24 rfl rfl) (eq_same _ _ _ _ _ _ _ ((OwnedB.read hO11)) ((OwnedB.read hQ11)) ((Mono.mono E79 hw1)) ((Mono.mono E79 hw2))) ?_; rintro _ w33 ⟨rfl, E86⟩
      have hs28 := E86.size; refine Wo rfl (opv_not rfl) ?_; refine Wo_split rfl (opv_move (v := .bool _) rfl) (fun h18 => ?_) (fun h18 => ?_); contradiction; refine Wo rfl (opv_move (v := .bool _) rfl) ?_
      refine Wo rfl (opv_move (v := .bool _) rfl) ?_; refine Wo rfl (opv_neq_bool Try.underlying4 rfl rfl) ?_; refine Wo rfl (opv_pick_f (v := .bool _) rfl rfl) ?_; refine Wo_nil ?_; refine W_cond_ndec rfl (fun h19 => ?_) (fun h19 => ?_)
      contradiction; refine W_skip ?_; refine W_seq ?_; refine W_region rfl ?_; refine Wo rfl (opv_assign (v := .int _ _) rfl) ?_; refine Wo_nil ?_; refine W_seq ?_; refine W_region rfl ?_
      refine Wo (v := .agg _) rfl (opv_load2 Try.isAgg25 Try.sizeOf25 rfl (hB5.ext E86)) ?_; refine Wo rfl (opv_move (v := .int _ _) rfl) ?_
      refine Wo_call rfl (opc2 (a := .agg _) (b := .int _ _) Try.call26 rfl rfl) (heldStream_ok _ _ _ _ _ _ ((Mono.mono E86 (OwnedB.read hO8))) ((Mono.mono E86 (OwnedB.read hQ8))) (by omega) (by omega) (by omega)) ?_
      rintro _ w34 ⟨rfl, E87⟩; have hs29 := E87.size; refine Wo rfl (opv_assign (v := .int _ _) rfl) ?_; refine Wo_nil ?_; refine W_seq ?_; refine W_seq ?_; refine W_region rfl ?_; refine Wo rfl (opv_move (v := .int _ _) rfl) ?_
      refine Wo rfl (opv_lss rfl rfl) ?_; refine Wo_nil ?_; refine W_cond_dec rfl (fun h20 => ?_) (fun h20 => ?_); contradiction; refine W_skip ?_; refine W_seq ?_; refine W_seq ?_; refine W_region rfl ?_
      refine Wo rfl (opv_move (v := .int _ _) rfl) ?_; refine Wo rfl (opv_move (v := .int _ _) rfl) ?_; refine Wo rfl (opv_neq rfl rfl) ?_; refine Wo_nil ?_; refine W_cond_ndec rfl (fun h21 => ?_) (fun h21 => ?_); contradiction
      refine W_skip ?_; refine W_seq ?_; refine W_region rfl ?_; refine Wo rfl (opv_assign (v := .bool _) rfl) ?_; refine Wo_nil ?_; refine W_ret ?_; exact ⟨rfl, ((E74.trans E86).trans E87)⟩; exact WhAll_nil; exact WhAll_nil
      refine WhAll_cons rfl ?_ ?_; refine Wo_alloc2 rfl flat25 ?_; rintro b7 w30 hb6 E72 hB7; have hlb7 := hB7.lt; have hs26 := E72.size; refine Wo_nil ?_; refine ⟨(((E69.trans E70).trans E71).trans E72), ?_⟩
      refine Wh_all (rs := [4]) (by kernel_rfl) rfl ?_; refine WhAll_cons rfl ?_ ?_
      refine Wo_call rfl (opc2 (a := .agg _) (b := .agg _) Try.call36 rfl rfl) (k2 _ _ _ _ _ ((Mono.mono (E71.trans E72) (Owned.read hO9))) ((Mono.mono (E71.trans E72) (Owned.read hQ9))) ((Mono.mono E72 (Owned.read hO10))) ((Mono.mono E72 (Owned.read hQ10)))) ?_
      rintro _ w31 ⟨u10, q8, rfl, E73, hO11, hQ11, hd8⟩; have icu10 := OwnedB.isC (Owned.toB hO11); have cpu10 := OwnedB.capOk (Owned.toB hO11); have icq8 := OwnedB.isC (Owned.toB hQ11); have cpq8 := OwnedB.capOk (Owned.toB hQ11)
      have hs27 := E73.size; refine Wo_nil ?_; refine ⟨((((E69.trans E70).trans E71).trans E72).trans E73), ?_⟩
      refine Wh_take 5 rfl (by kernel_rfl) (by kernel_rfl) rfl (fun _ _ => opv_move (v := .tuple _) rfl) ((((E69.trans E70).trans E71).trans E72).trans E73) ?_
      refine Wh_take 6 rfl (by kernel_rfl) (by kernel_rfl) rfl (fun _ _ => opv_extract (v := .agg _) rfl rfl) ((((E69.trans E70).trans E71).trans E72).trans E73) ?_
      refine Wh_take 7 rfl (by kernel_rfl) (by kernel_rfl) rfl (fun _ _ => opv_extract (v := .bool _) rfl rfl) ((((E69.trans E70).trans E71).trans E72).trans E73) ?_; refine Wh_all (rs := [9]) (by kernel_rfl) rfl ?_
      refine WhAll_cons rfl ?_ ?_; refine Wo_st2 rfl Try.sizeOf25 rfl rfl (by first | rfl | assumption) (by first | rfl | assumption) (hB7.ext E73) (by omega) ((((((E62.trans E68).trans E69).trans E70).trans E71).trans E72).trans E73) ?_
      rintro w32 E74 hB7 K7 hz7; have E75 := ((((((E63.trans E68).trans E69).trans E70).trans E71).trans E72).trans E73).wroteAt ((((((E62.trans E68).trans E69).trans E70).trans E71).trans E72).trans E73) E74 K7 hz7 (by omega)
      have szE75 := E75.size; have E76 := ((((((E64.trans E68).trans E69).trans E70).trans E71).trans E72).trans E73).wroteAt ((((((E62.trans E68).trans E69).trans E70).trans E71).trans E72).trans E73) E74 K7 hz7 (by omega)
      have szE76 := E76.size; have E77 := ((((((E65.trans E68).trans E69).trans E70).trans E71).trans E72).trans E73).wroteAt ((((((E62.trans E68).trans E69).trans E70).trans E71).trans E72).trans E73) E74 K7 hz7 (by omega)
      have szE77 := E77.size; have E78 := ((((((E66.trans E68).trans E69).trans E70).trans E71).trans E72).trans E73).wroteAt ((((((E62.trans E68).trans E69).trans E70).trans E71).trans E72).trans E73) E74 K7 hz7 (by omega)
      have szE78 := E78.size; have E79 := ((((((E67.trans E68).trans E69).trans E70).trans E71).trans E72).trans E73).wroteAt ((((((E62.trans E68).trans E69).trans E70).trans E71).trans E72).trans E73) E74 K7 hz7 (by omega)
      have szE79 := E79.size; have E80 := (((((E68.trans E69).trans E70).trans E71).trans E72).trans E73).wroteAt ((((((E62.trans E68).trans E69).trans E70).trans E71).trans E72).trans E73) E74 K7 hz7 (by omega); have szE80 := E80.size
      have E81 := ((((E69.trans E70).trans E71).trans E72).trans E73).wroteAt ((((((E62.trans E68).trans E69).trans E70).trans E71).trans E72).trans E73) E74 K7 hz7 (by omega); have szE81 := E81.size
      have E82 := (((E70.trans E71).trans E72).trans E73).wroteAt ((((((E62.trans E68).trans E69).trans E70).trans E71).trans E72).trans E73) E74 K7 hz7 (by omega); have szE82 := E82.size
      have E83 := ((E71.trans E72).trans E73).wroteAt ((((((E62.trans E68).trans E69).trans E70).trans E71).trans E72).trans E73) E74 K7 hz7 (by omega); have szE83 := E83.size
      have E84 := (E72.trans E73).wroteAt ((((((E62.trans E68).trans E69).trans E70).trans E71).trans E72).trans E73) E74 K7 hz7 (by omega); have szE84 := E84.size
      have hO8 := (hO8.ext (((((E68.trans E69).trans E70).trans E71).trans E72).trans E73)).wrote K7 (by omega); have hQ8 := (hQ8.ext (((((E68.trans E69).trans E70).trans E71).trans E72).trans E73)).wrote K7 (by omega)
      have hO7 := (hO7.ext (((((E68.trans E69).trans E70).trans E71).trans E72).trans E73)).wrote K7 (by omega); have hQ7 := (hQ7.ext (((((E68.trans E69).trans E70).trans E71).trans E72).trans E73)).wrote K7 (by omega)
      have hO6 := (hO6.ext (((((E68.trans E69).trans E70).trans E71).trans E72).trans E73)).wrote K7 (by omega); have hQ6 := (hQ6.ext (((((E68.trans E69).trans E70).trans E71).trans E72).trans E73)).wrote K7 (by omega)
      have hB5 := (hB5.ext (((((E68.trans E69).trans E70).trans E71).trans E72).trans E73)).of_heap (K7 _ (by omega)); have hB4 := (hB4.ext (((((E68.trans E69).trans E70).trans E71).trans E72).trans E73)).of_heap (K7 _ (by omega))
      have hB3 := (hB3.ext (((((E68.trans E69).trans E70).trans E71).trans E72).trans E73)).of_heap (K7 _ (by omega)); have hB1 := (hB1.ext (((((E68.trans E69).trans E70).trans E71).trans E72).trans E73)).of_heap (K7 _ (by omega))
      have hB2 := (hB2.ext (((((E68.trans E69).trans E70).trans E71).trans E72).trans E73)).of_heap (K7 _ (by omega)); have hO4 := (hO4.ext (((((E68.trans E69).trans E70).trans E71).trans E72).trans E73)).wrote K7 (by omega)
      have hQ4 := (hQ4.ext (((((E68.trans E69).trans E70).trans E71).trans E72).trans E73)).wrote K7 (by omega); have hO5 := (hO5.ext (((((E68.trans E69).trans E70).trans E71).trans E72).trans E73)).wrote K7 (by omega)
      have hQ5 := (hQ5.ext (((((E68.trans E69).trans E70).trans E71).trans E72).trans E73)).wrote K7 (by omega); have hO9 := (hO9.toB.ext ((E71.trans E72).trans E73)).wrote K7 (by omega)
      have hQ9 := (hQ9.toB.ext ((E71.trans E72).trans E73)).wrote K7 (by omega); have hO10 := (hO10.toB.ext (E72.trans E73)).wrote K7 (by omega); have hQ10 := (hQ10.toB.ext (E72.trans E73)).wrote K7 (by omega)
      have hO11 := hO11.toB.wrote K7 (by omega); have hQ11 := hQ11.toB.wrote K7 (by omega); refine Wo_nil ?_; refine ⟨E81, ?_⟩; refine Wh_take 10 rfl (by kernel_rfl) (by kernel_rfl) rfl (fun _ _ => opv_assign (v := .bool _) rfl) E81 ?_
      refine Wh_done (by kernel_rfl) ?_; refine W_seq ?_; refine W_seq ?_; refine W_region rfl ?_; refine Wo (v := .agg _) rfl (opv_load2 Try.isAgg25 Try.sizeOf25 rfl hB7) ?_
      refine Wo (v := .agg _) rfl (opv_load2 Try.isAgg25 Try.sizeOf25 rfl (hB6.ext E79)) ?_
      refine Wo_call rfl (opc2 (a := .agg _) (b := .agg _) Try.call24 rfl rfl) (eq_same _ _ _ _ _ _ _ ((OwnedB.read hO11)) ((OwnedB.read hQ11)) ((Mono.mono E79 hw1)) ((Mono.mono E79 hw2))) ?_; rintro _ w33 ⟨rfl, E85⟩
      have hs28 := E85.size; refine Wo rfl (opv_not rfl) ?_; refine Wo_split rfl (opv_move (v := .bool _) rfl) (fun h18 => ?_) (fun h18 => ?_); contradiction; refine Wo rfl (opv_move (v := .bool _) rfl) ?_
      refine Wo rfl (opv_move (v := .bool _) rfl) ?_; refine Wo rfl (opv_neq_bool Try.underlying4 rfl rfl) ?_; refine Wo rfl (opv_pick_f (v := .bool _) rfl rfl) ?_; refine Wo_nil ?_; refine W_cond_ndec rfl (fun h19 => ?_) (fun h19 => ?_)
      contradiction; refine W_skip ?_; refine W_seq ?_; refine W_region rfl ?_; refine Wo rfl (opv_assign (v := .int _ _) rfl) ?_; refine Wo_nil ?_; refine W_seq ?_; refine W_region rfl ?_
      refine Wo (v := .agg _) rfl (opv_load2 Try.isAgg25 Try.sizeOf25 rfl (hB5.ext E85)) ?_; refine Wo rfl (opv_move (v := .int _ _) rfl) ?_
      refine Wo_call rfl (opc2 (a := .agg _) (b := .int _ _) Try.call26 rfl rfl) (heldStream_ok _ _ _ _ _ _ ((Mono.mono E85 (OwnedB.read hO8))) ((Mono.mono E85 (OwnedB.read hQ8))) (by omega) (by omega) (by omega)) ?_
      rintro _ w34 ⟨rfl, E86⟩; have hs29 := E86.size; refine Wo rfl (opv_assign (v := .int _ _) rfl) ?_; refine Wo_nil ?_; refine W_seq ?_; refine W_seq ?_; refine W_region rfl ?_; refine Wo rfl (opv_move (v := .int _ _) rfl) ?_
      refine Wo rfl (opv_lss rfl rfl) ?_; refine Wo_nil ?_; refine W_cond_dec rfl (fun h20 => ?_) (fun h20 => ?_); contradiction; refine W_skip ?_; refine W_seq ?_; refine W_seq ?_; refine W_region rfl ?_
      refine Wo rfl (opv_move (v := .int _ _) rfl) ?_; refine Wo rfl (opv_move (v := .int _ _) rfl) ?_; refine Wo rfl (opv_neq rfl rfl) ?_; refine Wo_nil ?_; refine W_cond_ndec rfl (fun h21 => ?_) (fun h21 => ?_); contradiction
      refine W_skip ?_; refine W_seq ?_; refine W_region rfl ?_; refine Wo rfl (opv_assign (v := .bool _) rfl) ?_; refine Wo_nil ?_; refine W_ret ?_; exact ⟨rfl, ((E74.trans E85).trans E86)⟩; exact WhAll_nil; exact WhAll_nil
      exact WhAll_nil; refine WhAll_cons rfl ?_ ?_; refine Wo_alloc2 rfl flat25 ?_; rintro b7 w29 hb6 E71 hB7; have hlb7 := hB7.lt; have hs25 := E71.size; refine Wo_nil ?_; refine ⟨((E69.trans E70).trans E71), ?_⟩
      refine Wh_all (rs := [3]) (by kernel_rfl) rfl ?_; refine WhAll_cons rfl ?_ ?_
      refine Wo_call rfl (opc1 (a := .agg _) Try.call23 rfl) (toStream_ok _ _ _ _ _ ((Mono.mono ((((E62.trans E68).trans E69).trans E70).trans E71) h3)) ((Mono.mono ((((E62.trans E68).trans E69).trans E70).trans E71) h4)) (by assumption) (by assumption)) ?_
      rintro _ w30 ⟨u9, q7, rfl, E72, hO10, hQ10, hd7⟩; have icu9 := OwnedB.isC (Owned.toB hO10); have cpu9 := OwnedB.capOk (Owned.toB hO10); have icq7 := OwnedB.isC (Owned.toB hQ10); have cpq7 := OwnedB.capOk (Owned.toB hQ10)
      have hs26 := E72.size; refine Wo_nil ?_; refine ⟨(((E69.trans E70).trans E71).trans E72), ?_⟩; refine Wh_all (rs := [4]) (by kernel_rfl) rfl ?_; refine WhAll_cons rfl ?_ ?_
      refine Wo_call rfl (opc2 (a := .agg _) (b := .agg _) Try.call36 rfl rfl) (k2 _ _ _ _ _ ((Mono.mono (E71.trans E72) (Owned.read hO9))) ((Mono.mono (E71.trans E72) (Owned.read hQ9))) ((Owned.read hO10)) ((Owned.read hQ10))) ?_
      rintro _ w31 ⟨u10, q8, rfl, E73, hO11, hQ11, hd8⟩; have icu10 := OwnedB.isC (Owned.toB hO11); have cpu10 := OwnedB.capOk (Owned.toB hO11); have icq8 := OwnedB.isC (Owned.toB hQ11); have cpq8 := OwnedB.capOk (Owned.toB hQ11)
      have hs27 := E73.size; refine Wo_nil ?_; refine ⟨((((E69.trans E70).trans E71).trans E72).trans E73), ?_⟩
      refine Wh_take 5 rfl (by kernel_rfl) (by kernel_rfl) rfl (fun _ _ => opv_move (v := .tuple _) rfl) ((((E69.trans E70).trans E71).trans E72).trans E73) ?_
      refine Wh_take 6 rfl (by kernel_rfl) (by kernel_rfl) rfl (fun _ _ => opv_extract (v := .agg _) rfl rfl) ((((E69.trans E70).trans E71).trans E72).trans E73) ?_
      refine Wh_take 7 rfl (by kernel_rfl) (by kernel_rfl) rfl (fun _ _ => opv_extract (v := .bool _) rfl rfl) ((((E69.trans E70).trans E71).trans E72).trans E73) ?_; refine Wh_all (rs := [9]) (by kernel_rfl) rfl ?_
      refine WhAll_cons rfl ?_ ?_
      refine Wo_st2 rfl Try.sizeOf25 rfl rfl (by first | rfl | assumption) (by first | rfl | assumption) (hB7.ext (E72.trans E73)) (by omega) ((((((E62.trans E68).trans E69).trans E70).trans E71).trans E72).trans E73) ?_
      rintro w32 E74 hB7 K7 hz7; have E75 := ((((((E63.trans E68).trans E69).trans E70).trans E71).trans E72).trans E73).wroteAt ((((((E62.trans E68).trans E69).trans E70).trans E71).trans E72).trans E73) E74 K7 hz7 (by omega)
      have szE75 := E75.size; have E76 := ((((((E64.trans E68).trans E69).trans E70).trans E71).trans E72).trans E73).wroteAt ((((((E62.trans E68).trans E69).trans E70).trans E71).trans E72).trans E73) E74 K7 hz7 (by omega)
      have szE76 := E76.size; have E77 := ((((((E65.trans E68).trans E69).trans E70).trans E71).trans E72).trans E73).wroteAt ((((((E62.trans E68).trans E69).trans E70).trans E71).trans E72).trans E73) E74 K7 hz7 (by omega)
      have szE77 := E77.size; have E78 := ((((((E66.trans E68).trans E69).trans E70).trans E71).trans E72).trans E73).wroteAt ((((((E62.trans E68).trans E69).trans E70).trans E71).trans E72).trans E73) E74 K7 hz7 (by omega)
      have szE78 := E78.size; have E79 := ((((((E67.trans E68).trans E69).trans E70).trans E71).trans E72).trans E73).wroteAt ((((((E62.trans E68).trans E69).trans E70).trans E71).trans E72).trans E73) E74 K7 hz7 (by omega)
      have szE79 := E79.size; have E80 := (((((E68.trans E69).trans E70).trans E71).trans E72).trans E73).wroteAt ((((((E62.trans E68).trans E69).trans E70).trans E71).trans E72).trans E73) E74 K7 hz7 (by omega); have szE80 := E80.size
      have E81 := ((((E69.trans E70).trans E71).trans E72).trans E73).wroteAt ((((((E62.trans E68).trans E69).trans E70).trans E71).trans E72).trans E73) E74 K7 hz7 (by omega); have szE81 := E81.size
      have E82 := (((E70.trans E71).trans E72).trans E73).wroteAt ((((((E62.trans E68).trans E69).trans E70).trans E71).trans E72).trans E73) E74 K7 hz7 (by omega); have szE82 := E82.size
      have E83 := ((E71.trans E72).trans E73).wroteAt ((((((E62.trans E68).trans E69).trans E70).trans E71).trans E72).trans E73) E74 K7 hz7 (by omega); have szE83 := E83.size
      have hO8 := (hO8.ext (((((E68.trans E69).trans E70).trans E71).trans E72).trans E73)).wrote K7 (by omega); have hQ8 := (hQ8.ext (((((E68.trans E69).trans E70).trans E71).trans E72).trans E73)).wrote K7 (by omega)
      have hO7 := (hO7.ext (((((E68.trans E69).trans E70).trans E71).trans E72).trans E73)).wrote K7 (by omega); have hQ7 := (hQ7.ext (((((E68.trans E69).trans E70).trans E71).trans E72).trans E73)).wrote K7 (by omega)
      have hO6 := (hO6.ext (((((E68.trans E69).trans E70).trans E71).trans E72).trans E73)).wrote K7 (by omega); have hQ6 := (hQ6.ext (((((E68.trans E69).trans E70).trans E71).trans E72).trans E73)).wrote K7 (by omega)
      have hB5 := (hB5.ext (((((E68.trans E69).trans E70).trans E71).trans E72).trans E73)).of_heap (K7 _ (by omega)); have hB4 := (hB4.ext (((((E68.trans E69).trans E70).trans E71).trans E72).trans E73)).of_heap (K7 _ (by omega))
      have hB3 := (hB3.ext (((((E68.trans E69).trans E70).trans E71).trans E72).trans E73)).of_heap (K7 _ (by omega)); have hB1 := (hB1.ext (((((E68.trans E69).trans E70).trans E71).trans E72).trans E73)).of_heap (K7 _ (by omega))
      have hB2 := (hB2.ext (((((E68.trans E69).trans E70).trans E71).trans E72).trans E73)).of_heap (K7 _ (by omega)); have hO4 := (hO4.ext (((((E68.trans E69).trans E70).trans E71).trans E72).trans E73)).wrote K7 (by omega)
      have hQ4 := (hQ4.ext (((((E68.trans E69).trans E70).trans E71).trans E72).trans E73)).wrote K7 (by omega); have hO5 := (hO5.ext (((((E68.trans E69).trans E70).trans E71).trans E72).trans E73)).wrote K7 (by omega)
      have hQ5 := (hQ5.ext (((((E68.trans E69).trans E70).trans E71).trans E72).trans E73)).wrote K7 (by omega); have hO9 := (hO9.toB.ext ((E71.trans E72).trans E73)).wrote K7 (by omega)
      have hQ9 := (hQ9.toB.ext ((E71.trans E72).trans E73)).wrote K7 (by omega); have hO10 := (hO10.toB.ext E73).wrote K7 (by omega); have hQ10 := (hQ10.toB.ext E73).wrote K7 (by omega); have hO11 := hO11.toB.wrote K7 (by omega)
      have hQ11 := hQ11.toB.wrote K7 (by omega); refine Wo_nil ?_; refine ⟨E81, ?_⟩; refine Wh_take 10 rfl (by kernel_rfl) (by kernel_rfl) rfl (fun _ _ => opv_assign (v := .bool _) rfl) E81 ?_; refine Wh_done (by kernel_rfl) ?_
      refine W_seq ?_; refine W_seq ?_; refine W_region rfl ?_; refine Wo (v := .agg _) rfl (opv_load2 Try.isAgg25 Try.sizeOf25 rfl hB7) ?_; refine Wo (v := .agg _) rfl (opv_load2 Try.isAgg25 Try.sizeOf25 rfl (hB6.ext E79)) ?_
      refine Wo_call rfl (opc2 (a := .agg _) (b := .agg _) Try.call24 rfl rfl) (eq_same _ _ _ _ _ _ _ ((OwnedB.read hO11)) ((OwnedB.read hQ11)) ((Mono.mono E79 hw1)) ((Mono.mono E79 hw2))) ?_; rintro _ w33 ⟨rfl, E84⟩
      have hs28 := E84.size; refine Wo rfl (opv_not rfl) ?_; refine Wo_split rfl (opv_move (v := .bool _) rfl) (fun h18 => ?_) (fun h18 => ?_); contradiction; refine Wo rfl (opv_move (v := .bool _) rfl) ?_
      refine Wo rfl (opv_move (v := .bool _) rfl) ?_; refine Wo rfl (opv_neq_bool Try.underlying4 rfl rfl) ?_; refine Wo rfl (opv_pick_f (v := .bool _) rfl rfl) ?_; refine Wo_nil ?_; refine W_cond_ndec rfl (fun h19 => ?_) (fun h19 => ?_)
      contradiction; refine W_skip ?_; refine W_seq ?_; refine W_region rfl ?_; refine Wo rfl (opv_assign (v := .int _ _) rfl) ?_; refine Wo_nil ?_; refine W_seq ?_; refine W_region rfl ?_
      refine Wo (v := .agg _) rfl (opv_load2 Try.isAgg25 Try.sizeOf25 rfl (hB5.ext E84)) ?_; refine Wo rfl (opv_move (v := .int _ _) rfl) ?_
      refine Wo_call rfl (opc2 (a := .agg _) (b := .int _ _) Try.call26 rfl rfl) (heldStream_ok _ _ _ _ _ _ ((Mono.mono E84 (OwnedB.read hO8))) ((Mono.mono E84 (OwnedB.read hQ8))) (by omega) (by omega) (by omega)) ?_
      rintro _ w34 ⟨rfl, E85⟩; have hs29 := E85.size; refine Wo rfl (opv_assign (v := .int _ _) rfl) ?_; refine Wo_nil ?_; refine W_seq ?_; refine W_seq ?_; refine W_region rfl ?_; refine Wo rfl (opv_move (v := .int _ _) rfl) ?_
      refine Wo rfl (opv_lss rfl rfl) ?_; refine Wo_nil ?_; refine W_cond_dec rfl (fun h20 => ?_) (fun h20 => ?_); contradiction; refine W_skip ?_; refine W_seq ?_; refine W_seq ?_; refine W_region rfl ?_
      refine Wo rfl (opv_move (v := .int _ _) rfl) ?_; refine Wo rfl (opv_move (v := .int _ _) rfl) ?_; refine Wo rfl (opv_neq rfl rfl) ?_; refine Wo_nil ?_; refine W_cond_ndec rfl (fun h21 => ?_) (fun h21 => ?_); contradiction
      refine W_skip ?_; refine W_seq ?_; refine W_region rfl ?_; refine Wo rfl (opv_assign (v := .bool _) rfl) ?_; refine Wo_nil ?_; refine W_ret ?_; exact ⟨rfl, ((E74.trans E84).trans E85)⟩; exact WhAll_nil; exact WhAll_nil
      exact WhAll_nil; exact WhAll_nil; refine WhAll_cons rfl ?_ ?_; refine Wo_alloc2 rfl flat25 ?_; rintro b7 w28 hb6 E70 hB7; have hlb7 := hB7.lt; have hs24 := E70.size; refine Wo_nil ?_; refine ⟨(E69.trans E70), ?_⟩
      refine Wh_all (rs := [1]) (by kernel_rfl) rfl ?_; refine WhAll_cons rfl ?_ ?_
      refine Wo_call rfl (opc1 (a := .agg _) Try.call23 rfl) (toStream_ok _ _ _ _ _ ((Mono.mono (((E62.trans E68).trans E69).trans E70) h1)) ((Mono.mono (((E62.trans E68).trans E69).trans E70) h2)) (by assumption) (by assumption)) ?_
      rintro _ w29 ⟨u8, q6, rfl, E71, hO9, hQ9, hd6⟩; have icu8 := OwnedB.isC (Owned.toB hO9); have cpu8 := OwnedB.capOk (Owned.toB hO9); have icq6 := OwnedB.isC (Owned.toB hQ9); have cpq6 := OwnedB.capOk (Owned.toB hQ9)
      have hs25 := E71.size; refine Wo_nil ?_; refine ⟨((E69.trans E70).trans E71), ?_⟩; refine Wh_all (rs := [3]) (by kernel_rfl) rfl ?_; refine WhAll_cons rfl ?_ ?_
      refine Wo_call rfl (opc1 (a := .agg _) Try.call23 rfl) (toStream_ok _ _ _ _ _ ((Mono.mono ((((E62.trans E68).trans E69).trans E70).trans E71) h3)) ((Mono.mono ((((E62.trans E68).trans E69).trans E70).trans E71) h4)) (by assumption) (by assumption)) ?_
      rintro _ w30 ⟨u9, q7, rfl, E72, hO10, hQ10, hd7⟩; have icu9 := OwnedB.isC (Owned.toB hO10); have cpu9 := OwnedB.capOk (Owned.toB hO10); have icq7 := OwnedB.isC (Owned.toB hQ10); have cpq7 := OwnedB.capOk (Owned.toB hQ10)
      have hs26 := E72.size; refine Wo_nil ?_; refine ⟨(((E69.trans E70).trans E71).trans E72), ?_⟩; refine Wh_all (rs := [4]) (by kernel_rfl) rfl ?_; refine WhAll_cons rfl ?_ ?_
      refine Wo_call rfl (opc2 (a := .agg _) (b := .agg _) Try.call36 rfl rfl) (k2 _ _ _ _ _ ((Mono.mono E72 (Owned.read hO9))) ((Mono.mono E72 (Owned.read hQ9))) ((Owned.read hO10)) ((Owned.read hQ10))) ?_
      rintro _ w31 ⟨u10, q8, rfl, E73, hO11, hQ11, hd8⟩; have icu10 := OwnedB.isC (Owned.toB hO11); have cpu10 := OwnedB.capOk (Owned.toB hO11); have icq8 := OwnedB.isC (Owned.toB hQ11); have cpq8 := OwnedB.capOk (Owned.toB hQ11)
      have hs27 := E73.size; refine Wo_nil ?_; refine ⟨((((E69.trans E70).trans E71).trans E72).trans E73), ?_⟩
      refine Wh_take 5 rfl (by kernel_rfl) (by kernel_rfl) rfl (fun _ _ => opv_move (v := .tuple _) rfl) ((((E69.trans E70).trans E71).trans E72).trans E73) ?_
      refine Wh_take 6 rfl (by kernel_rfl) (by kernel_rfl) rfl (fun _ _ => opv_extract (v := .agg _) rfl rfl) ((((E69.trans E70).trans E71).trans E72).trans E73) ?_
      refine Wh_take 7 rfl (by kernel_rfl) (by kernel_rfl) rfl (fun _ _ => opv_extract (v := .bool _) rfl rfl) ((((E69.trans E70).trans E71).trans E72).trans E73) ?_; refine Wh_all (rs := [9]) (by kernel_rfl) rfl ?_
      refine WhAll_cons rfl ?_ ?_
      refine Wo_st2 rfl Try.sizeOf25 rfl rfl (by first | rfl | assumption) (by first | rfl | assumption) (hB7.ext ((E71.trans E72).trans E73)) (by omega) ((((((E62.trans E68).trans E69).trans E70).trans E71).trans E72).trans E73) ?_
      rintro w32 E74 hB7 K7 hz7; have E75 := ((((((E63.trans E68).trans E69).trans E70).trans E71).trans E72).trans E73).wroteAt ((((((E62.trans E68).trans E69).trans E70).trans E71).trans E72).trans E73) E74 K7 hz7 (by omega)
      have szE75 := E75.size; have E76 := ((((((E64.trans E68).trans E69).trans E70).trans E71).trans E72).trans E73).wroteAt ((((((E62.trans E68).trans E69).trans E70).trans E71).trans E72).trans E73) E74 K7 hz7 (by omega)
      have szE76 := E76.size; have E77 := ((((((E65.trans E68).trans E69).trans E70).trans E71).trans E72).trans E73).wroteAt ((((((E62.trans E68).trans E69).trans E70).trans E71).trans E72).trans E73) E74 K7 hz7 (by omega)
      have szE77 := E77.size; have E78 := ((((((E66.trans E68).trans E69).trans E70).trans E71).trans E72).trans E73).wroteAt ((((((E62.trans E68).trans E69).trans E70).trans E71).trans E72).trans E73) E74 K7 hz7 (by omega)
      have szE78 := E78.size; have E79 := ((((((E67.trans E68).trans E69).trans E70).trans E71).trans E72).trans E73).wroteAt ((((((E62.trans E68).trans E69).trans E70).trans E71).trans E72).trans E73) E74 K7 hz7 (by omega)
      have szE79 := E79.size; have E80 := (((((E68.trans E69).trans E70).trans E71).trans E72).trans E73).wroteAt ((((((E62.trans E68).trans E69).trans E70).trans E71).trans E72).trans E73) E74 K7 hz7 (by omega); have szE80 := E80.size
      have E81 := ((((E69.trans E70).trans E71).trans E72).trans E73).wroteAt ((((((E62.trans E68).trans E69).trans E70).trans E71).trans E72).trans E73) E74 K7 hz7 (by omega); have szE81 := E81.size
      have E82 := (((E70.trans E71).trans E72).trans E73).wroteAt ((((((E62.trans E68).trans E69).trans E70).trans E71).trans E72).trans E73) E74 K7 hz7 (by omega); have szE82 := E82.size
      have hO8 := (hO8.ext (((((E68.trans E69).trans E70).trans E71).trans E72).trans E73)).wrote K7 (by omega); have hQ8 := (hQ8.ext (((((E68.trans E69).trans E70).trans E71).trans E72).trans E73)).wrote K7 (by omega)
      have hO7 := (hO7.ext (((((E68.trans E69).trans E70).trans E71).trans E72).trans E73)).wrote K7 (by omega); have hQ7 := (hQ7.ext (((((E68.trans E69).trans E70).trans E71).trans E72).trans E73)).wrote K7 (by omega)
      have hO6 := (hO6.ext (((((E68.trans E69).trans E70).trans E71).trans E72).trans E73)).wrote K7 (by omega); have hQ6 := (hQ6.ext (((((E68.trans E69).trans E70).trans E71).trans E72).trans E73)).wrote K7 (by omega)
      have hB5 := (hB5.ext (((((E68.trans E69).trans E70).trans E71).trans E72).trans E73)).of_heap (K7 _ (by omega)); have hB4 := (hB4.ext (((((E68.trans E69).trans E70).trans E71).trans E72).trans E73)).of_heap (K7 _ (by omega))
      have hB3 := (hB3.ext (((((E68.trans E69).trans E70).trans E71).trans E72).trans E73)).of_heap (K7 _ (by omega)); have hB1 := (hB1.ext (((((E68.trans E69).trans E70).trans E71).trans E72).trans E73)).of_heap (K7 _ (by omega))
      have hB2 := (hB2.ext (((((E68.trans E69).trans E70).trans E71).trans E72).trans E73)).of_heap (K7 _ (by omega)); have hO4 := (hO4.ext (((((E68.trans E69).trans E70).trans E71).trans E72).trans E73)).wrote K7 (by omega)
      have hQ4 := (hQ4.ext (((((E68.trans E69).trans E70).trans E71).trans E72).trans E73)).wrote K7 (by omega); have hO5 := (hO5.ext (((((E68.trans E69).trans E70).trans E71).trans E72).trans E73)).wrote K7 (by omega)
      have hQ5 := (hQ5.ext (((((E68.trans E69).trans E70).trans E71).trans E72).trans E73)).wrote K7 (by omega); have hO9 := (hO9.toB.ext (E72.trans E73)).wrote K7 (by omega); have hQ9 := (hQ9.toB.ext (E72.trans E73)).wrote K7 (by omega)
      have hO10 := (hO10.toB.ext E73).wrote K7 (by omega); have hQ10 := (hQ10.toB.ext E73).wrote K7 (by omega); have hO11 := hO11.toB.wrote K7 (by omega); have hQ11 := hQ11.toB.wrote K7 (by omega); refine Wo_nil ?_; refine ⟨E81, ?_⟩
      refine Wh_take 10 rfl (by kernel_rfl) (by kernel_rfl) rfl (fun _ _ => opv_assign (v := .bool _) rfl) E81 ?_; refine Wh_done (by kernel_rfl) ?_; refine W_seq ?_; refine W_seq ?_; refine W_region rfl ?_
      refine Wo (v := .agg _) rfl (opv_load2 Try.isAgg25 Try.sizeOf25 rfl hB7) ?_; refine Wo (v := .agg _) rfl (opv_load2 Try.isAgg25 Try.sizeOf25 rfl (hB6.ext E79)) ?_
      refine Wo_call rfl (opc2 (a := .agg _) (b := .agg _) Try.call24 rfl rfl) (eq_same _ _ _ _ _ _ _ ((OwnedB.read hO11)) ((OwnedB.read hQ11)) ((Mono.mono E79 hw1)) ((Mono.mono E79 hw2))) ?_; rintro _ w33 ⟨rfl, E83⟩
      have hs28 := E83.size; refine Wo rfl (opv_not rfl) ?_; refine Wo_split rfl (opv_move (v := .bool _) rfl) (fun h18 => ?_) (fun h18 => ?_); contradiction; refine Wo rfl (opv_move (v := .bool _) rfl) ?_
      refine Wo rfl (opv_move (v := .bool _) rfl) ?_; refine Wo rfl (opv_neq_bool Try.underlying4 rfl rfl) ?_; refine Wo rfl (opv_pick_f (v := .bool _) rfl rfl) ?_; refine Wo_nil ?_; refine W_cond_ndec rfl (fun h19 => ?_) (fun h19 => ?_)
      contradiction; refine W_skip ?_; refine W_seq ?_; refine W_region rfl ?_; refine Wo rfl (opv_assign (v := .int _ _) rfl) ?_; refine Wo_nil ?_; refine W_seq ?_; refine W_region rfl ?_
      refine Wo (v := .agg _) rfl (opv_load2 Try.isAgg25 Try.sizeOf25 rfl (hB5.ext E83)) ?_; refine Wo rfl (opv_move (v := .int _ _) rfl) ?_
      refine Wo_call rfl (opc2 (a := .agg _) (b := .int _ _) Try.call26 rfl rfl) (heldStream_ok _ _ _ _ _ _ ((Mono.mono E83 (OwnedB.read hO8))) ((Mono.mono E83 (OwnedB.read hQ8))) (by omega) (by omega) (by omega)) ?_
      rintro _ w34 ⟨rfl, E84⟩; have hs29 := E84.size; refine Wo rfl (opv_assign (v := .int _ _) rfl) ?_; refine Wo_nil ?_; refine W_seq ?_; refine W_seq ?_; refine W_region rfl ?_; refine Wo rfl (opv_move (v := .int _ _) rfl) ?_
      refine Wo rfl (opv_lss rfl rfl) ?_; refine Wo_nil ?_; refine W_cond_dec rfl (fun h20 => ?_) (fun h20 => ?_); contradiction; refine W_skip ?_; refine W_seq ?_; refine W_seq ?_; refine W_region rfl ?_
      refine Wo rfl (opv_move (v := .int _ _) rfl) ?_; refine Wo rfl (opv_move (v := .int _ _) rfl) ?_; refine Wo rfl (opv_neq rfl rfl) ?_; refine Wo_nil ?_; refine W_cond_ndec rfl (fun h21 => ?_) (fun h21 => ?_); contradiction
      refine W_skip ?_; refine W_seq ?_; refine W_region rfl ?_; refine Wo rfl (opv_assign (v := .bool _) rfl) ?_; refine Wo_nil ?_; refine W_ret ?_; exact ⟨rfl, ((E74.trans E83).trans E84)⟩; exact WhAll_nil; exact WhAll_nil
      exact WhAll_nil; exact WhAll_nil; exact WhAll_nil

end Go.Proofs.Ytlalfmialbolhaa
