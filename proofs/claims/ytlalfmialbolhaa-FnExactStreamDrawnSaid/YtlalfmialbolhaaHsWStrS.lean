/- Walks: the shortest way to tell a stream, by the reference. -/
import Derived.Test.YtlalfmialbolhaaHsWStrB
namespace Go.Proofs.Ytlalfmialbolhaa
open Go.Hs
set_option maxRecDepth 10000
set_option maxHeartbeats 4000000
set_option linter.unusedVariables false
set_option linter.unusedSimpArgs false
noncomputable def shV (A B : List Int) : List Int × List Int := if Stm A B then (shL (bat A B), shR (bat A B)) else ([], [])
theorem ssV_t {A B A' B' : List Int} (h : Stm A B ∧ Stm A' B' ∧ bat A B = bat A' B') : ssV A B A' B' = true := by unfold ssV; classical exact decide_eq_true h
theorem ssV_f {A B A' B' : List Int} (h : ¬ (Stm A B ∧ Stm A' B' ∧ bat A B = bat A' B')) : ssV A B A' B' = false := by unfold ssV; classical exact decide_eq_false h

theorem spec_ShortOf_ok (w : World) (u1 u2 : Value) (A B : List Int) (h1 : Ints w u1 A) (h2 : Ints w u2 B) (hA : A.length ≤ 4000000) (hB : B.length ≤ 4000000) : Does Try.prog 53 [.agg #[u1, u2]] w (RetS2 w 3 (shV A B).1 (shV A B).2) := by
  have hle1 := h1.le
  have hle2 := h2.le
  have hok : ∀ (x : Bool), decide (Stm A B) = x → ∀ (w : World) (u1 u2 : Value), Ints w u1 A → Ints w u2 B → Does Try.prog 16 [.agg #[u1, u2]] w (Ret w (.bool x)) := fun x e w u1 u2 h1 h2 => e ▸ StreamOk_ok w u1 u2 A B h1 h2 hA hB
  by_cases hs : Stm A B
  · have k1 := hok true (decide_eq_true hs)
    have e0 : shV A B = (shL (bat A B), shR (bat A B)) := if_pos hs
    rw [e0]
    have hsl := hs.2.2
    have hsh := hs.sh
    obtain ⟨hs1, hs2, hs3⟩ := hs.short
    obtain ⟨f, hf⟩ : ∃ f, f = bat A B := ⟨_, rfl⟩
    rw [← hf] at hsh hs1 hs2 hs3 ⊢
    obtain ⟨a0, ha0⟩ : ∃ a, a = shA f := ⟨_, rfl⟩
    obtain ⟨p0, hp0⟩ : ∃ p, p = shP f := ⟨_, rfl⟩
    have eL : shL f = win f 0 a0 := by rw [ha0]; rfl
    have eR : shR f = win f a0 p0 := by rw [ha0, hp0]; rfl
    rw [← ha0, ← hp0] at hsh
    rw [← ha0] at hs1
    rw [← hp0] at hs2 hs3
    rw [eL, eR]
    clear hok e0 eL eR ha0 hp0
    refine fn_of_Wc Try.func53 rfl Try.results53 Try.ntmps53 rfl Try.isAgg25 Try.sizeOf25 ?_
    focus
      refine W_seq ?_; refine W_region rfl ?_; refine Wo_box rfl rfl rfl ?_; rintro b1 w1 hb1 E1 hB1; have hlb1 := hB1.lt; have hs4 := E1.size; refine Wo_alloc2 rfl flat25 ?_; rintro b2 w2 hb2 E2 hB2; have hlb2 := hB2.lt
      have hs5 := E2.size; refine Wo_nil ?_; refine W_seq ?_; refine W_seq ?_; refine W_region rfl ?_; refine Wo (v := .agg _) rfl (opv_load2 Try.isAgg25 Try.sizeOf25 rfl (hB1.ext E2)) ?_
      refine Wo_call rfl (opc1 (a := .agg _) Try.call16 rfl) (k1 _ _ _ ((Mono.mono (E1.trans E2) h1)) ((Mono.mono (E1.trans E2) h2))) ?_; rintro _ w3 ⟨rfl, E3⟩; have hs6 := E3.size; refine Wo rfl (opv_not rfl) ?_; refine Wo_nil ?_
      refine W_cond rfl (fun h3 => ?_) (fun h3 => ?_); contradiction; refine W_skip ?_; refine W_seq ?_; refine W_seq ?_; refine W_region rfl ?_; refine Wo rfl (opv_assign (v := .int _ _) rfl) ?_; refine Wo_nil ?_; refine W_block ?_
    refine W_loop [3, 4, 5, 6, 7, 12, 13, 14, 15, 16, 17, 18, 19, 20, 21, 22, 23, 24, 25, 26, 27, 28, 29, 30, 31, 32, 33, 34, 35, 36, 37, 38, 39, 40, 41, 42, 43, 44, 45, 46, 47, 48, 49, 50, 51, 52, 53, 54, 55, 56, 57, 58, 59] (fun (a : Nat) => [(3, .int .i64 (a : Nat))]) (fun a w' => Ext w3 w' ∧ a ≤ a0) (fun x => a0 + 1 - x) 0 (by repeat (first | exact trivial | refine And.intro rfl ?_)) ?_ ?_
    · exact ⟨Ext.refl _, Nat.zero_le _⟩
    rintro a ρj w4 ⟨E4, ha⟩
    focus
      have szE4 := E4.size; have szE3 := E3.size; have szE2 := E2.size; have szE1 := E1.size; refine W_seq ?_; refine W_seq ?_; refine W_region rfl ?_; refine Wo rfl (opv_move (v := .int _ _) rfl) ?_
      refine Wo rfl (opv_fieldAddr Try.underlying25 rfl rfl Try.sizeOf23 rfl) ?_; refine Wo (v := u1) rfl (opv_load Try.isAgg23 rfl ((hB1.ext ((E2.trans E3).trans E4)).cell rfl)) ?_; refine Wo rfl (opv_len Try.underlying23 rfl h1) ?_
      refine Wo rfl (opv_leq rfl rfl) ?_; refine Wo_nil ?_; refine W_cond_dec rfl (fun h4 => ?_) (fun h4 => ?_); refine W_skip ?_; refine W_seq ?_; refine W_block ?_; refine W_seq ?_; refine W_region rfl ?_
      refine Wo rfl (opv_assign (v := .int _ _) rfl) ?_; refine Wo_nil ?_; refine W_block ?_; rotate_left; (exfalso; omega)
    refine W_loop [4, 5, 6, 7, 19, 20, 21, 22, 23, 24, 25, 26, 27, 28, 29, 30, 31, 32, 33, 34, 35, 36, 37, 38, 39, 40, 41, 42, 43, 44, 45, 46, 47, 48, 49, 50, 51, 52, 53, 54, 55, 56, 57, 58, 59] (fun (p : Nat) => [(4, .int .i64 (p : Nat))]) (fun p w' => Ext w3 w' ∧ 1 ≤ p ∧ p ≤ B.length + 1 ∧ (a = a0 → p ≤ p0)) (fun x => B.length + 2 - x) 1 (by repeat (first | exact trivial | refine And.intro rfl ?_)) ?_ ?_
    · exact ⟨E4, Nat.le_refl _, by omega, fun _ => hs3⟩
    rintro p ρk w5 ⟨E5, hp1, hp2, hp3⟩
    by_cases hpl : p ≤ B.length
    · focus
        have szE5 := E5.size; have szE4 := E4.size; have szE3 := E3.size; have szE2 := E2.size; have szE1 := E1.size; refine W_seq ?_; refine W_seq ?_; refine W_region rfl ?_; refine Wo rfl (opv_move (v := .int _ _) rfl) ?_
        refine Wo rfl (opv_fieldAddr Try.underlying25 rfl rfl Try.sizeOf23 rfl) ?_; refine Wo (v := u2) rfl (opv_load Try.isAgg23 rfl ((hB1.ext ((E2.trans E3).trans E5)).cell rfl)) ?_; refine Wo rfl (opv_len Try.underlying23 rfl h2) ?_
        refine Wo rfl (opv_leq rfl rfl) ?_; refine Wo_nil ?_; refine W_cond_dec rfl (fun h5 => ?_) (fun h5 => ?_); refine W_skip ?_; refine W_seq ?_; refine W_block ?_; refine W_seq ?_; refine W_region rfl ?_
        refine Wo rfl (opv_build (ps := []) (cs := [_, _]) flat25 rfl rfl) ?_; refine Wo_alloc2 rfl flat25 ?_; rintro b3 w6 hb3 E6 hB3; have hlb3 := hB3.lt; have hs7 := E6.size
        refine Wo_st2 rfl Try.sizeOf25 rfl rfl (by first | rfl | assumption) (by first | rfl | assumption) hB3 (by omega) ((((E1.trans E2).trans E3).trans E5).trans E6) ?_; rintro w7 E7 hB3 K1 hz1
        have E8 := (((E2.trans E3).trans E5).trans E6).wroteAt ((((E1.trans E2).trans E3).trans E5).trans E6) E7 K1 hz1 (by omega); have szE8 := E8.size
        have E9 := ((E3.trans E5).trans E6).wroteAt ((((E1.trans E2).trans E3).trans E5).trans E6) E7 K1 hz1 (by omega); have szE9 := E9.size
        have E10 := (E5.trans E6).wroteAt ((((E1.trans E2).trans E3).trans E5).trans E6) E7 K1 hz1 (by omega); have szE10 := E10.size; have E11 := E6.wroteAt ((((E1.trans E2).trans E3).trans E5).trans E6) E7 K1 hz1 (by omega)
        have szE11 := E11.size; have hB1 := (hB1.ext (((E2.trans E3).trans E5).trans E6)).of_heap (K1 _ (by omega)); have hB2 := (hB2.ext ((E3.trans E5).trans E6)).of_heap (K1 _ (by omega)); refine Wo_nil ?_; refine W_seq ?_
        refine W_seq ?_; refine W_region rfl ?_; refine Wo rfl (opv_assign (v := .int _ _) rfl) ?_; refine Wo_nil ?_; refine W_block ?_; rotate_left; (exfalso; omega)
      refine W_loop [6, 27, 28, 29, 30, 31, 32, 33, 34, 35, 36, 37, 38, 39] (fun (k, o) => [(6, .int .i64 (k : Nat))]) (fun (k, (o : Value)) w' => Ext w5 w' ∧ w7.heap.size ≤ w'.heap.size ∧ k ≤ a ∧ Blk w' b3 [o, .slice none 0 0] ∧ Owned w7.heap.size XI w' o (win f 0 k)) (fun x => a - x.1) (0, .slice none 0 0) (by repeat (first | exact trivial | refine And.intro rfl ?_)) ?_ ?_
      · exact ⟨E11, Nat.le_refl _, Nat.zero_le _, hB3, by simpa [win] using (Owned.nil : Owned w7.heap.size XI w7 (.slice none 0 0) [])⟩
      clear hB1 hB2 hB3
      rintro ⟨k, o⟩ ρl w8 ⟨E12, hs8, hk, hB3, hO3⟩
      have hwl := win_len (f := f) (a := 0) (p := k)
      by_cases hka : k < a
      · have b1' : ∀ (w : World) (u1 u2 : Value), Ints w u1 A → Ints w u2 B → Does Try.prog 57 [.agg #[u1, u2], .int .i64 (k : Int)] w (Ret w (.int .i64 (f k))) := fun w u1 u2 h1 h2 => by
          have := spec_BitAt_ok w u1 u2 A B h1 h2 hA hB (k : Int)
          rw [show batV A B (k : Int) = bat A B k from if_pos ⟨hs, by omega, by omega⟩, ← hf] at this; exact this
        have hsn : win f 0 (k + 1) = win f 0 k ++ [f k] := by rw [win_succ, Nat.zero_add]
        focus
          have szE12 := E12.size; have szE11 := E11.size; have szE10 := E10.size; have szE9 := E9.size; have szE8 := E8.size; have szE7 := E7.size; have szE6 := E6.size; have szE5 := E5.size; have szE4 := E4.size; have szE3 := E3.size
          have szE2 := E2.size; have szE1 := E1.size; refine W_seq ?_; refine W_seq ?_; refine W_region rfl ?_; refine Wo rfl (opv_move (v := .int _ _) rfl) ?_; refine Wo rfl (opv_move (v := .int _ _) rfl) ?_
          refine Wo rfl (opv_lss rfl rfl) ?_; refine Wo_nil ?_; refine W_cond_dec rfl (fun h6 => ?_) (fun h6 => ?_); refine W_skip ?_; refine W_seq ?_; refine W_block ?_; refine W_held (fun _ => True) mixed rfl (by kernel_rfl) ?_
          intro w9 E13 K2 hz2; have hs9 := E13.size; refine Wh_take 0 rfl (by kernel_rfl) (by kernel_rfl) rfl (fun _ _ => opv_fieldAddr Try.underlying25 rfl rfl Try.sizeOf23 rfl) trivial ?_
          refine Wh_take 3 rfl (by kernel_rfl) (by kernel_rfl) rfl (fun _ _ => opv_move (v := .int _ _) rfl) trivial ?_; refine Wh_all (rs := [1, 2]) (by kernel_rfl) rfl ?_; refine WhAll_cons rfl ?_ ?_
          refine Wo (v := o) rfl (opv_load Try.isAgg23 rfl ((hB3.ext E13).cell rfl)) ?_; refine Wo_nil ?_; refine ⟨trivial, ?_⟩; refine Wh_all (rs := [2]) (by kernel_rfl) rfl ?_; refine WhAll_cons rfl ?_ ?_
          refine Wo (v := .agg _) rfl (opv_load2 Try.isAgg25 Try.sizeOf25 rfl (hB1.ext ((((E2.trans E3).trans E5).trans E12).trans E13))) ?_; refine Wo_nil ?_; refine ⟨trivial, ?_⟩; refine Wh_all (rs := [4]) (by kernel_rfl) rfl ?_
          refine WhAll_cons rfl ?_ ?_
          refine Wo_call rfl (opc2 (a := .agg _) (b := .int _ _) Try.call57 rfl rfl) (b1' _ _ _ ((Mono.mono (((((E1.trans E2).trans E3).trans E5).trans E12).trans E13) h1)) ((Mono.mono (((((E1.trans E2).trans E3).trans E5).trans E12).trans E13) h2))) ?_
          rintro _ w10 ⟨rfl, E14⟩; have hs10 := E14.size; refine Wo_nil ?_; refine ⟨trivial, ?_⟩; refine Wh_all (rs := [5]) (by kernel_rfl) rfl ?_; refine WhAll_cons rfl ?_ ?_
          refine Wo_buildSlice (ps := [(0, .int _ _)]) (cs := [_]) rfl Try.underlying23 Try.sizeOf3 Try.zeroValue3 rfl rfl rfl rfl ?_; rintro b4 w11 hb4 E15 hB4; have hlb4 := hB4.lt; have hs11 := E15.size; refine Wo_nil ?_
          refine ⟨trivial, ?_⟩; refine Wh_all (rs := [6]) (by kernel_rfl) rfl ?_; refine WhAll_cons rfl ?_ ?_
          refine Wo_app1 rfl el23 rfl rfl hB4 (hO3.toB.ext ((E13.trans E14).trans E15)) Owned.int (Nat.le_refl _) (by first | omega | (simp <;> omega)) (by omega) (by omega) (((((((E1.trans E2).trans E3).trans E5).trans E12).trans E13).trans E14).trans E15) (by omega) ?_
          have hT1 := (hO3.toB.ext ((E13.trans E14).trans E15)); rintro v1 w12 hO3 E16 M1; have E17 := M1.ext hT1 ((((((E2.trans E3).trans E5).trans E12).trans E13).trans E14).trans E15) (by omega); have szE17 := E17.size
          have E18 := M1.ext hT1 (((((E3.trans E5).trans E12).trans E13).trans E14).trans E15) (by omega); have szE18 := E18.size; have E19 := M1.ext hT1 ((((E5.trans E12).trans E13).trans E14).trans E15) (by omega); have szE19 := E19.size
          have E20 := M1.ext hT1 (((E12.trans E13).trans E14).trans E15) (by omega); have szE20 := E20.size; have hB1 := (hB1.ext ((((((E2.trans E3).trans E5).trans E12).trans E13).trans E14).trans E15)).moves M1 hT1 (by omega)
          have hB2 := (hB2.ext (((((E3.trans E5).trans E12).trans E13).trans E14).trans E15)).moves M1 hT1 (by omega); have hB3 := (hB3.ext ((E13.trans E14).trans E15)).moves M1 hT1 (by omega); have hB4 := hB4.moves M1 hT1 (by omega)
          have hs12 := E16.size; refine Wo_nil ?_; refine ⟨trivial, ?_⟩; refine Wh_take 7 rfl (by kernel_rfl) (by kernel_rfl) rfl (fun _ _ => opv_fieldAddr Try.underlying25 rfl rfl Try.sizeOf23 rfl) trivial ?_
          refine Wh_all (rs := [8]) (by kernel_rfl) rfl ?_; refine WhAll_cons rfl ?_ ?_; refine Wo_st (v := v1) rfl Try.sizeOf23 rfl rfl (OwnedB.isC hO3.toB) hB3 (by simp) (by omega) E16 ?_; rintro w13 E21 hB3 K3 hz3
          have E22 := E17.wroteAt E16 E21 K3 hz3 (by omega); have szE22 := E22.size; have E23 := E18.wroteAt E16 E21 K3 hz3 (by omega); have szE23 := E23.size; have E24 := E19.wroteAt E16 E21 K3 hz3 (by omega); have szE24 := E24.size
          have E25 := E20.wroteAt E16 E21 K3 hz3 (by omega); have szE25 := E25.size; simp only [List.set] at hB3; have hO3 := hO3.toB.wrote K3 (by omega); have hB1 := hB1.of_heap (K3 _ (by omega)); have hB2 := hB2.of_heap (K3 _ (by omega))
          have hB4 := hB4.of_heap (K3 _ (by omega)); refine Wo_nil ?_; refine ⟨trivial, ?_⟩; refine Wh_done (by kernel_rfl) ?_; refine W_region rfl ?_; refine Wo rfl (opv_move (v := .int _ _) rfl) ?_
          refine Wo rfl (opv_add rfl rfl (by omega)) ?_; refine Wo rfl (opv_assign (v := .int _ _) rfl) ?_; refine Wo_nil ?_; rotate_left; exact WhAll_nil; exact WhAll_nil; exact WhAll_nil; exact WhAll_nil; exact WhAll_nil
          refine WhAll_cons rfl ?_ ?_; refine Wo (v := .agg _) rfl (opv_load2 Try.isAgg25 Try.sizeOf25 rfl (hB1.ext ((((E2.trans E3).trans E5).trans E12).trans E13))) ?_; refine Wo_nil ?_; refine ⟨trivial, ?_⟩
          refine Wh_all (rs := [1, 4]) (by kernel_rfl) rfl ?_; refine WhAll_cons rfl ?_ ?_; refine Wo (v := o) rfl (opv_load Try.isAgg23 rfl ((hB3.ext E13).cell rfl)) ?_; refine Wo_nil ?_; refine ⟨trivial, ?_⟩
          refine Wh_all (rs := [4]) (by kernel_rfl) rfl ?_; refine WhAll_cons rfl ?_ ?_
          refine Wo_call rfl (opc2 (a := .agg _) (b := .int _ _) Try.call57 rfl rfl) (b1' _ _ _ ((Mono.mono (((((E1.trans E2).trans E3).trans E5).trans E12).trans E13) h1)) ((Mono.mono (((((E1.trans E2).trans E3).trans E5).trans E12).trans E13) h2))) ?_
          rintro _ w10 ⟨rfl, E14⟩; have hs10 := E14.size; refine Wo_nil ?_; refine ⟨trivial, ?_⟩; refine Wh_all (rs := [5]) (by kernel_rfl) rfl ?_; refine WhAll_cons rfl ?_ ?_
          refine Wo_buildSlice (ps := [(0, .int _ _)]) (cs := [_]) rfl Try.underlying23 Try.sizeOf3 Try.zeroValue3 rfl rfl rfl rfl ?_; rintro b4 w11 hb4 E15 hB4; have hlb4 := hB4.lt; have hs11 := E15.size; refine Wo_nil ?_
          refine ⟨trivial, ?_⟩; refine Wh_all (rs := [6]) (by kernel_rfl) rfl ?_; refine WhAll_cons rfl ?_ ?_
          refine Wo_app1 rfl el23 rfl rfl hB4 (hO3.toB.ext ((E13.trans E14).trans E15)) Owned.int (Nat.le_refl _) (by first | omega | (simp <;> omega)) (by omega) (by omega) (((((((E1.trans E2).trans E3).trans E5).trans E12).trans E13).trans E14).trans E15) (by omega) ?_
          have hT1 := (hO3.toB.ext ((E13.trans E14).trans E15)); rintro v1 w12 hO3 E16 M1; have E17 := M1.ext hT1 ((((((E2.trans E3).trans E5).trans E12).trans E13).trans E14).trans E15) (by omega); have szE17 := E17.size
          have E18 := M1.ext hT1 (((((E3.trans E5).trans E12).trans E13).trans E14).trans E15) (by omega); have szE18 := E18.size; have E19 := M1.ext hT1 ((((E5.trans E12).trans E13).trans E14).trans E15) (by omega); have szE19 := E19.size
          have E20 := M1.ext hT1 (((E12.trans E13).trans E14).trans E15) (by omega); have szE20 := E20.size; have hB1 := (hB1.ext ((((((E2.trans E3).trans E5).trans E12).trans E13).trans E14).trans E15)).moves M1 hT1 (by omega)
          have hB2 := (hB2.ext (((((E3.trans E5).trans E12).trans E13).trans E14).trans E15)).moves M1 hT1 (by omega); have hB3 := (hB3.ext ((E13.trans E14).trans E15)).moves M1 hT1 (by omega); have hB4 := hB4.moves M1 hT1 (by omega)
          have hs12 := E16.size; refine Wo_nil ?_; refine ⟨trivial, ?_⟩; refine Wh_take 7 rfl (by kernel_rfl) (by kernel_rfl) rfl (fun _ _ => opv_fieldAddr Try.underlying25 rfl rfl Try.sizeOf23 rfl) trivial ?_
          refine Wh_all (rs := [8]) (by kernel_rfl) rfl ?_; refine WhAll_cons rfl ?_ ?_; refine Wo_st (v := v1) rfl Try.sizeOf23 rfl rfl (OwnedB.isC hO3.toB) hB3 (by simp) (by omega) E16 ?_; rintro w13 E21 hB3 K3 hz3
          have E22 := E17.wroteAt E16 E21 K3 hz3 (by omega); have szE22 := E22.size; have E23 := E18.wroteAt E16 E21 K3 hz3 (by omega); have szE23 := E23.size; have E24 := E19.wroteAt E16 E21 K3 hz3 (by omega); have szE24 := E24.size
          have E25 := E20.wroteAt E16 E21 K3 hz3 (by omega); have szE25 := E25.size; simp only [List.set] at hB3; have hO3 := hO3.toB.wrote K3 (by omega); have hB1 := hB1.of_heap (K3 _ (by omega)); have hB2 := hB2.of_heap (K3 _ (by omega))
          have hB4 := hB4.of_heap (K3 _ (by omega)); refine Wo_nil ?_; refine ⟨trivial, ?_⟩; refine Wh_done (by kernel_rfl) ?_; refine W_region rfl ?_; refine Wo rfl (opv_move (v := .int _ _) rfl) ?_
          refine Wo rfl (opv_add rfl rfl (by omega)) ?_; refine Wo rfl (opv_assign (v := .int _ _) rfl) ?_; refine Wo_nil ?_; rotate_left; exact WhAll_nil; exact WhAll_nil; exact WhAll_nil; exact WhAll_nil; refine WhAll_cons rfl ?_ ?_
          refine Wo_call rfl (opc2 (a := .agg _) (b := .int _ _) Try.call57 rfl rfl) (b1' _ _ _ ((Mono.mono (((((E1.trans E2).trans E3).trans E5).trans E12).trans E13) h1)) ((Mono.mono (((((E1.trans E2).trans E3).trans E5).trans E12).trans E13) h2))) ?_
          rintro _ w10 ⟨rfl, E14⟩; have hs10 := E14.size; refine Wo_nil ?_; refine ⟨trivial, ?_⟩; refine Wh_all (rs := [1, 5]) (by kernel_rfl) rfl ?_; refine WhAll_cons rfl ?_ ?_
          refine Wo (v := o) rfl (opv_load Try.isAgg23 rfl ((hB3.ext (E13.trans E14)).cell rfl)) ?_; refine Wo_nil ?_; refine ⟨trivial, ?_⟩; refine Wh_all (rs := [5]) (by kernel_rfl) rfl ?_; refine WhAll_cons rfl ?_ ?_
          refine Wo_buildSlice (ps := [(0, .int _ _)]) (cs := [_]) rfl Try.underlying23 Try.sizeOf3 Try.zeroValue3 rfl rfl rfl rfl ?_; rintro b4 w11 hb4 E15 hB4; have hlb4 := hB4.lt; have hs11 := E15.size; refine Wo_nil ?_
          refine ⟨trivial, ?_⟩; refine Wh_all (rs := [6]) (by kernel_rfl) rfl ?_; refine WhAll_cons rfl ?_ ?_
          refine Wo_app1 rfl el23 rfl rfl hB4 (hO3.toB.ext ((E13.trans E14).trans E15)) Owned.int (Nat.le_refl _) (by first | omega | (simp <;> omega)) (by omega) (by omega) (((((((E1.trans E2).trans E3).trans E5).trans E12).trans E13).trans E14).trans E15) (by omega) ?_
          have hT1 := (hO3.toB.ext ((E13.trans E14).trans E15)); rintro v1 w12 hO3 E16 M1; have E17 := M1.ext hT1 ((((((E2.trans E3).trans E5).trans E12).trans E13).trans E14).trans E15) (by omega); have szE17 := E17.size
          have E18 := M1.ext hT1 (((((E3.trans E5).trans E12).trans E13).trans E14).trans E15) (by omega); have szE18 := E18.size; have E19 := M1.ext hT1 ((((E5.trans E12).trans E13).trans E14).trans E15) (by omega); have szE19 := E19.size
          have E20 := M1.ext hT1 (((E12.trans E13).trans E14).trans E15) (by omega); have szE20 := E20.size; have hB1 := (hB1.ext ((((((E2.trans E3).trans E5).trans E12).trans E13).trans E14).trans E15)).moves M1 hT1 (by omega)
          have hB2 := (hB2.ext (((((E3.trans E5).trans E12).trans E13).trans E14).trans E15)).moves M1 hT1 (by omega); have hB3 := (hB3.ext ((E13.trans E14).trans E15)).moves M1 hT1 (by omega); have hB4 := hB4.moves M1 hT1 (by omega)
          have hs12 := E16.size; refine Wo_nil ?_; refine ⟨trivial, ?_⟩; refine Wh_take 7 rfl (by kernel_rfl) (by kernel_rfl) rfl (fun _ _ => opv_fieldAddr Try.underlying25 rfl rfl Try.sizeOf23 rfl) trivial ?_
          refine Wh_all (rs := [8]) (by kernel_rfl) rfl ?_; refine WhAll_cons rfl ?_ ?_; refine Wo_st (v := v1) rfl Try.sizeOf23 rfl rfl (OwnedB.isC hO3.toB) hB3 (by simp) (by omega) E16 ?_; rintro w13 E21 hB3 K3 hz3
          have E22 := E17.wroteAt E16 E21 K3 hz3 (by omega); have szE22 := E22.size; have E23 := E18.wroteAt E16 E21 K3 hz3 (by omega); have szE23 := E23.size; have E24 := E19.wroteAt E16 E21 K3 hz3 (by omega); have szE24 := E24.size
          have E25 := E20.wroteAt E16 E21 K3 hz3 (by omega); have szE25 := E25.size; simp only [List.set] at hB3; have hO3 := hO3.toB.wrote K3 (by omega); have hB1 := hB1.of_heap (K3 _ (by omega)); have hB2 := hB2.of_heap (K3 _ (by omega))
          have hB4 := hB4.of_heap (K3 _ (by omega)); refine Wo_nil ?_; refine ⟨trivial, ?_⟩; refine Wh_done (by kernel_rfl) ?_; refine W_region rfl ?_; refine Wo rfl (opv_move (v := .int _ _) rfl) ?_
          refine Wo rfl (opv_add rfl rfl (by omega)) ?_; refine Wo rfl (opv_assign (v := .int _ _) rfl) ?_; refine Wo_nil ?_; rotate_left; exact WhAll_nil; exact WhAll_nil; exact WhAll_nil; refine WhAll_cons rfl ?_ ?_
          refine Wo_buildSlice (ps := [(0, .int _ _)]) (cs := [_]) rfl Try.underlying23 Try.sizeOf3 Try.zeroValue3 rfl rfl rfl rfl ?_; rintro b4 w11 hb4 E15 hB4; have hlb4 := hB4.lt; have hs11 := E15.size; refine Wo_nil ?_
          refine ⟨trivial, ?_⟩; refine Wh_all (rs := [1]) (by kernel_rfl) rfl ?_; refine WhAll_cons rfl ?_ ?_; refine Wo (v := o) rfl (opv_load Try.isAgg23 rfl ((hB3.ext ((E13.trans E14).trans E15)).cell rfl)) ?_; refine Wo_nil ?_
          refine ⟨trivial, ?_⟩; refine Wh_all (rs := [6]) (by kernel_rfl) rfl ?_; refine WhAll_cons rfl ?_ ?_
          refine Wo_app1 rfl el23 rfl rfl hB4 (hO3.toB.ext ((E13.trans E14).trans E15)) Owned.int (Nat.le_refl _) (by first | omega | (simp <;> omega)) (by omega) (by omega) (((((((E1.trans E2).trans E3).trans E5).trans E12).trans E13).trans E14).trans E15) (by omega) ?_
          have hT1 := (hO3.toB.ext ((E13.trans E14).trans E15)); rintro v1 w12 hO3 E16 M1; have E17 := M1.ext hT1 ((((((E2.trans E3).trans E5).trans E12).trans E13).trans E14).trans E15) (by omega); have szE17 := E17.size
          have E18 := M1.ext hT1 (((((E3.trans E5).trans E12).trans E13).trans E14).trans E15) (by omega); have szE18 := E18.size; have E19 := M1.ext hT1 ((((E5.trans E12).trans E13).trans E14).trans E15) (by omega); have szE19 := E19.size
          have E20 := M1.ext hT1 (((E12.trans E13).trans E14).trans E15) (by omega); have szE20 := E20.size; have hB1 := (hB1.ext ((((((E2.trans E3).trans E5).trans E12).trans E13).trans E14).trans E15)).moves M1 hT1 (by omega)
          have hB2 := (hB2.ext (((((E3.trans E5).trans E12).trans E13).trans E14).trans E15)).moves M1 hT1 (by omega); have hB3 := (hB3.ext ((E13.trans E14).trans E15)).moves M1 hT1 (by omega); have hB4 := hB4.moves M1 hT1 (by omega)
          have hs12 := E16.size; refine Wo_nil ?_; refine ⟨trivial, ?_⟩; refine Wh_take 7 rfl (by kernel_rfl) (by kernel_rfl) rfl (fun _ _ => opv_fieldAddr Try.underlying25 rfl rfl Try.sizeOf23 rfl) trivial ?_
          refine Wh_all (rs := [8]) (by kernel_rfl) rfl ?_; refine WhAll_cons rfl ?_ ?_; refine Wo_st (v := v1) rfl Try.sizeOf23 rfl rfl (OwnedB.isC hO3.toB) hB3 (by simp) (by omega) E16 ?_; rintro w13 E21 hB3 K3 hz3
          have E22 := E17.wroteAt E16 E21 K3 hz3 (by omega); have szE22 := E22.size; have E23 := E18.wroteAt E16 E21 K3 hz3 (by omega); have szE23 := E23.size; have E24 := E19.wroteAt E16 E21 K3 hz3 (by omega); have szE24 := E24.size
          have E25 := E20.wroteAt E16 E21 K3 hz3 (by omega); have szE25 := E25.size; simp only [List.set] at hB3; have hO3 := hO3.toB.wrote K3 (by omega); have hB1 := hB1.of_heap (K3 _ (by omega)); have hB2 := hB2.of_heap (K3 _ (by omega))
          have hB4 := hB4.of_heap (K3 _ (by omega)); refine Wo_nil ?_; refine ⟨trivial, ?_⟩; refine Wh_done (by kernel_rfl) ?_; refine W_region rfl ?_; refine Wo rfl (opv_move (v := .int _ _) rfl) ?_
          refine Wo rfl (opv_add rfl rfl (by omega)) ?_; refine Wo rfl (opv_assign (v := .int _ _) rfl) ?_; refine Wo_nil ?_; rotate_left; exact WhAll_nil; exact WhAll_nil; exact WhAll_nil; exact WhAll_nil; exact WhAll_nil; exact WhAll_nil
          (exfalso; omega)
        · refine ⟨((k + 1, v1)), by repeat (first | exact trivial | refine And.intro rfl ?_), by repeat (first | with_reducible exact Same.refl | refine Same.upd rfl ?_ | refine Same.upds rfl ?_ | refine Same.mix rfl ?_), ?_, ?_⟩
          · exact ⟨by assumption, by have := M1.1.size; omega, by omega, by assumption, by rw [hsn]; exact OwnedB.o (by assumption)⟩
          · simp only; omega
        · refine ⟨((k + 1, v1)), by repeat (first | exact trivial | refine And.intro rfl ?_), by repeat (first | with_reducible exact Same.refl | refine Same.upd rfl ?_ | refine Same.upds rfl ?_ | refine Same.mix rfl ?_), ?_, ?_⟩
          · exact ⟨by assumption, by have := M1.1.size; omega, by omega, by assumption, by rw [hsn]; exact OwnedB.o (by assumption)⟩
          · simp only; omega
        · refine ⟨((k + 1, v1)), by repeat (first | exact trivial | refine And.intro rfl ?_), by repeat (first | with_reducible exact Same.refl | refine Same.upd rfl ?_ | refine Same.upds rfl ?_ | refine Same.mix rfl ?_), ?_, ?_⟩
          · exact ⟨by assumption, by have := M1.1.size; omega, by omega, by assumption, by rw [hsn]; exact OwnedB.o (by assumption)⟩
          · simp only; omega
        · refine ⟨((k + 1, v1)), by repeat (first | exact trivial | refine And.intro rfl ?_), by repeat (first | with_reducible exact Same.refl | refine Same.upd rfl ?_ | refine Same.upds rfl ?_ | refine Same.mix rfl ?_), ?_, ?_⟩
          · exact ⟨by assumption, by have := M1.1.size; omega, by omega, by assumption, by rw [hsn]; exact OwnedB.o (by assumption)⟩
          · simp only; omega
      · obtain rfl : k = a := by omega
        focus
          have szE12 := E12.size; have szE11 := E11.size; have szE10 := E10.size; have szE9 := E9.size; have szE8 := E8.size; have szE7 := E7.size; have szE6 := E6.size; have szE5 := E5.size; have szE4 := E4.size; have szE3 := E3.size
          have szE2 := E2.size; have szE1 := E1.size; refine W_seq ?_; refine W_seq ?_; refine W_region rfl ?_; refine Wo rfl (opv_move (v := .int _ _) rfl) ?_; refine Wo rfl (opv_move (v := .int _ _) rfl) ?_
          refine Wo rfl (opv_lss rfl rfl) ?_; refine Wo_nil ?_; refine W_cond_dec rfl (fun h6 => ?_) (fun h6 => ?_); (exfalso; omega); refine W_exit ?_; refine exitX_same ?_; refine W_seq ?_; refine W_seq ?_; refine W_region rfl ?_
          refine Wo rfl (opv_move (v := .int _ _) rfl) ?_; refine Wo rfl (opv_assign (v := .int _ _) rfl) ?_; refine Wo_nil ?_; refine W_block ?_
        refine W_loop [7, 41, 42, 43, 44, 45, 46, 47, 48, 49, 50, 51, 52, 53, 54, 55] (fun (j, q) => [(7, .int .i64 (j : Nat))]) (fun (j, (q : Value)) w' => Ext w5 w' ∧ w8.heap.size ≤ w'.heap.size ∧ k ≤ j ∧ j ≤ k + p ∧ Blk w' b3 [o, q] ∧ OwnedB w7.heap.size w8.heap.size XI w' o (win f 0 k) ∧ Owned w8.heap.size XI w' q (win f k (j - k))) (fun x => k + p - x.1) (k, .slice none 0 0) (by repeat (first | exact trivial | refine And.intro rfl ?_)) ?_ ?_
        · exact ⟨E12, Nat.le_refl _, Nat.le_refl _, by omega, hB3, hO3.toB, by rw [Nat.sub_self]; simpa [win] using (Owned.nil : Owned w8.heap.size XI w8 (.slice none 0 0) [])⟩
        clear hB3 hO3
        rintro ⟨j, q⟩ ρm w9 ⟨E13, hs9, hkj, hj, hB3, hO3, hQ3⟩
        have hwl2 := win_len (f := f) (a := k) (p := j - k)
        by_cases hjl : j < k + p
        · have b1' : ∀ (w : World) (u1 u2 : Value), Ints w u1 A → Ints w u2 B → Does Try.prog 57 [.agg #[u1, u2], .int .i64 (j : Int)] w (Ret w (.int .i64 (f j))) := fun w u1 u2 h1 h2 => by
            have := spec_BitAt_ok w u1 u2 A B h1 h2 hA hB (j : Int)
            rw [show batV A B (j : Int) = bat A B j from if_pos ⟨hs, by omega, by omega⟩, ← hf] at this; exact this
          have hsn : win f k (j + 1 - k) = win f k (j - k) ++ [f j] := by
            rw [show j + 1 - k = (j - k) + 1 by omega, win_succ, show k + (j - k) = j by omega]
          focus
            have szE13 := E13.size; have szE12 := E12.size; have szE11 := E11.size; have szE10 := E10.size; have szE9 := E9.size; have szE8 := E8.size; have szE7 := E7.size; have szE6 := E6.size; have szE5 := E5.size; have szE4 := E4.size
            have szE3 := E3.size; have szE2 := E2.size; have szE1 := E1.size; refine W_seq ?_; refine W_seq ?_; refine W_region rfl ?_; refine Wo rfl (opv_move (v := .int _ _) rfl) ?_; refine Wo rfl (opv_move (v := .int _ _) rfl) ?_
            refine Wo rfl (opv_move (v := .int _ _) rfl) ?_; refine Wo rfl (opv_add rfl rfl (by omega)) ?_; refine Wo rfl (opv_lss rfl rfl) ?_; refine Wo_nil ?_; refine W_cond_dec rfl (fun h7 => ?_) (fun h7 => ?_); refine W_skip ?_
            refine W_seq ?_; refine W_block ?_; refine W_held (fun _ => True) mixed rfl (by kernel_rfl) ?_; intro w10 E14 K2 hz2; have hs10 := E14.size
            refine Wh_take 0 rfl (by kernel_rfl) (by kernel_rfl) rfl (fun _ _ => opv_fieldAddr Try.underlying25 rfl rfl Try.sizeOf23 rfl) trivial ?_
            refine Wh_take 3 rfl (by kernel_rfl) (by kernel_rfl) rfl (fun _ _ => opv_move (v := .int _ _) rfl) trivial ?_; refine Wh_all (rs := [1, 2]) (by kernel_rfl) rfl ?_; refine WhAll_cons rfl ?_ ?_
            refine Wo (v := q) rfl (opv_load Try.isAgg23 rfl ((hB3.ext E14).cell rfl)) ?_; refine Wo_nil ?_; refine ⟨trivial, ?_⟩; refine Wh_all (rs := [2]) (by kernel_rfl) rfl ?_; refine WhAll_cons rfl ?_ ?_
            refine Wo (v := .agg _) rfl (opv_load2 Try.isAgg25 Try.sizeOf25 rfl (hB1.ext ((((E2.trans E3).trans E5).trans E13).trans E14))) ?_; refine Wo_nil ?_; refine ⟨trivial, ?_⟩; refine Wh_all (rs := [4]) (by kernel_rfl) rfl ?_
            refine WhAll_cons rfl ?_ ?_
            refine Wo_call rfl (opc2 (a := .agg _) (b := .int _ _) Try.call57 rfl rfl) (b1' _ _ _ ((Mono.mono (((((E1.trans E2).trans E3).trans E5).trans E13).trans E14) h1)) ((Mono.mono (((((E1.trans E2).trans E3).trans E5).trans E13).trans E14) h2))) ?_
            rintro _ w11 ⟨rfl, E15⟩; have hs11 := E15.size; refine Wo_nil ?_; refine ⟨trivial, ?_⟩; refine Wh_all (rs := [5]) (by kernel_rfl) rfl ?_; refine WhAll_cons rfl ?_ ?_
            refine Wo_buildSlice (ps := [(0, .int _ _)]) (cs := [_]) rfl Try.underlying23 Try.sizeOf3 Try.zeroValue3 rfl rfl rfl rfl ?_; rintro b4 w12 hb4 E16 hB4; have hlb4 := hB4.lt; have hs12 := E16.size; refine Wo_nil ?_
            refine ⟨trivial, ?_⟩; refine Wh_all (rs := [6]) (by kernel_rfl) rfl ?_; refine WhAll_cons rfl ?_ ?_
            refine Wo_app1 rfl el23 rfl rfl hB4 (hQ3.toB.ext ((E14.trans E15).trans E16)) Owned.int (Nat.le_refl _) (by first | omega | (simp <;> omega)) (by omega) (by omega) (((((((E1.trans E2).trans E3).trans E5).trans E13).trans E14).trans E15).trans E16) (by omega) ?_
            have hT1 := (hQ3.toB.ext ((E14.trans E15).trans E16)); rintro v1 w13 hQ3 E17 M1; have E18 := M1.ext hT1 ((((((E2.trans E3).trans E5).trans E13).trans E14).trans E15).trans E16) (by omega); have szE18 := E18.size
            have E19 := M1.ext hT1 (((((E3.trans E5).trans E13).trans E14).trans E15).trans E16) (by omega); have szE19 := E19.size; have E20 := M1.ext hT1 ((((E5.trans E13).trans E14).trans E15).trans E16) (by omega); have szE20 := E20.size
            have E21 := M1.ext hT1 (((E13.trans E14).trans E15).trans E16) (by omega); have szE21 := E21.size; have hB1 := (hB1.ext ((((((E2.trans E3).trans E5).trans E13).trans E14).trans E15).trans E16)).moves M1 hT1 (by omega)
            have hB2 := (hB2.ext (((((E3.trans E5).trans E13).trans E14).trans E15).trans E16)).moves M1 hT1 (by omega); have hB3 := (hB3.ext ((E14.trans E15).trans E16)).moves M1 hT1 (by omega)
            have hO3 := (hO3.ext ((E14.trans E15).trans E16)).moves M1 hT1 (by omega); have hB4 := hB4.moves M1 hT1 (by omega); have hs13 := E17.size; refine Wo_nil ?_; refine ⟨trivial, ?_⟩
            refine Wh_take 7 rfl (by kernel_rfl) (by kernel_rfl) rfl (fun _ _ => opv_fieldAddr Try.underlying25 rfl rfl Try.sizeOf23 rfl) trivial ?_; refine Wh_all (rs := [8]) (by kernel_rfl) rfl ?_; refine WhAll_cons rfl ?_ ?_
            refine Wo_st (v := v1) rfl Try.sizeOf23 rfl rfl (OwnedB.isC hQ3.toB) hB3 (by simp) (by omega) E17 ?_; rintro w14 E22 hB3 K3 hz3; have E23 := E18.wroteAt E17 E22 K3 hz3 (by omega); have szE23 := E23.size
            have E24 := E19.wroteAt E17 E22 K3 hz3 (by omega); have szE24 := E24.size; have E25 := E20.wroteAt E17 E22 K3 hz3 (by omega); have szE25 := E25.size; have E26 := E21.wroteAt E17 E22 K3 hz3 (by omega); have szE26 := E26.size
            simp only [List.set] at hB3; have hQ3 := hQ3.toB.wrote K3 (by omega); have hB1 := hB1.of_heap (K3 _ (by omega)); have hB2 := hB2.of_heap (K3 _ (by omega)); have hO3 := hO3.wrote K3 (by omega)
            have hB4 := hB4.of_heap (K3 _ (by omega)); refine Wo_nil ?_; refine ⟨trivial, ?_⟩; refine Wh_done (by kernel_rfl) ?_; refine W_region rfl ?_; refine Wo rfl (opv_move (v := .int _ _) rfl) ?_
            refine Wo rfl (opv_add rfl rfl (by omega)) ?_; refine Wo rfl (opv_assign (v := .int _ _) rfl) ?_; refine Wo_nil ?_; rotate_left; exact WhAll_nil; exact WhAll_nil; exact WhAll_nil; exact WhAll_nil; exact WhAll_nil
            refine WhAll_cons rfl ?_ ?_; refine Wo (v := .agg _) rfl (opv_load2 Try.isAgg25 Try.sizeOf25 rfl (hB1.ext ((((E2.trans E3).trans E5).trans E13).trans E14))) ?_; refine Wo_nil ?_; refine ⟨trivial, ?_⟩
            refine Wh_all (rs := [1, 4]) (by kernel_rfl) rfl ?_; refine WhAll_cons rfl ?_ ?_; refine Wo (v := q) rfl (opv_load Try.isAgg23 rfl ((hB3.ext E14).cell rfl)) ?_; refine Wo_nil ?_; refine ⟨trivial, ?_⟩
            refine Wh_all (rs := [4]) (by kernel_rfl) rfl ?_; refine WhAll_cons rfl ?_ ?_
            refine Wo_call rfl (opc2 (a := .agg _) (b := .int _ _) Try.call57 rfl rfl) (b1' _ _ _ ((Mono.mono (((((E1.trans E2).trans E3).trans E5).trans E13).trans E14) h1)) ((Mono.mono (((((E1.trans E2).trans E3).trans E5).trans E13).trans E14) h2))) ?_
            rintro _ w11 ⟨rfl, E15⟩; have hs11 := E15.size; refine Wo_nil ?_; refine ⟨trivial, ?_⟩; refine Wh_all (rs := [5]) (by kernel_rfl) rfl ?_; refine WhAll_cons rfl ?_ ?_
            refine Wo_buildSlice (ps := [(0, .int _ _)]) (cs := [_]) rfl Try.underlying23 Try.sizeOf3 Try.zeroValue3 rfl rfl rfl rfl ?_; rintro b4 w12 hb4 E16 hB4; have hlb4 := hB4.lt; have hs12 := E16.size; refine Wo_nil ?_
            refine ⟨trivial, ?_⟩; refine Wh_all (rs := [6]) (by kernel_rfl) rfl ?_; refine WhAll_cons rfl ?_ ?_
            refine Wo_app1 rfl el23 rfl rfl hB4 (hQ3.toB.ext ((E14.trans E15).trans E16)) Owned.int (Nat.le_refl _) (by first | omega | (simp <;> omega)) (by omega) (by omega) (((((((E1.trans E2).trans E3).trans E5).trans E13).trans E14).trans E15).trans E16) (by omega) ?_
            have hT1 := (hQ3.toB.ext ((E14.trans E15).trans E16)); rintro v1 w13 hQ3 E17 M1; have E18 := M1.ext hT1 ((((((E2.trans E3).trans E5).trans E13).trans E14).trans E15).trans E16) (by omega); have szE18 := E18.size
            have E19 := M1.ext hT1 (((((E3.trans E5).trans E13).trans E14).trans E15).trans E16) (by omega); have szE19 := E19.size; have E20 := M1.ext hT1 ((((E5.trans E13).trans E14).trans E15).trans E16) (by omega); have szE20 := E20.size
            have E21 := M1.ext hT1 (((E13.trans E14).trans E15).trans E16) (by omega); have szE21 := E21.size; have hB1 := (hB1.ext ((((((E2.trans E3).trans E5).trans E13).trans E14).trans E15).trans E16)).moves M1 hT1 (by omega)
            have hB2 := (hB2.ext (((((E3.trans E5).trans E13).trans E14).trans E15).trans E16)).moves M1 hT1 (by omega); have hB3 := (hB3.ext ((E14.trans E15).trans E16)).moves M1 hT1 (by omega)
            have hO3 := (hO3.ext ((E14.trans E15).trans E16)).moves M1 hT1 (by omega); have hB4 := hB4.moves M1 hT1 (by omega); have hs13 := E17.size; refine Wo_nil ?_; refine ⟨trivial, ?_⟩
            refine Wh_take 7 rfl (by kernel_rfl) (by kernel_rfl) rfl (fun _ _ => opv_fieldAddr Try.underlying25 rfl rfl Try.sizeOf23 rfl) trivial ?_; refine Wh_all (rs := [8]) (by kernel_rfl) rfl ?_; refine WhAll_cons rfl ?_ ?_
            refine Wo_st (v := v1) rfl Try.sizeOf23 rfl rfl (OwnedB.isC hQ3.toB) hB3 (by simp) (by omega) E17 ?_; rintro w14 E22 hB3 K3 hz3; have E23 := E18.wroteAt E17 E22 K3 hz3 (by omega); have szE23 := E23.size
            have E24 := E19.wroteAt E17 E22 K3 hz3 (by omega); have szE24 := E24.size; have E25 := E20.wroteAt E17 E22 K3 hz3 (by omega); have szE25 := E25.size; have E26 := E21.wroteAt E17 E22 K3 hz3 (by omega); have szE26 := E26.size
            simp only [List.set] at hB3; have hQ3 := hQ3.toB.wrote K3 (by omega); have hB1 := hB1.of_heap (K3 _ (by omega)); have hB2 := hB2.of_heap (K3 _ (by omega)); have hO3 := hO3.wrote K3 (by omega)
            have hB4 := hB4.of_heap (K3 _ (by omega)); refine Wo_nil ?_; refine ⟨trivial, ?_⟩; refine Wh_done (by kernel_rfl) ?_; refine W_region rfl ?_; refine Wo rfl (opv_move (v := .int _ _) rfl) ?_
            refine Wo rfl (opv_add rfl rfl (by omega)) ?_; refine Wo rfl (opv_assign (v := .int _ _) rfl) ?_; refine Wo_nil ?_; rotate_left; exact WhAll_nil; exact WhAll_nil; exact WhAll_nil; exact WhAll_nil; refine WhAll_cons rfl ?_ ?_
            refine Wo_call rfl (opc2 (a := .agg _) (b := .int _ _) Try.call57 rfl rfl) (b1' _ _ _ ((Mono.mono (((((E1.trans E2).trans E3).trans E5).trans E13).trans E14) h1)) ((Mono.mono (((((E1.trans E2).trans E3).trans E5).trans E13).trans E14) h2))) ?_
            rintro _ w11 ⟨rfl, E15⟩; have hs11 := E15.size; refine Wo_nil ?_; refine ⟨trivial, ?_⟩; refine Wh_all (rs := [1, 5]) (by kernel_rfl) rfl ?_; refine WhAll_cons rfl ?_ ?_
            refine Wo (v := q) rfl (opv_load Try.isAgg23 rfl ((hB3.ext (E14.trans E15)).cell rfl)) ?_; refine Wo_nil ?_; refine ⟨trivial, ?_⟩; refine Wh_all (rs := [5]) (by kernel_rfl) rfl ?_; refine WhAll_cons rfl ?_ ?_
            refine Wo_buildSlice (ps := [(0, .int _ _)]) (cs := [_]) rfl Try.underlying23 Try.sizeOf3 Try.zeroValue3 rfl rfl rfl rfl ?_; rintro b4 w12 hb4 E16 hB4; have hlb4 := hB4.lt; have hs12 := E16.size; refine Wo_nil ?_
            refine ⟨trivial, ?_⟩; refine Wh_all (rs := [6]) (by kernel_rfl) rfl ?_; refine WhAll_cons rfl ?_ ?_
            refine Wo_app1 rfl el23 rfl rfl hB4 (hQ3.toB.ext ((E14.trans E15).trans E16)) Owned.int (Nat.le_refl _) (by first | omega | (simp <;> omega)) (by omega) (by omega) (((((((E1.trans E2).trans E3).trans E5).trans E13).trans E14).trans E15).trans E16) (by omega) ?_
            have hT1 := (hQ3.toB.ext ((E14.trans E15).trans E16)); rintro v1 w13 hQ3 E17 M1; have E18 := M1.ext hT1 ((((((E2.trans E3).trans E5).trans E13).trans E14).trans E15).trans E16) (by omega); have szE18 := E18.size
            have E19 := M1.ext hT1 (((((E3.trans E5).trans E13).trans E14).trans E15).trans E16) (by omega); have szE19 := E19.size; have E20 := M1.ext hT1 ((((E5.trans E13).trans E14).trans E15).trans E16) (by omega); have szE20 := E20.size
            have E21 := M1.ext hT1 (((E13.trans E14).trans E15).trans E16) (by omega); have szE21 := E21.size; have hB1 := (hB1.ext ((((((E2.trans E3).trans E5).trans E13).trans E14).trans E15).trans E16)).moves M1 hT1 (by omega)
            have hB2 := (hB2.ext (((((E3.trans E5).trans E13).trans E14).trans E15).trans E16)).moves M1 hT1 (by omega); have hB3 := (hB3.ext ((E14.trans E15).trans E16)).moves M1 hT1 (by omega)
            have hO3 := (hO3.ext ((E14.trans E15).trans E16)).moves M1 hT1 (by omega); have hB4 := hB4.moves M1 hT1 (by omega); have hs13 := E17.size; refine Wo_nil ?_; refine ⟨trivial, ?_⟩
            refine Wh_take 7 rfl (by kernel_rfl) (by kernel_rfl) rfl (fun _ _ => opv_fieldAddr Try.underlying25 rfl rfl Try.sizeOf23 rfl) trivial ?_; refine Wh_all (rs := [8]) (by kernel_rfl) rfl ?_; refine WhAll_cons rfl ?_ ?_
            refine Wo_st (v := v1) rfl Try.sizeOf23 rfl rfl (OwnedB.isC hQ3.toB) hB3 (by simp) (by omega) E17 ?_; rintro w14 E22 hB3 K3 hz3; have E23 := E18.wroteAt E17 E22 K3 hz3 (by omega); have szE23 := E23.size
            have E24 := E19.wroteAt E17 E22 K3 hz3 (by omega); have szE24 := E24.size; have E25 := E20.wroteAt E17 E22 K3 hz3 (by omega); have szE25 := E25.size; have E26 := E21.wroteAt E17 E22 K3 hz3 (by omega); have szE26 := E26.size
            simp only [List.set] at hB3; have hQ3 := hQ3.toB.wrote K3 (by omega); have hB1 := hB1.of_heap (K3 _ (by omega)); have hB2 := hB2.of_heap (K3 _ (by omega)); have hO3 := hO3.wrote K3 (by omega)
            have hB4 := hB4.of_heap (K3 _ (by omega)); refine Wo_nil ?_; refine ⟨trivial, ?_⟩; refine Wh_done (by kernel_rfl) ?_; refine W_region rfl ?_; refine Wo rfl (opv_move (v := .int _ _) rfl) ?_
            refine Wo rfl (opv_add rfl rfl (by omega)) ?_; refine Wo rfl (opv_assign (v := .int _ _) rfl) ?_; refine Wo_nil ?_; rotate_left; exact WhAll_nil; exact WhAll_nil; exact WhAll_nil; refine WhAll_cons rfl ?_ ?_
            refine Wo_buildSlice (ps := [(0, .int _ _)]) (cs := [_]) rfl Try.underlying23 Try.sizeOf3 Try.zeroValue3 rfl rfl rfl rfl ?_; rintro b4 w12 hb4 E16 hB4; have hlb4 := hB4.lt; have hs12 := E16.size; refine Wo_nil ?_
            refine ⟨trivial, ?_⟩; refine Wh_all (rs := [1]) (by kernel_rfl) rfl ?_; refine WhAll_cons rfl ?_ ?_; refine Wo (v := q) rfl (opv_load Try.isAgg23 rfl ((hB3.ext ((E14.trans E15).trans E16)).cell rfl)) ?_; refine Wo_nil ?_
            refine ⟨trivial, ?_⟩; refine Wh_all (rs := [6]) (by kernel_rfl) rfl ?_; refine WhAll_cons rfl ?_ ?_
            refine Wo_app1 rfl el23 rfl rfl hB4 (hQ3.toB.ext ((E14.trans E15).trans E16)) Owned.int (Nat.le_refl _) (by first | omega | (simp <;> omega)) (by omega) (by omega) (((((((E1.trans E2).trans E3).trans E5).trans E13).trans E14).trans E15).trans E16) (by omega) ?_
            have hT1 := (hQ3.toB.ext ((E14.trans E15).trans E16)); rintro v1 w13 hQ3 E17 M1; have E18 := M1.ext hT1 ((((((E2.trans E3).trans E5).trans E13).trans E14).trans E15).trans E16) (by omega); have szE18 := E18.size
            have E19 := M1.ext hT1 (((((E3.trans E5).trans E13).trans E14).trans E15).trans E16) (by omega); have szE19 := E19.size; have E20 := M1.ext hT1 ((((E5.trans E13).trans E14).trans E15).trans E16) (by omega); have szE20 := E20.size
            have E21 := M1.ext hT1 (((E13.trans E14).trans E15).trans E16) (by omega); have szE21 := E21.size; have hB1 := (hB1.ext ((((((E2.trans E3).trans E5).trans E13).trans E14).trans E15).trans E16)).moves M1 hT1 (by omega)
            have hB2 := (hB2.ext (((((E3.trans E5).trans E13).trans E14).trans E15).trans E16)).moves M1 hT1 (by omega); have hB3 := (hB3.ext ((E14.trans E15).trans E16)).moves M1 hT1 (by omega)
            have hO3 := (hO3.ext ((E14.trans E15).trans E16)).moves M1 hT1 (by omega); have hB4 := hB4.moves M1 hT1 (by omega); have hs13 := E17.size; refine Wo_nil ?_; refine ⟨trivial, ?_⟩
            refine Wh_take 7 rfl (by kernel_rfl) (by kernel_rfl) rfl (fun _ _ => opv_fieldAddr Try.underlying25 rfl rfl Try.sizeOf23 rfl) trivial ?_; refine Wh_all (rs := [8]) (by kernel_rfl) rfl ?_; refine WhAll_cons rfl ?_ ?_
            refine Wo_st (v := v1) rfl Try.sizeOf23 rfl rfl (OwnedB.isC hQ3.toB) hB3 (by simp) (by omega) E17 ?_; rintro w14 E22 hB3 K3 hz3; have E23 := E18.wroteAt E17 E22 K3 hz3 (by omega); have szE23 := E23.size
            have E24 := E19.wroteAt E17 E22 K3 hz3 (by omega); have szE24 := E24.size; have E25 := E20.wroteAt E17 E22 K3 hz3 (by omega); have szE25 := E25.size; have E26 := E21.wroteAt E17 E22 K3 hz3 (by omega); have szE26 := E26.size
            simp only [List.set] at hB3; have hQ3 := hQ3.toB.wrote K3 (by omega); have hB1 := hB1.of_heap (K3 _ (by omega)); have hB2 := hB2.of_heap (K3 _ (by omega)); have hO3 := hO3.wrote K3 (by omega)
            have hB4 := hB4.of_heap (K3 _ (by omega)); refine Wo_nil ?_; refine ⟨trivial, ?_⟩; refine Wh_done (by kernel_rfl) ?_; refine W_region rfl ?_; refine Wo rfl (opv_move (v := .int _ _) rfl) ?_
            refine Wo rfl (opv_add rfl rfl (by omega)) ?_; refine Wo rfl (opv_assign (v := .int _ _) rfl) ?_; refine Wo_nil ?_; rotate_left; exact WhAll_nil; exact WhAll_nil; exact WhAll_nil; exact WhAll_nil; exact WhAll_nil; exact WhAll_nil
            (exfalso; omega)
          · refine ⟨((j + 1, v1)), by repeat (first | exact trivial | refine And.intro rfl ?_), by repeat (first | with_reducible exact Same.refl | refine Same.upd rfl ?_ | refine Same.upds rfl ?_ | refine Same.mix rfl ?_), ?_, ?_⟩
            · exact ⟨by assumption, by have := M1.1.size; omega, by omega, by omega, by assumption, by assumption, by rw [hsn]; exact OwnedB.o (by assumption)⟩
            · simp only; omega
          · refine ⟨((j + 1, v1)), by repeat (first | exact trivial | refine And.intro rfl ?_), by repeat (first | with_reducible exact Same.refl | refine Same.upd rfl ?_ | refine Same.upds rfl ?_ | refine Same.mix rfl ?_), ?_, ?_⟩
            · exact ⟨by assumption, by have := M1.1.size; omega, by omega, by omega, by assumption, by assumption, by rw [hsn]; exact OwnedB.o (by assumption)⟩
            · simp only; omega
          · refine ⟨((j + 1, v1)), by repeat (first | exact trivial | refine And.intro rfl ?_), by repeat (first | with_reducible exact Same.refl | refine Same.upd rfl ?_ | refine Same.upds rfl ?_ | refine Same.mix rfl ?_), ?_, ?_⟩
            · exact ⟨by assumption, by have := M1.1.size; omega, by omega, by omega, by assumption, by assumption, by rw [hsn]; exact OwnedB.o (by assumption)⟩
            · simp only; omega
          · refine ⟨((j + 1, v1)), by repeat (first | exact trivial | refine And.intro rfl ?_), by repeat (first | with_reducible exact Same.refl | refine Same.upd rfl ?_ | refine Same.upds rfl ?_ | refine Same.mix rfl ?_), ?_, ?_⟩
            · exact ⟨by assumption, by have := M1.1.size; omega, by omega, by omega, by assumption, by assumption, by rw [hsn]; exact OwnedB.o (by assumption)⟩
            · simp only; omega
        · obtain rfl : j = k + p := by omega
          rw [Nat.add_sub_cancel_left] at hQ3 hwl2
          have hst : Stm (win f 0 k) (win f k p) := stm_win (by rw [hf]; exact hs.bit) hp1 (by omega)
          have hss : ∀ (x : Bool), ssV (win f 0 k) (win f k p) A B = x → ∀ (w : World) (u1 u2 v1 v2 : Value), Ints w u1 (win f 0 k) → Ints w u2 (win f k p) → Ints w v1 A → Ints w v2 B → Does Try.prog 15 [.agg #[u1, u2], .agg #[v1, v2]] w (Ret w (.bool x)) := fun x e w u1 u2 v1 v2 h1 h2 h3 h4 => e ▸ spec_SameStreams_ok w u1 u2 v1 v2 _ _ A B h1 h2 h3 h4 (by omega) (by omega) hA hB
          have hc1 := OwnedB.isC hO3
          have hc2 := OwnedB.isC hQ3.toB
          by_cases hper : Per f k p
          · have k2 := hss true (ssV_t ⟨hst, hs, by rw [bat_win hper, hf]⟩)
            have hmin := hsh.2 _ _ hper
            obtain rfl : k = a0 := by omega
            obtain rfl : p = p0 := by have := hp3 rfl; omega
            clear hss k1
            focus
              have szE13 := E13.size; have szE12 := E12.size; have szE11 := E11.size; have szE10 := E10.size; have szE9 := E9.size; have szE8 := E8.size; have szE7 := E7.size; have szE6 := E6.size; have szE5 := E5.size; have szE4 := E4.size
              have szE3 := E3.size; have szE2 := E2.size; have szE1 := E1.size; refine W_seq ?_; refine W_seq ?_; refine W_region rfl ?_; refine Wo rfl (opv_move (v := .int _ _) rfl) ?_; refine Wo rfl (opv_move (v := .int _ _) rfl) ?_
              refine Wo rfl (opv_move (v := .int _ _) rfl) ?_; refine Wo rfl (opv_add rfl rfl (by omega)) ?_; refine Wo rfl (opv_lss rfl rfl) ?_; refine Wo_nil ?_; refine W_cond_dec rfl (fun h7 => ?_) (fun h7 => ?_); (exfalso; omega)
              refine W_exit ?_; refine exitX_same ?_; refine W_seq ?_; refine W_region rfl ?_; refine Wo (v := .agg _) rfl (opv_load2 Try.isAgg25 Try.sizeOf25 rfl hB3) ?_
              refine Wo (v := .agg _) rfl (opv_load2 Try.isAgg25 Try.sizeOf25 rfl (hB1.ext (((E2.trans E3).trans E5).trans E13))) ?_
              refine Wo_call rfl (opc2 (a := .agg _) (b := .agg _) Try.call15 rfl rfl) (k2 _ _ _ _ _ ((OwnedB.read hO3)) ((Owned.read hQ3)) ((Mono.mono ((((E1.trans E2).trans E3).trans E5).trans E13) h1)) ((Mono.mono ((((E1.trans E2).trans E3).trans E5).trans E13) h2))) ?_
              rintro _ w10 ⟨rfl, E14⟩; have hs10 := E14.size; refine Wo_nil ?_; refine W_cond_true rfl ?_; refine W_seq ?_; refine W_region rfl ?_; refine Wo (v := .agg _) rfl (opv_load2 Try.isAgg25 Try.sizeOf25 rfl (hB3.ext E14)) ?_
              refine Wo_st2 rfl Try.sizeOf25 rfl rfl (by first | rfl | assumption) (by first | rfl | assumption) (hB2.ext (((E3.trans E5).trans E13).trans E14)) (by omega) (((((E1.trans E2).trans E3).trans E5).trans E13).trans E14) ?_
              rintro w11 E15 hB2 K2 hz2; have E16 := ((((E2.trans E3).trans E5).trans E13).trans E14).wroteAt (((((E1.trans E2).trans E3).trans E5).trans E13).trans E14) E15 K2 hz2 (by omega); have szE16 := E16.size
              have hB1 := (hB1.ext ((((E2.trans E3).trans E5).trans E13).trans E14)).of_heap (K2 _ (by omega)); have hB3 := (hB3.ext E14).of_heap (K2 _ (by omega)); have hO3 := (hO3.ext E14).wrote K2 (by omega)
              have hQ3 := (hQ3.toB.ext E14).wrote K2 (by omega); refine Wo_nil ?_; refine W_ret ?_
            exact ⟨_, _, _, rfl, hB2, _, _, rfl, by assumption, hO3.o.mono (by omega), hQ3.o.mono (by omega), own_disj hO3 hQ3 (by omega)⟩
          · have k2 := hss false (ssV_f (fun h => hper ((per_iff hp1).1 (h.2.2.trans hf.symm))))
            clear hss k1
            focus
              have szE13 := E13.size; have szE12 := E12.size; have szE11 := E11.size; have szE10 := E10.size; have szE9 := E9.size; have szE8 := E8.size; have szE7 := E7.size; have szE6 := E6.size; have szE5 := E5.size; have szE4 := E4.size
              have szE3 := E3.size; have szE2 := E2.size; have szE1 := E1.size; refine W_seq ?_; refine W_seq ?_; refine W_region rfl ?_; refine Wo rfl (opv_move (v := .int _ _) rfl) ?_; refine Wo rfl (opv_move (v := .int _ _) rfl) ?_
              refine Wo rfl (opv_move (v := .int _ _) rfl) ?_; refine Wo rfl (opv_add rfl rfl (by omega)) ?_; refine Wo rfl (opv_lss rfl rfl) ?_; refine Wo_nil ?_; refine W_cond_dec rfl (fun h7 => ?_) (fun h7 => ?_); (exfalso; omega)
              refine W_exit ?_; refine exitX_same ?_; refine W_seq ?_; refine W_region rfl ?_; refine Wo (v := .agg _) rfl (opv_load2 Try.isAgg25 Try.sizeOf25 rfl hB3) ?_
              refine Wo (v := .agg _) rfl (opv_load2 Try.isAgg25 Try.sizeOf25 rfl (hB1.ext (((E2.trans E3).trans E5).trans E13))) ?_
              refine Wo_call rfl (opc2 (a := .agg _) (b := .agg _) Try.call15 rfl rfl) (k2 _ _ _ _ _ ((OwnedB.read hO3)) ((Owned.read hQ3)) ((Mono.mono ((((E1.trans E2).trans E3).trans E5).trans E13) h1)) ((Mono.mono ((((E1.trans E2).trans E3).trans E5).trans E13) h2))) ?_
              rintro _ w10 ⟨rfl, E14⟩; have hs10 := E14.size; refine Wo_nil ?_; refine W_cond_false rfl ?_; refine W_skip ?_; refine W_region rfl ?_; refine Wo rfl (opv_move (v := .int _ _) rfl) ?_; refine Wo rfl (opv_add rfl rfl (by omega)) ?_
              refine Wo rfl (opv_assign (v := .int _ _) rfl) ?_; refine Wo_nil ?_
            refine ⟨(p + 1), by repeat (first | exact trivial | refine And.intro rfl ?_), by repeat (first | with_reducible exact Same.refl | refine Same.upd rfl ?_ | refine Same.upds rfl ?_ | refine Same.mix rfl ?_), ?_, ?_⟩
            · refine ⟨E5.trans (E13.trans E14), by omega, by omega, fun e => ?_⟩
              have h9 := hp3 e
              by_cases e2 : p = p0
              · subst e e2; exact absurd hsh.1 hper
              · omega
            · omega
    · obtain rfl : p = B.length + 1 := by omega
      focus
        have szE5 := E5.size; have szE4 := E4.size; have szE3 := E3.size; have szE2 := E2.size; have szE1 := E1.size; refine W_seq ?_; refine W_seq ?_; refine W_region rfl ?_; refine Wo rfl (opv_move (v := .int _ _) rfl) ?_
        refine Wo rfl (opv_fieldAddr Try.underlying25 rfl rfl Try.sizeOf23 rfl) ?_; refine Wo (v := u2) rfl (opv_load Try.isAgg23 rfl ((hB1.ext ((E2.trans E3).trans E5)).cell rfl)) ?_; refine Wo rfl (opv_len Try.underlying23 rfl h2) ?_
        refine Wo rfl (opv_leq rfl rfl) ?_; refine Wo_nil ?_; refine W_cond_dec rfl (fun h5 => ?_) (fun h5 => ?_); (exfalso; omega); refine W_exit ?_; refine exitX_same ?_; refine W_region rfl ?_
        refine Wo rfl (opv_move (v := .int _ _) rfl) ?_; refine Wo rfl (opv_add rfl rfl (by omega)) ?_; refine Wo rfl (opv_assign (v := .int _ _) rfl) ?_; refine Wo_nil ?_
      refine ⟨(a + 1), by repeat (first | exact trivial | refine And.intro rfl ?_), by repeat (first | with_reducible exact Same.refl | refine Same.upd rfl ?_ | refine Same.upds rfl ?_ | refine Same.mix rfl ?_), ?_, ?_⟩
      · refine ⟨E5, ?_⟩
        have : a ≠ a0 := fun e => by have := hp3 e; omega
        omega
      · omega
  · have k1 := hok false (decide_eq_false hs)
    have e0 : shV A B = ([], []) := if_neg hs
    rw [e0]
    clear hok
    refine fn_of_Wc Try.func53 rfl Try.results53 Try.ntmps53 rfl Try.isAgg25 Try.sizeOf25 ?_
    focus
      refine W_seq ?_; refine W_region rfl ?_; refine Wo_box rfl rfl rfl ?_; rintro b1 w1 hb1 E1 hB1; have hlb1 := hB1.lt; have hs1 := E1.size; refine Wo_alloc2 rfl flat25 ?_; rintro b2 w2 hb2 E2 hB2; have hlb2 := hB2.lt
      have hs2 := E2.size; refine Wo_nil ?_; refine W_seq ?_; refine W_seq ?_; refine W_region rfl ?_; refine Wo (v := .agg _) rfl (opv_load2 Try.isAgg25 Try.sizeOf25 rfl (hB1.ext E2)) ?_
      refine Wo_call rfl (opc1 (a := .agg _) Try.call16 rfl) (k1 _ _ _ ((Mono.mono (E1.trans E2) h1)) ((Mono.mono (E1.trans E2) h2))) ?_; rintro _ w3 ⟨rfl, E3⟩; have hs3 := E3.size; refine Wo rfl (opv_not rfl) ?_; refine Wo_nil ?_
      refine W_cond rfl (fun h3 => ?_) (fun h3 => ?_); refine W_seq ?_; refine W_region rfl ?_; refine Wo rfl (opv_build (ps := []) (cs := [_, _]) flat25 rfl rfl) ?_
      refine Wo_st2 rfl Try.sizeOf25 rfl rfl (by first | rfl | assumption) (by first | rfl | assumption) (hB2.ext E3) (by omega) ((E1.trans E2).trans E3) ?_; rintro w4 E4 hB2 K1 hz1
      have E5 := (E2.trans E3).wroteAt ((E1.trans E2).trans E3) E4 K1 hz1 (by omega); have szE5 := E5.size; have hB1 := (hB1.ext (E2.trans E3)).of_heap (K1 _ (by omega)); refine Wo_nil ?_; refine W_ret ?_; rotate_left; contradiction
    exact ⟨_, _, _, rfl, hB2, _, _, rfl, E4, Owned.nil, Owned.nil, .inr rfl⟩

end Go.Proofs.Ytlalfmialbolhaa
