/- Lemmas for FnStreamDrawn. -/
import Derived.Test.YtlalfmialbolhaaMFnStreamDrawn1
namespace Go.Proofs.Ytlalfmialbolhaa
open Go.Hs
set_option maxRecDepth 10000
set_option maxHeartbeats 4000000
set_option linter.unusedVariables false
set_option linter.unusedSimpArgs false
noncomputable def shV (A B : List Int) : List Int × List Int := if Stm A B then (shL (bat A B), shR (bat A B)) else ([], [])
theorem ssV_t {A B A' B' : List Int} (h : Stm A B ∧ Stm A' B' ∧ bat A B = bat A' B') : ssV A B A' B' = true := by unfold ssV; classical exact decide_eq_true h
theorem ssV_f {A B A' B' : List Int} (h : ¬ (Stm A B ∧ Stm A' B' ∧ bat A B = bat A' B')) : ssV A B A' B' = false := by unfold ssV; classical exact decide_eq_false h

theorem spec_ShortOf_ok (w : World) (u1 u2 : Value) (A B : List Int) (h1 : Ints w u1 A) (h2 : Ints w u2 B) (hA : A.length ≤ 4000000) (hB : B.length ≤ 4000000) : Does Try.prog 53 [.agg #[u1, u2]] w (RetS2 w 3 (shV A B).1 (shV A B).2) := by
  have hle1 := h1.le
  have hle2 := h2.le
  have hok : ∀ (x : Bool), decide (Stm A B) = x → ∀ (w : World) (u1 u2 : Value), Ints w u1 A → Ints w u2 B → Does Try.prog 16 [.agg #[u1, u2]] w (Ret w (.bool x)) := fun x e w u1 u2 h1 h2 => e ▸ StreamOk_ok w u1 u2 A B h1 h2 hA hB
  by_cases hs : Stm A B
  · have k1 := hok true (decide_eq_true hs)
    have e0 : shV A B = (shL (bat A B), shR (bat A B)) := if_pos hs
    rw [e0]
    have hsl := hs.2.2
    have hsh := hs.sh
    obtain ⟨hs1, hs2, hs3⟩ := hs.short
    obtain ⟨f, hf⟩ : ∃ f, f = bat A B := ⟨_, rfl⟩
    rw [← hf] at hsh hs1 hs2 hs3 ⊢
    obtain ⟨a0, ha0⟩ : ∃ a, a = shA f := ⟨_, rfl⟩
    obtain ⟨p0, hp0⟩ : ∃ p, p = shP f := ⟨_, rfl⟩
    have eL : shL f = win f 0 a0 := by rw [ha0]; rfl
    have eR : shR f = win f a0 p0 := by rw [ha0, hp0]; rfl
    rw [← ha0, ← hp0] at hsh
    rw [← ha0] at hs1
    rw [← hp0] at hs2 hs3
    rw [eL, eR]
    clear hok e0 eL eR ha0 hp0
    refine fn_of_Wc Try.func53 rfl Try.results53 Try.ntmps53 rfl Try.isAgg25 Try.sizeOf25 ?_
    focus
      refine W_seq ?_; refine W_region rfl ?_; refine Wo_box rfl rfl rfl ?_; rintro b1 w1 hb1 E1 hB1; have hlb1 := hB1.lt; have hs4 := E1.size; refine Wo_alloc2 rfl flat25 ?_; rintro b2 w2 hb2 E2 hB2; have hlb2 := hB2.lt
      have hs5 := E2.size; refine Wo_nil ?_; refine W_seq ?_; refine W_seq ?_; refine W_region rfl ?_; refine Wo (v := .agg _) rfl (opv_load2 Try.isAgg25 Try.sizeOf25 rfl (hB1.ext E2)) ?_
      refine Wo_call rfl (opc1 (a := .agg _) Try.call16 rfl) (k1 _ _ _ ((Mono.mono (E1.trans E2) h1)) ((Mono.mono (E1.trans E2) h2))) ?_; rintro _ w3 ⟨rfl, E3⟩; have hs6 := E3.size; refine Wo rfl (opv_not rfl) ?_; refine Wo_nil ?_
      refine W_cond rfl (fun h3 => ?_) (fun h3 => ?_); contradiction; refine W_skip ?_; refine W_seq ?_; refine W_seq ?_; refine W_region rfl ?_; refine Wo rfl (opv_assign (v := .int _ _) rfl) ?_; refine Wo_nil ?_; refine W_block ?_
    refine W_loop [3, 4, 5, 6, 7, 12, 13, 14, 15, 16, 17, 18, 19, 20, 21, 22, 23, 24, 25, 26, 27, 28, 29, 30, 31, 32, 33, 34, 35, 36, 37, 38, 39, 40, 41, 42, 43, 44, 45, 46, 47, 48, 49, 50, 51, 52, 53, 54, 55, 56, 57, 58, 59] (fun (a : Nat) => [(3, .int .i64 (a : Nat))]) (fun a w' => Ext w3 w' ∧ a ≤ a0) (fun x => a0 + 1 - x) 0 (by repeat (first | exact trivial | refine And.intro rfl ?_)) ?_ ?_
    · exact ⟨Ext.refl _, Nat.zero_le _⟩
    rintro a ρj w4 ⟨E4, ha⟩
    focus
      have szE4 := E4.size; have szE3 := E3.size; have szE2 := E2.size; have szE1 := E1.size; refine W_seq ?_; refine W_seq ?_; refine W_region rfl ?_; refine Wo rfl (opv_move (v := .int _ _) rfl) ?_
      refine Wo rfl (opv_fieldAddr Try.underlying25 rfl rfl Try.sizeOf23 rfl) ?_; refine Wo (v := u1) rfl (opv_load Try.isAgg23 rfl ((hB1.ext ((E2.trans E3).trans E4)).cell rfl)) ?_; refine Wo rfl (opv_len Try.underlying23 rfl h1) ?_
      refine Wo rfl (opv_leq rfl rfl) ?_; refine Wo_nil ?_; refine W_cond_dec rfl (fun h4 => ?_) (fun h4 => ?_); refine W_skip ?_; refine W_seq ?_; refine W_block ?_; refine W_seq ?_; refine W_region rfl ?_
      refine Wo rfl (opv_assign (v := .int _ _) rfl) ?_; refine Wo_nil ?_; refine W_block ?_; rotate_left; (exfalso; omega)
    refine W_loop [4, 5, 6, 7, 19, 20, 21, 22, 23, 24, 25, 26, 27, 28, 29, 30, 31, 32, 33, 34, 35, 36, 37, 38, 39, 40, 41, 42, 43, 44, 45, 46, 47, 48, 49, 50, 51, 52, 53, 54, 55, 56, 57, 58, 59] (fun (p : Nat) => [(4, .int .i64 (p : Nat))]) (fun p w' => Ext w3 w' ∧ 1 ≤ p ∧ p ≤ B.length + 1 ∧ (a = a0 → p ≤ p0)) (fun x => B.length + 2 - x) 1 (by repeat (first | exact trivial | refine And.intro rfl ?_)) ?_ ?_
    · exact ⟨E4, Nat.le_refl _, by omega, fun _ => hs3⟩
    rintro p ρk w5 ⟨E5, hp1, hp2, hp3⟩
    by_cases hpl : p ≤ B.length
    · focus
        have szE5 := E5.size; have szE4 := E4.size; have szE3 := E3.size; have szE2 := E2.size; have szE1 := E1.size; refine W_seq ?_; refine W_seq ?_; refine W_region rfl ?_; refine Wo rfl (opv_move (v := .int _ _) rfl) ?_
        refine Wo rfl (opv_fieldAddr Try.underlying25 rfl rfl Try.sizeOf23 rfl) ?_; refine Wo (v := u2) rfl (opv_load Try.isAgg23 rfl ((hB1.ext ((E2.trans E3).trans E5)).cell rfl)) ?_; refine Wo rfl (opv_len Try.underlying23 rfl h2) ?_
        refine Wo rfl (opv_leq rfl rfl) ?_; refine Wo_nil ?_; refine W_cond_dec rfl (fun h5 => ?_) (fun h5 => ?_); refine W_skip ?_; refine W_seq ?_; refine W_block ?_; refine W_seq ?_; refine W_region rfl ?_
        refine Wo rfl (opv_build (ps := []) (cs := [_, _]) flat25 rfl rfl) ?_; refine Wo_alloc2 rfl flat25 ?_; rintro b3 w6 hb3 E6 hB3; have hlb3 := hB3.lt; have hs7 := E6.size
        refine Wo_st2 rfl Try.sizeOf25 rfl rfl (by first | rfl | assumption) (by first | rfl | assumption) hB3 (by omega) ((((E1.trans E2).trans E3).trans E5).trans E6) ?_; rintro w7 E7 hB3 K1 hz1
        have E8 := (((E2.trans E3).trans E5).trans E6).wroteAt ((((E1.trans E2).trans E3).trans E5).trans E6) E7 K1 hz1 (by omega); have szE8 := E8.size
        have E9 := ((E3.trans E5).trans E6).wroteAt ((((E1.trans E2).trans E3).trans E5).trans E6) E7 K1 hz1 (by omega); have szE9 := E9.size
        have E10 := (E5.trans E6).wroteAt ((((E1.trans E2).trans E3).trans E5).trans E6) E7 K1 hz1 (by omega); have szE10 := E10.size; have E11 := E6.wroteAt ((((E1.trans E2).trans E3).trans E5).trans E6) E7 K1 hz1 (by omega)
        have szE11 := E11.size; have hB1 := (hB1.ext (((E2.trans E3).trans E5).trans E6)).of_heap (K1 _ (by omega)); have hB2 := (hB2.ext ((E3.trans E5).trans E6)).of_heap (K1 _ (by omega)); refine Wo_nil ?_; refine W_seq ?_
        refine W_seq ?_; refine W_region rfl ?_; refine Wo rfl (opv_assign (v := .int _ _) rfl) ?_; refine Wo_nil ?_; refine W_block ?_; rotate_left; (exfalso; omega)
      refine W_loop [6, 27, 28, 29, 30, 31, 32, 33, 34, 35, 36, 37, 38, 39] (fun (k, o) => [(6, .int .i64 (k : Nat))]) (fun (k, (o : Value)) w' => Ext w5 w' ∧ w7.heap.size ≤ w'.heap.size ∧ k ≤ a ∧ Blk w' b3 [o, .slice none 0 0] ∧ Owned w7.heap.size XI w' o (win f 0 k)) (fun x => a - x.1) (0, .slice none 0 0) (by repeat (first | exact trivial | refine And.intro rfl ?_)) ?_ ?_
      · exact ⟨E11, Nat.le_refl _, Nat.zero_le _, hB3, by simpa [win] using (Owned.nil : Owned w7.heap.size XI w7 (.slice none 0 0) [])⟩
      clear hB1 hB2 hB3
      rintro ⟨k, o⟩ ρl w8 ⟨E12, hs8, hk, hB3, hO3⟩
      have hwl := win_len (f := f) (a := 0) (p := k)
      by_cases hka : k < a
      · have b1' : ∀ (w : World) (u1 u2 : Value), Ints w u1 A → Ints w u2 B → Does Try.prog 57 [.agg #[u1, u2], .int .i64 (k : Int)] w (Ret w (.int .i64 (f k))) := fun w u1 u2 h1 h2 => by
          have := spec_BitAt_ok w u1 u2 A B h1 h2 hA hB (k : Int)
          rw [show batV A B (k : Int) = bat A B k from if_pos ⟨hs, by omega, by omega⟩, ← hf] at this; exact this
        have hsn : win f 0 (k + 1) = win f 0 k ++ [f k] := by rw [win_succ, Nat.zero_add]
        focus
          have szE12 := E12.size; have szE11 := E11.size; have szE10 := E10.size; have szE9 := E9.size; have szE8 := E8.size; have szE7 := E7.size; have szE6 := E6.size; have szE5 := E5.size; have szE4 := E4.size; have szE3 := E3.size
          have szE2 := E2.size; have szE1 := E1.size; refine W_seq ?_; refine W_seq ?_; refine W_region rfl ?_; refine Wo rfl (opv_move (v := .int _ _) rfl) ?_; refine Wo rfl (opv_move (v := .int _ _) rfl) ?_
          refine Wo rfl (opv_lss rfl rfl) ?_; refine Wo_nil ?_; refine W_cond_dec rfl (fun h6 => ?_) (fun h6 => ?_); refine W_skip ?_; refine W_seq ?_; refine W_block ?_; refine W_held (fun _ => True) mixed rfl (by kernel_rfl) ?_
          intro w9 E13 K2 hz2; have hs9 := E13.size; refine Wh_take 0 rfl (by kernel_rfl) (by kernel_rfl) rfl (fun _ _ => opv_fieldAddr Try.underlying25 rfl rfl Try.sizeOf23 rfl) trivial ?_
          refine Wh_take 3 rfl (by kernel_rfl) (by kernel_rfl) rfl (fun _ _ => opv_move (v := .int _ _) rfl) trivial ?_; refine Wh_all (rs := [1, 2]) (by kernel_rfl) rfl ?_; refine WhAll_cons rfl ?_ ?_
          refine Wo (v := o) rfl (opv_load Try.isAgg23 rfl ((hB3.ext E13).cell rfl)) ?_; refine Wo_nil ?_; refine ⟨trivial, ?_⟩; refine Wh_all (rs := [2]) (by kernel_rfl) rfl ?_; refine WhAll_cons rfl ?_ ?_
          refine Wo (v := .agg _) rfl (opv_load2 Try.isAgg25 Try.sizeOf25 rfl (hB1.ext ((((E2.trans E3).trans E5).trans E12).trans E13))) ?_; refine Wo_nil ?_; refine ⟨trivial, ?_⟩; refine Wh_all (rs := [4]) (by kernel_rfl) rfl ?_
          refine WhAll_cons rfl ?_ ?_
          refine Wo_call rfl (opc2 (a := .agg _) (b := .int _ _) Try.call57 rfl rfl) (b1' _ _ _ ((Mono.mono (((((E1.trans E2).trans E3).trans E5).trans E12).trans E13) h1)) ((Mono.mono (((((E1.trans E2).trans E3).trans E5).trans E12).trans E13) h2))) ?_
          rintro _ w10 ⟨rfl, E14⟩; have hs10 := E14.size; refine Wo_nil ?_; refine ⟨trivial, ?_⟩; refine Wh_all (rs := [5]) (by kernel_rfl) rfl ?_; refine WhAll_cons rfl ?_ ?_
          refine Wo_buildSlice (ps := [(0, .int _ _)]) (cs := [_]) rfl Try.underlying23 Try.sizeOf3 Try.zeroValue3 rfl rfl rfl rfl ?_; rintro b4 w11 hb4 E15 hB4; have hlb4 := hB4.lt; have hs11 := E15.size; refine Wo_nil ?_
          refine ⟨trivial, ?_⟩; refine Wh_all (rs := [6]) (by kernel_rfl) rfl ?_; refine WhAll_cons rfl ?_ ?_
          refine Wo_app1 rfl el23 rfl rfl hB4 (hO3.toB.ext ((E13.trans E14).trans E15)) Owned.int (Nat.le_refl _) (by first | omega | (simp <;> omega)) (by omega) (by omega) (((((((E1.trans E2).trans E3).trans E5).trans E12).trans E13).trans E14).trans E15) (by omega) ?_
          have hT1 := (hO3.toB.ext ((E13.trans E14).trans E15)); rintro v1 w12 hO3 E16 M1; have E17 := M1.ext hT1 ((((((E2.trans E3).trans E5).trans E12).trans E13).trans E14).trans E15) (by omega); have szE17 := E17.size
          have E18 := M1.ext hT1 (((((E3.trans E5).trans E12).trans E13).trans E14).trans E15) (by omega); have szE18 := E18.size; have E19 := M1.ext hT1 ((((E5.trans E12).trans E13).trans E14).trans E15) (by omega); have szE19 := E19.size
          have E20 := M1.ext hT1 (((E12.trans E13).trans E14).trans E15) (by omega); have szE20 := E20.size; have hB1 := (hB1.ext ((((((E2.trans E3).trans E5).trans E12).trans E13).trans E14).trans E15)).moves M1 hT1 (by omega)
          have hB2 := (hB2.ext (((((E3.trans E5).trans E12).trans E13).trans E14).trans E15)).moves M1 hT1 (by omega); have hB3 := (hB3.ext ((E13.trans E14).trans E15)).moves M1 hT1 (by omega); have hB4 := hB4.moves M1 hT1 (by omega)
          have hs12 := E16.size; refine Wo_nil ?_; refine ⟨trivial, ?_⟩; refine Wh_take 7 rfl (by kernel_rfl) (by kernel_rfl) rfl (fun _ _ => opv_fieldAddr Try.underlying25 rfl rfl Try.sizeOf23 rfl) trivial ?_
          refine Wh_all (rs := [8]) (by kernel_rfl) rfl ?_; refine WhAll_cons rfl ?_ ?_; refine Wo_st (v := v1) rfl Try.sizeOf23 rfl rfl (OwnedB.isC hO3.toB) hB3 (by simp) (by omega) E16 ?_; rintro w13 E21 hB3 K3 hz3
          have E22 := E17.wroteAt E16 E21 K3 hz3 (by omega); have szE22 := E22.size; have E23 := E18.wroteAt E16 E21 K3 hz3 (by omega); have szE23 := E23.size; have E24 := E19.wroteAt E16 E21 K3 hz3 (by omega); have szE24 := E24.size
          have E25 := E20.wroteAt E16 E21 K3 hz3 (by omega); have szE25 := E25.size; simp only [List.set] at hB3; have hO3 := hO3.toB.wrote K3 (by omega); have hB1 := hB1.of_heap (K3 _ (by omega)); have hB2 := hB2.of_heap (K3 _ (by omega))
          have hB4 := hB4.of_heap (K3 _ (by omega)); refine Wo_nil ?_; refine ⟨trivial, ?_⟩; refine Wh_done (by kernel_rfl) ?_; refine W_region rfl ?_; refine Wo rfl (opv_move (v := .int _ _) rfl) ?_
          refine Wo rfl (opv_add rfl rfl (by omega)) ?_; refine Wo rfl (opv_assign (v := .int _ _) rfl) ?_; refine Wo_nil ?_; rotate_left; exact WhAll_nil; exact WhAll_nil; exact WhAll_nil; exact WhAll_nil; exact WhAll_nil
          refine WhAll_cons rfl ?_ ?_; refine Wo (v := .agg _) rfl (opv_load2 Try.isAgg25 Try.sizeOf25 rfl (hB1.ext ((((E2.trans E3).trans E5).trans E12).trans E13))) ?_; refine Wo_nil ?_; refine ⟨trivial, ?_⟩
          refine Wh_all (rs := [1, 4]) (by kernel_rfl) rfl ?_; refine WhAll_cons rfl ?_ ?_; refine Wo (v := o) rfl (opv_load Try.isAgg23 rfl ((hB3.ext E13).cell rfl)) ?_; refine Wo_nil ?_; refine ⟨trivial, ?_⟩
          refine Wh_all (rs := [4]) (by kernel_rfl) rfl ?_; refine WhAll_cons rfl ?_ ?_
          refine Wo_call rfl (opc2 (a := .agg _) (b := .int _ _) Try.call57 rfl rfl) (b1' _ _ _ ((Mono.mono (((((E1.trans E2).trans E3).trans E5).trans E12).trans E13) h1)) ((Mono.mono (((((E1.trans E2).trans E3).trans E5).trans E12).trans E13) h2))) ?_
          rintro _ w10 ⟨rfl, E14⟩; have hs10 := E14.size; refine Wo_nil ?_; refine ⟨trivial, ?_⟩; refine Wh_all (rs := [5]) (by kernel_rfl) rfl ?_; refine WhAll_cons rfl ?_ ?_
          refine Wo_buildSlice (ps := [(0, .int _ _)]) (cs := [_]) rfl Try.underlying23 Try.sizeOf3 Try.zeroValue3 rfl rfl rfl rfl ?_; rintro b4 w11 hb4 E15 hB4; have hlb4 := hB4.lt; have hs11 := E15.size; refine Wo_nil ?_
          refine ⟨trivial, ?_⟩; refine Wh_all (rs := [6]) (by kernel_rfl) rfl ?_; refine WhAll_cons rfl ?_ ?_
          refine Wo_app1 rfl el23 rfl rfl hB4 (hO3.toB.ext ((E13.trans E14).trans E15)) Owned.int (Nat.le_refl _) (by first | omega | (simp <;> omega)) (by omega) (by omega) (((((((E1.trans E2).trans E3).trans E5).trans E12).trans E13).trans E14).trans E15) (by omega) ?_
          have hT1 := (hO3.toB.ext ((E13.trans E14).trans E15)); rintro v1 w12 hO3 E16 M1; have E17 := M1.ext hT1 ((((((E2.trans E3).trans E5).trans E12).trans E13).trans E14).trans E15) (by omega); have szE17 := E17.size
          have E18 := M1.ext hT1 (((((E3.trans E5).trans E12).trans E13).trans E14).trans E15) (by omega); have szE18 := E18.size; have E19 := M1.ext hT1 ((((E5.trans E12).trans E13).trans E14).trans E15) (by omega); have szE19 := E19.size
          have E20 := M1.ext hT1 (((E12.trans E13).trans E14).trans E15) (by omega); have szE20 := E20.size; have hB1 := (hB1.ext ((((((E2.trans E3).trans E5).trans E12).trans E13).trans E14).trans E15)).moves M1 hT1 (by omega)
          have hB2 := (hB2.ext (((((E3.trans E5).trans E12).trans E13).trans E14).trans E15)).moves M1 hT1 (by omega); have hB3 := (hB3.ext ((E13.trans E14).trans E15)).moves M1 hT1 (by omega); have hB4 := hB4.moves M1 hT1 (by omega)
          have hs12 := E16.size; refine Wo_nil ?_; refine ⟨trivial, ?_⟩; refine Wh_take 7 rfl (by kernel_rfl) (by kernel_rfl) rfl (fun _ _ => opv_fieldAddr Try.underlying25 rfl rfl Try.sizeOf23 rfl) trivial ?_
          refine Wh_all (rs := [8]) (by kernel_rfl) rfl ?_; refine WhAll_cons rfl ?_ ?_; refine Wo_st (v := v1) rfl Try.sizeOf23 rfl rfl (OwnedB.isC hO3.toB) hB3 (by simp) (by omega) E16 ?_; rintro w13 E21 hB3 K3 hz3
          have E22 := E17.wroteAt E16 E21 K3 hz3 (by omega); have szE22 := E22.size; have E23 := E18.wroteAt E16 E21 K3 hz3 (by omega); have szE23 := E23.size; have E24 := E19.wroteAt E16 E21 K3 hz3 (by omega); have szE24 := E24.size
          have E25 := E20.wroteAt E16 E21 K3 hz3 (by omega); have szE25 := E25.size; simp only [List.set] at hB3; have hO3 := hO3.toB.wrote K3 (by omega); have hB1 := hB1.of_heap (K3 _ (by omega)); have hB2 := hB2.of_heap (K3 _ (by omega))
          have hB4 := hB4.of_heap (K3 _ (by omega)); refine Wo_nil ?_; refine ⟨trivial, ?_⟩; refine Wh_done (by kernel_rfl) ?_; refine W_region rfl ?_; refine Wo rfl (opv_move (v := .int _ _) rfl) ?_
          refine Wo rfl (opv_add rfl rfl (by omega)) ?_; refine Wo rfl (opv_assign (v := .int _ _) rfl) ?_; refine Wo_nil ?_; rotate_left; exact WhAll_nil; exact WhAll_nil; exact WhAll_nil; exact WhAll_nil; refine WhAll_cons rfl ?_ ?_
          refine Wo_call rfl (opc2 (a := .agg _) (b := .int _ _) Try.call57 rfl rfl) (b1' _ _ _ ((Mono.mono (((((E1.trans E2).trans E3).trans E5).trans E12).trans E13) h1)) ((Mono.mono (((((E1.trans E2).trans E3).trans E5).trans E12).trans E13) h2))) ?_
          rintro _ w10 ⟨rfl, E14⟩; have hs10 := E14.size; refine Wo_nil ?_; refine ⟨trivial, ?_⟩; refine Wh_all (rs := [1, 5]) (by kernel_rfl) rfl ?_; refine WhAll_cons rfl ?_ ?_
          refine Wo (v := o) rfl (opv_load Try.isAgg23 rfl ((hB3.ext (E13.trans E14)).cell rfl)) ?_; refine Wo_nil ?_; refine ⟨trivial, ?_⟩; refine Wh_all (rs := [5]) (by kernel_rfl) rfl ?_; refine WhAll_cons rfl ?_ ?_
          refine Wo_buildSlice (ps := [(0, .int _ _)]) (cs := [_]) rfl Try.underlying23 Try.sizeOf3 Try.zeroValue3 rfl rfl rfl rfl ?_; rintro b4 w11 hb4 E15 hB4; have hlb4 := hB4.lt; have hs11 := E15.size; refine Wo_nil ?_
          refine ⟨trivial, ?_⟩; refine Wh_all (rs := [6]) (by kernel_rfl) rfl ?_; refine WhAll_cons rfl ?_ ?_
          refine Wo_app1 rfl el23 rfl rfl hB4 (hO3.toB.ext ((E13.trans E14).trans E15)) Owned.int (Nat.le_refl _) (by first | omega | (simp <;> omega)) (by omega) (by omega) (((((((E1.trans E2).trans E3).trans E5).trans E12).trans E13).trans E14).trans E15) (by omega) ?_
          have hT1 := (hO3.toB.ext ((E13.trans E14).trans E15)); rintro v1 w12 hO3 E16 M1; have E17 := M1.ext hT1 ((((((E2.trans E3).trans E5).trans E12).trans E13).trans E14).trans E15) (by omega); have szE17 := E17.size
          have E18 := M1.ext hT1 (((((E3.trans E5).trans E12).trans E13).trans E14).trans E15) (by omega); have szE18 := E18.size; have E19 := M1.ext hT1 ((((E5.trans E12).trans E13).trans E14).trans E15) (by omega); have szE19 := E19.size
          have E20 := M1.ext hT1 (((E12.trans E13).trans E14).trans E15) (by omega); have szE20 := E20.size; have hB1 := (hB1.ext ((((((E2.trans E3).trans E5).trans E12).trans E13).trans E14).trans E15)).moves M1 hT1 (by omega)
          have hB2 := (hB2.ext (((((E3.trans E5).trans E12).trans E13).trans E14).trans E15)).moves M1 hT1 (by omega); have hB3 := (hB3.ext ((E13.trans E14).trans E15)).moves M1 hT1 (by omega); have hB4 := hB4.moves M1 hT1 (by omega)
          have hs12 := E16.size; refine Wo_nil ?_; refine ⟨trivial, ?_⟩; refine Wh_take 7 rfl (by kernel_rfl) (by kernel_rfl) rfl (fun _ _ => opv_fieldAddr Try.underlying25 rfl rfl Try.sizeOf23 rfl) trivial ?_
          refine Wh_all (rs := [8]) (by kernel_rfl) rfl ?_; refine WhAll_cons rfl ?_ ?_; refine Wo_st (v := v1) rfl Try.sizeOf23 rfl rfl (OwnedB.isC hO3.toB) hB3 (by simp) (by omega) E16 ?_; rintro w13 E21 hB3 K3 hz3
          have E22 := E17.wroteAt E16 E21 K3 hz3 (by omega); have szE22 := E22.size; have E23 := E18.wroteAt E16 E21 K3 hz3 (by omega); have szE23 := E23.size; have E24 := E19.wroteAt E16 E21 K3 hz3 (by omega); have szE24 := E24.size
          have E25 := E20.wroteAt E16 E21 K3 hz3 (by omega); have szE25 := E25.size; simp only [List.set] at hB3; have hO3 := hO3.toB.wrote K3 (by omega); have hB1 := hB1.of_heap (K3 _ (by omega)); have hB2 := hB2.of_heap (K3 _ (by omega))
          have hB4 := hB4.of_heap (K3 _ (by omega)); refine Wo_nil ?_; refine ⟨trivial, ?_⟩; refine Wh_done (by kernel_rfl) ?_; refine W_region rfl ?_; refine Wo rfl (opv_move (v := .int _ _) rfl) ?_
          refine Wo rfl (opv_add rfl rfl (by omega)) ?_; refine Wo rfl (opv_assign (v := .int _ _) rfl) ?_; refine Wo_nil ?_; rotate_left; exact WhAll_nil; exact WhAll_nil; exact WhAll_nil; refine WhAll_cons rfl ?_ ?_
          refine Wo_buildSlice (ps := [(0, .int _ _)]) (cs := [_]) rfl Try.underlying23 Try.sizeOf3 Try.zeroValue3 rfl rfl rfl rfl ?_; rintro b4 w11 hb4 E15 hB4; have hlb4 := hB4.lt; have hs11 := E15.size; refine Wo_nil ?_
          refine ⟨trivial, ?_⟩; refine Wh_all (rs := [1]) (by kernel_rfl) rfl ?_; refine WhAll_cons rfl ?_ ?_; refine Wo (v := o) rfl (opv_load Try.isAgg23 rfl ((hB3.ext ((E13.trans E14).trans E15)).cell rfl)) ?_; refine Wo_nil ?_
          refine ⟨trivial, ?_⟩; refine Wh_all (rs := [6]) (by kernel_rfl) rfl ?_; refine WhAll_cons rfl ?_ ?_
          refine Wo_app1 rfl el23 rfl rfl hB4 (hO3.toB.ext ((E13.trans E14).trans E15)) Owned.int (Nat.le_refl _) (by first | omega | (simp <;> omega)) (by omega) (by omega) (((((((E1.trans E2).trans E3).trans E5).trans E12).trans E13).trans E14).trans E15) (by omega) ?_
          have hT1 := (hO3.toB.ext ((E13.trans E14).trans E15)); rintro v1 w12 hO3 E16 M1; have E17 := M1.ext hT1 ((((((E2.trans E3).trans E5).trans E12).trans E13).trans E14).trans E15) (by omega); have szE17 := E17.size
          have E18 := M1.ext hT1 (((((E3.trans E5).trans E12).trans E13).trans E14).trans E15) (by omega); have szE18 := E18.size; have E19 := M1.ext hT1 ((((E5.trans E12).trans E13).trans E14).trans E15) (by omega); have szE19 := E19.size
          have E20 := M1.ext hT1 (((E12.trans E13).trans E14).trans E15) (by omega); have szE20 := E20.size; have hB1 := (hB1.ext ((((((E2.trans E3).trans E5).trans E12).trans E13).trans E14).trans E15)).moves M1 hT1 (by omega)
          have hB2 := (hB2.ext (((((E3.trans E5).trans E12).trans E13).trans E14).trans E15)).moves M1 hT1 (by omega); have hB3 := (hB3.ext ((E13.trans E14).trans E15)).moves M1 hT1 (by omega); have hB4 := hB4.moves M1 hT1 (by omega)
          have hs12 := E16.size; refine Wo_nil ?_; refine ⟨trivial, ?_⟩; refine Wh_take 7 rfl (by kernel_rfl) (by kernel_rfl) rfl (fun _ _ => opv_fieldAddr Try.underlying25 rfl rfl Try.sizeOf23 rfl) trivial ?_
          refine Wh_all (rs := [8]) (by kernel_rfl) rfl ?_; refine WhAll_cons rfl ?_ ?_; refine Wo_st (v := v1) rfl Try.sizeOf23 rfl rfl (OwnedB.isC hO3.toB) hB3 (by simp) (by omega) E16 ?_; rintro w13 E21 hB3 K3 hz3
          have E22 := E17.wroteAt E16 E21 K3 hz3 (by omega); have szE22 := E22.size; have E23 := E18.wroteAt E16 E21 K3 hz3 (by omega); have szE23 := E23.size; have E24 := E19.wroteAt E16 E21 K3 hz3 (by omega); have szE24 := E24.size
          have E25 := E20.wroteAt E16 E21 K3 hz3 (by omega); have szE25 := E25.size; simp only [List.set] at hB3; have hO3 := hO3.toB.wrote K3 (by omega); have hB1 := hB1.of_heap (K3 _ (by omega)); have hB2 := hB2.of_heap (K3 _ (by omega))
          have hB4 := hB4.of_heap (K3 _ (by omega)); refine Wo_nil ?_; refine ⟨trivial, ?_⟩; refine Wh_done (by kernel_rfl) ?_; refine W_region rfl ?_; refine Wo rfl (opv_move (v := .int _ _) rfl) ?_
          refine Wo rfl (opv_add rfl rfl (by omega)) ?_; refine Wo rfl (opv_assign (v := .int _ _) rfl) ?_; refine Wo_nil ?_; rotate_left; exact WhAll_nil; exact WhAll_nil; exact WhAll_nil; exact WhAll_nil; exact WhAll_nil; exact WhAll_nil
          (exfalso; omega)
        · refine ⟨((k + 1, v1)), by repeat (first | exact trivial | refine And.intro rfl ?_), by repeat (first | with_reducible exact Same.refl | refine Same.upd rfl ?_ | refine Same.upds rfl ?_ | refine Same.mix rfl ?_), ?_, ?_⟩
          · exact ⟨by assumption, by have := M1.1.size; omega, by omega, by assumption, by rw [hsn]; exact OwnedB.o (by assumption)⟩
          · simp only; omega
        · refine ⟨((k + 1, v1)), by repeat (first | exact trivial | refine And.intro rfl ?_), by repeat (first | with_reducible exact Same.refl | refine Same.upd rfl ?_ | refine Same.upds rfl ?_ | refine Same.mix rfl ?_), ?_, ?_⟩
          · exact ⟨by assumption, by have := M1.1.size; omega, by omega, by assumption, by rw [hsn]; exact OwnedB.o (by assumption)⟩
          · simp only; omega
        · refine ⟨((k + 1, v1)), by repeat (first | exact trivial | refine And.intro rfl ?_), by repeat (first | with_reducible exact Same.refl | refine Same.upd rfl ?_ | refine Same.upds rfl ?_ | refine Same.mix rfl ?_), ?_, ?_⟩
          · exact ⟨by assumption, by have := M1.1.size; omega, by omega, by assumption, by rw [hsn]; exact OwnedB.o (by assumption)⟩
          · simp only; omega
        · refine ⟨((k + 1, v1)), by repeat (first | exact trivial | refine And.intro rfl ?_), by repeat (first | with_reducible exact Same.refl | refine Same.upd rfl ?_ | refine Same.upds rfl ?_ | refine Same.mix rfl ?_), ?_, ?_⟩
          · exact ⟨by assumption, by have := M1.1.size; omega, by omega, by assumption, by rw [hsn]; exact OwnedB.o (by assumption)⟩
          · simp only; omega
      · obtain rfl : k = a := by omega
        focus
          have szE12 := E12.size; have szE11 := E11.size; have szE10 := E10.size; have szE9 := E9.size; have szE8 := E8.size; have szE7 := E7.size; have szE6 := E6.size; have szE5 := E5.size; have szE4 := E4.size; have szE3 := E3.size
          have szE2 := E2.size; have szE1 := E1.size; refine W_seq ?_; refine W_seq ?_; refine W_region rfl ?_; refine Wo rfl (opv_move (v := .int _ _) rfl) ?_; refine Wo rfl (opv_move (v := .int _ _) rfl) ?_
          refine Wo rfl (opv_lss rfl rfl) ?_; refine Wo_nil ?_; refine W_cond_dec rfl (fun h6 => ?_) (fun h6 => ?_); (exfalso; omega); refine W_exit ?_; refine exitX_same ?_; refine W_seq ?_; refine W_seq ?_; refine W_region rfl ?_
          refine Wo rfl (opv_move (v := .int _ _) rfl) ?_; refine Wo rfl (opv_assign (v := .int _ _) rfl) ?_; refine Wo_nil ?_; refine W_block ?_
        refine W_loop [7, 41, 42, 43, 44, 45, 46, 47, 48, 49, 50, 51, 52, 53, 54, 55] (fun (j, q) => [(7, .int .i64 (j : Nat))]) (fun (j, (q : Value)) w' => Ext w5 w' ∧ w8.heap.size ≤ w'.heap.size ∧ k ≤ j ∧ j ≤ k + p ∧ Blk w' b3 [o, q] ∧ OwnedB w7.heap.size w8.heap.size XI w' o (win f 0 k) ∧ Owned w8.heap.size XI w' q (win f k (j - k))) (fun x => k + p - x.1) (k, .slice none 0 0) (by repeat (first | exact trivial | refine And.intro rfl ?_)) ?_ ?_
        · exact ⟨E12, Nat.le_refl _, Nat.le_refl _, by omega, hB3, hO3.toB, by rw [Nat.sub_self]; simpa [win] using (Owned.nil : Owned w8.heap.size XI w8 (.slice none 0 0) [])⟩
        clear hB3 hO3
        rintro ⟨j, q⟩ ρm w9 ⟨E13, hs9, hkj, hj, hB3, hO3, hQ3⟩
        have hwl2 := win_len (f := f) (a := k) (p := j - k)
        by_cases hjl : j < k + p
        · have b1' : ∀ (w : World) (u1 u2 : Value), Ints w u1 A → Ints w u2 B → Does Try.prog 57 [.agg #[u1, u2], .int .i64 (j : Int)] w (Ret w (.int .i64 (f j))) := fun w u1 u2 h1 h2 => by
            have := spec_BitAt_ok w u1 u2 A B h1 h2 hA hB (j : Int)
            rw [show batV A B (j : Int) = bat A B j from if_pos ⟨hs, by omega, by omega⟩, ← hf] at this; exact this
          have hsn : win f k (j + 1 - k) = win f k (j - k) ++ [f j] := by
            rw [show j + 1 - k = (j - k) + 1 by omega, win_succ, show k + (j - k) = j by omega]
          focus
            have szE13 := E13.size; have szE12 := E12.size; have szE11 := E11.size; have szE10 := E10.size; have szE9 := E9.size; have szE8 := E8.size; have szE7 := E7.size; have szE6 := E6.size; have szE5 := E5.size; have szE4 := E4.size
            have szE3 := E3.size; have szE2 := E2.size; have szE1 := E1.size; refine W_seq ?_; refine W_seq ?_; refine W_region rfl ?_; refine Wo rfl (opv_move (v := .int _ _) rfl) ?_; refine Wo rfl (opv_move (v := .int _ _) rfl) ?_
            refine Wo rfl (opv_move (v := .int _ _) rfl) ?_; refine Wo rfl (opv_add rfl rfl (by omega)) ?_; refine Wo rfl (opv_lss rfl rfl) ?_; refine Wo_nil ?_; refine W_cond_dec rfl (fun h7 => ?_) (fun h7 => ?_); refine W_skip ?_
            refine W_seq ?_; refine W_block ?_; refine W_held (fun _ => True) mixed rfl (by kernel_rfl) ?_; intro w10 E14 K2 hz2; have hs10 := E14.size
            refine Wh_take 0 rfl (by kernel_rfl) (by kernel_rfl) rfl (fun _ _ => opv_fieldAddr Try.underlying25 rfl rfl Try.sizeOf23 rfl) trivial ?_
            refine Wh_take 3 rfl (by kernel_rfl) (by kernel_rfl) rfl (fun _ _ => opv_move (v := .int _ _) rfl) trivial ?_; refine Wh_all (rs := [1, 2]) (by kernel_rfl) rfl ?_; refine WhAll_cons rfl ?_ ?_
            refine Wo (v := q) rfl (opv_load Try.isAgg23 rfl ((hB3.ext E14).cell rfl)) ?_; refine Wo_nil ?_; refine ⟨trivial, ?_⟩; refine Wh_all (rs := [2]) (by kernel_rfl) rfl ?_; refine WhAll_cons rfl ?_ ?_
            refine Wo (v := .agg _) rfl (opv_load2 Try.isAgg25 Try.sizeOf25 rfl (hB1.ext ((((E2.trans E3).trans E5).trans E13).trans E14))) ?_; refine Wo_nil ?_; refine ⟨trivial, ?_⟩; refine Wh_all (rs := [4]) (by kernel_rfl) rfl ?_
            refine WhAll_cons rfl ?_ ?_
            refine Wo_call rfl (opc2 (a := .agg _) (b := .int _ _) Try.call57 rfl rfl) (b1' _ _ _ ((Mono.mono (((((E1.trans E2).trans E3).trans E5).trans E13).trans E14) h1)) ((Mono.mono (((((E1.trans E2).trans E3).trans E5).trans E13).trans E14) h2))) ?_
            rintro _ w11 ⟨rfl, E15⟩; have hs11 := E15.size; refine Wo_nil ?_; refine ⟨trivial, ?_⟩; refine Wh_all (rs := [5]) (by kernel_rfl) rfl ?_; refine WhAll_cons rfl ?_ ?_
            refine Wo_buildSlice (ps := [(0, .int _ _)]) (cs := [_]) rfl Try.underlying23 Try.sizeOf3 Try.zeroValue3 rfl rfl rfl rfl ?_; rintro b4 w12 hb4 E16 hB4; have hlb4 := hB4.lt; have hs12 := E16.size; refine Wo_nil ?_
            refine ⟨trivial, ?_⟩; refine Wh_all (rs := [6]) (by kernel_rfl) rfl ?_; refine WhAll_cons rfl ?_ ?_
            refine Wo_app1 rfl el23 rfl rfl hB4 (hQ3.toB.ext ((E14.trans E15).trans E16)) Owned.int (Nat.le_refl _) (by first | omega | (simp <;> omega)) (by omega) (by omega) (((((((E1.trans E2).trans E3).trans E5).trans E13).trans E14).trans E15).trans E16) (by omega) ?_
            have hT1 := (hQ3.toB.ext ((E14.trans E15).trans E16)); rintro v1 w13 hQ3 E17 M1; have E18 := M1.ext hT1 ((((((E2.trans E3).trans E5).trans E13).trans E14).trans E15).trans E16) (by omega); have szE18 := E18.size
            have E19 := M1.ext hT1 (((((E3.trans E5).trans E13).trans E14).trans E15).trans E16) (by omega); have szE19 := E19.size; have E20 := M1.ext hT1 ((((E5.trans E13).trans E14).trans E15).trans E16) (by omega); have szE20 := E20.size
            have E21 := M1.ext hT1 (((E13.trans E14).trans E15).trans E16) (by omega); have szE21 := E21.size; have hB1 := (hB1.ext ((((((E2.trans E3).trans E5).trans E13).trans E14).trans E15).trans E16)).moves M1 hT1 (by omega)
            have hB2 := (hB2.ext (((((E3.trans E5).trans E13).trans E14).trans E15).trans E16)).moves M1 hT1 (by omega); have hB3 := (hB3.ext ((E14.trans E15).trans E16)).moves M1 hT1 (by omega)
            have hO3 := (hO3.ext ((E14.trans E15).trans E16)).moves M1 hT1 (by omega); have hB4 := hB4.moves M1 hT1 (by omega); have hs13 := E17.size; refine Wo_nil ?_; refine ⟨trivial, ?_⟩
            refine Wh_take 7 rfl (by kernel_rfl) (by kernel_rfl) rfl (fun _ _ => opv_fieldAddr Try.underlying25 rfl rfl Try.sizeOf23 rfl) trivial ?_; refine Wh_all (rs := [8]) (by kernel_rfl) rfl ?_; refine WhAll_cons rfl ?_ ?_
            refine Wo_st (v := v1) rfl Try.sizeOf23 rfl rfl (OwnedB.isC hQ3.toB) hB3 (by simp) (by omega) E17 ?_; rintro w14 E22 hB3 K3 hz3; have E23 := E18.wroteAt E17 E22 K3 hz3 (by omega); have szE23 := E23.size
            have E24 := E19.wroteAt E17 E22 K3 hz3 (by omega); have szE24 := E24.size; have E25 := E20.wroteAt E17 E22 K3 hz3 (by omega); have szE25 := E25.size; have E26 := E21.wroteAt E17 E22 K3 hz3 (by omega); have szE26 := E26.size
            simp only [List.set] at hB3; have hQ3 := hQ3.toB.wrote K3 (by omega); have hB1 := hB1.of_heap (K3 _ (by omega)); have hB2 := hB2.of_heap (K3 _ (by omega)); have hO3 := hO3.wrote K3 (by omega)
            have hB4 := hB4.of_heap (K3 _ (by omega)); refine Wo_nil ?_; refine ⟨trivial, ?_⟩; refine Wh_done (by kernel_rfl) ?_; refine W_region rfl ?_; refine Wo rfl (opv_move (v := .int _ _) rfl) ?_
            refine Wo rfl (opv_add rfl rfl (by omega)) ?_; refine Wo rfl (opv_assign (v := .int _ _) rfl) ?_; refine Wo_nil ?_; rotate_left; exact WhAll_nil; exact WhAll_nil; exact WhAll_nil; exact WhAll_nil; exact WhAll_nil
            refine WhAll_cons rfl ?_ ?_; refine Wo (v := .agg _) rfl (opv_load2 Try.isAgg25 Try.sizeOf25 rfl (hB1.ext ((((E2.trans E3).trans E5).trans E13).trans E14))) ?_; refine Wo_nil ?_; refine ⟨trivial, ?_⟩
            refine Wh_all (rs := [1, 4]) (by kernel_rfl) rfl ?_; refine WhAll_cons rfl ?_ ?_; refine Wo (v := q) rfl (opv_load Try.isAgg23 rfl ((hB3.ext E14).cell rfl)) ?_; refine Wo_nil ?_; refine ⟨trivial, ?_⟩
            refine Wh_all (rs := [4]) (by kernel_rfl) rfl ?_; refine WhAll_cons rfl ?_ ?_
            refine Wo_call rfl (opc2 (a := .agg _) (b := .int _ _) Try.call57 rfl rfl) (b1' _ _ _ ((Mono.mono (((((E1.trans E2).trans E3).trans E5).trans E13).trans E14) h1)) ((Mono.mono (((((E1.trans E2).trans E3).trans E5).trans E13).trans E14) h2))) ?_
            rintro _ w11 ⟨rfl, E15⟩; have hs11 := E15.size; refine Wo_nil ?_; refine ⟨trivial, ?_⟩; refine Wh_all (rs := [5]) (by kernel_rfl) rfl ?_; refine WhAll_cons rfl ?_ ?_
            refine Wo_buildSlice (ps := [(0, .int _ _)]) (cs := [_]) rfl Try.underlying23 Try.sizeOf3 Try.zeroValue3 rfl rfl rfl rfl ?_; rintro b4 w12 hb4 E16 hB4; have hlb4 := hB4.lt; have hs12 := E16.size; refine Wo_nil ?_
            refine ⟨trivial, ?_⟩; refine Wh_all (rs := [6]) (by kernel_rfl) rfl ?_; refine WhAll_cons rfl ?_ ?_
            refine Wo_app1 rfl el23 rfl rfl hB4 (hQ3.toB.ext ((E14.trans E15).trans E16)) Owned.int (Nat.le_refl _) (by first | omega | (simp <;> omega)) (by omega) (by omega) (((((((E1.trans E2).trans E3).trans E5).trans E13).trans E14).trans E15).trans E16) (by omega) ?_
            have hT1 := (hQ3.toB.ext ((E14.trans E15).trans E16)); rintro v1 w13 hQ3 E17 M1; have E18 := M1.ext hT1 ((((((E2.trans E3).trans E5).trans E13).trans E14).trans E15).trans E16) (by omega); have szE18 := E18.size
            have E19 := M1.ext hT1 (((((E3.trans E5).trans E13).trans E14).trans E15).trans E16) (by omega); have szE19 := E19.size; have E20 := M1.ext hT1 ((((E5.trans E13).trans E14).trans E15).trans E16) (by omega); have szE20 := E20.size
            have E21 := M1.ext hT1 (((E13.trans E14).trans E15).trans E16) (by omega); have szE21 := E21.size; have hB1 := (hB1.ext ((((((E2.trans E3).trans E5).trans E13).trans E14).trans E15).trans E16)).moves M1 hT1 (by omega)
            have hB2 := (hB2.ext (((((E3.trans E5).trans E13).trans E14).trans E15).trans E16)).moves M1 hT1 (by omega); have hB3 := (hB3.ext ((E14.trans E15).trans E16)).moves M1 hT1 (by omega)
            have hO3 := (hO3.ext ((E14.trans E15).trans E16)).moves M1 hT1 (by omega); have hB4 := hB4.moves M1 hT1 (by omega); have hs13 := E17.size; refine Wo_nil ?_; refine ⟨trivial, ?_⟩
            refine Wh_take 7 rfl (by kernel_rfl) (by kernel_rfl) rfl (fun _ _ => opv_fieldAddr Try.underlying25 rfl rfl Try.sizeOf23 rfl) trivial ?_; refine Wh_all (rs := [8]) (by kernel_rfl) rfl ?_; refine WhAll_cons rfl ?_ ?_
            refine Wo_st (v := v1) rfl Try.sizeOf23 rfl rfl (OwnedB.isC hQ3.toB) hB3 (by simp) (by omega) E17 ?_; rintro w14 E22 hB3 K3 hz3; have E23 := E18.wroteAt E17 E22 K3 hz3 (by omega); have szE23 := E23.size
            have E24 := E19.wroteAt E17 E22 K3 hz3 (by omega); have szE24 := E24.size; have E25 := E20.wroteAt E17 E22 K3 hz3 (by omega); have szE25 := E25.size; have E26 := E21.wroteAt E17 E22 K3 hz3 (by omega); have szE26 := E26.size
            simp only [List.set] at hB3; have hQ3 := hQ3.toB.wrote K3 (by omega); have hB1 := hB1.of_heap (K3 _ (by omega)); have hB2 := hB2.of_heap (K3 _ (by omega)); have hO3 := hO3.wrote K3 (by omega)
            have hB4 := hB4.of_heap (K3 _ (by omega)); refine Wo_nil ?_; refine ⟨trivial, ?_⟩; refine Wh_done (by kernel_rfl) ?_; refine W_region rfl ?_; refine Wo rfl (opv_move (v := .int _ _) rfl) ?_
            refine Wo rfl (opv_add rfl rfl (by omega)) ?_; refine Wo rfl (opv_assign (v := .int _ _) rfl) ?_; refine Wo_nil ?_; rotate_left; exact WhAll_nil; exact WhAll_nil; exact WhAll_nil; exact WhAll_nil; refine WhAll_cons rfl ?_ ?_
            refine Wo_call rfl (opc2 (a := .agg _) (b := .int _ _) Try.call57 rfl rfl) (b1' _ _ _ ((Mono.mono (((((E1.trans E2).trans E3).trans E5).trans E13).trans E14) h1)) ((Mono.mono (((((E1.trans E2).trans E3).trans E5).trans E13).trans E14) h2))) ?_
            rintro _ w11 ⟨rfl, E15⟩; have hs11 := E15.size; refine Wo_nil ?_; refine ⟨trivial, ?_⟩; refine Wh_all (rs := [1, 5]) (by kernel_rfl) rfl ?_; refine WhAll_cons rfl ?_ ?_
            refine Wo (v := q) rfl (opv_load Try.isAgg23 rfl ((hB3.ext (E14.trans E15)).cell rfl)) ?_; refine Wo_nil ?_; refine ⟨trivial, ?_⟩; refine Wh_all (rs := [5]) (by kernel_rfl) rfl ?_; refine WhAll_cons rfl ?_ ?_
            refine Wo_buildSlice (ps := [(0, .int _ _)]) (cs := [_]) rfl Try.underlying23 Try.sizeOf3 Try.zeroValue3 rfl rfl rfl rfl ?_; rintro b4 w12 hb4 E16 hB4; have hlb4 := hB4.lt; have hs12 := E16.size; refine Wo_nil ?_
            refine ⟨trivial, ?_⟩; refine Wh_all (rs := [6]) (by kernel_rfl) rfl ?_; refine WhAll_cons rfl ?_ ?_
            refine Wo_app1 rfl el23 rfl rfl hB4 (hQ3.toB.ext ((E14.trans E15).trans E16)) Owned.int (Nat.le_refl _) (by first | omega | (simp <;> omega)) (by omega) (by omega) (((((((E1.trans E2).trans E3).trans E5).trans E13).trans E14).trans E15).trans E16) (by omega) ?_
            have hT1 := (hQ3.toB.ext ((E14.trans E15).trans E16)); rintro v1 w13 hQ3 E17 M1; have E18 := M1.ext hT1 ((((((E2.trans E3).trans E5).trans E13).trans E14).trans E15).trans E16) (by omega); have szE18 := E18.size
            have E19 := M1.ext hT1 (((((E3.trans E5).trans E13).trans E14).trans E15).trans E16) (by omega); have szE19 := E19.size; have E20 := M1.ext hT1 ((((E5.trans E13).trans E14).trans E15).trans E16) (by omega); have szE20 := E20.size
            have E21 := M1.ext hT1 (((E13.trans E14).trans E15).trans E16) (by omega); have szE21 := E21.size; have hB1 := (hB1.ext ((((((E2.trans E3).trans E5).trans E13).trans E14).trans E15).trans E16)).moves M1 hT1 (by omega)
            have hB2 := (hB2.ext (((((E3.trans E5).trans E13).trans E14).trans E15).trans E16)).moves M1 hT1 (by omega); have hB3 := (hB3.ext ((E14.trans E15).trans E16)).moves M1 hT1 (by omega)
            have hO3 := (hO3.ext ((E14.trans E15).trans E16)).moves M1 hT1 (by omega); have hB4 := hB4.moves M1 hT1 (by omega); have hs13 := E17.size; refine Wo_nil ?_; refine ⟨trivial, ?_⟩
            refine Wh_take 7 rfl (by kernel_rfl) (by kernel_rfl) rfl (fun _ _ => opv_fieldAddr Try.underlying25 rfl rfl Try.sizeOf23 rfl) trivial ?_; refine Wh_all (rs := [8]) (by kernel_rfl) rfl ?_; refine WhAll_cons rfl ?_ ?_
            refine Wo_st (v := v1) rfl Try.sizeOf23 rfl rfl (OwnedB.isC hQ3.toB) hB3 (by simp) (by omega) E17 ?_; rintro w14 E22 hB3 K3 hz3; have E23 := E18.wroteAt E17 E22 K3 hz3 (by omega); have szE23 := E23.size
            have E24 := E19.wroteAt E17 E22 K3 hz3 (by omega); have szE24 := E24.size; have E25 := E20.wroteAt E17 E22 K3 hz3 (by omega); have szE25 := E25.size; have E26 := E21.wroteAt E17 E22 K3 hz3 (by omega); have szE26 := E26.size
            simp only [List.set] at hB3; have hQ3 := hQ3.toB.wrote K3 (by omega); have hB1 := hB1.of_heap (K3 _ (by omega)); have hB2 := hB2.of_heap (K3 _ (by omega)); have hO3 := hO3.wrote K3 (by omega)
            have hB4 := hB4.of_heap (K3 _ (by omega)); refine Wo_nil ?_; refine ⟨trivial, ?_⟩; refine Wh_done (by kernel_rfl) ?_; refine W_region rfl ?_; refine Wo rfl (opv_move (v := .int _ _) rfl) ?_
            refine Wo rfl (opv_add rfl rfl (by omega)) ?_; refine Wo rfl (opv_assign (v := .int _ _) rfl) ?_; refine Wo_nil ?_; rotate_left; exact WhAll_nil; exact WhAll_nil; exact WhAll_nil; refine WhAll_cons rfl ?_ ?_
            refine Wo_buildSlice (ps := [(0, .int _ _)]) (cs := [_]) rfl Try.underlying23 Try.sizeOf3 Try.zeroValue3 rfl rfl rfl rfl ?_; rintro b4 w12 hb4 E16 hB4; have hlb4 := hB4.lt; have hs12 := E16.size; refine Wo_nil ?_
            refine ⟨trivial, ?_⟩; refine Wh_all (rs := [1]) (by kernel_rfl) rfl ?_; refine WhAll_cons rfl ?_ ?_; refine Wo (v := q) rfl (opv_load Try.isAgg23 rfl ((hB3.ext ((E14.trans E15).trans E16)).cell rfl)) ?_; refine Wo_nil ?_
            refine ⟨trivial, ?_⟩; refine Wh_all (rs := [6]) (by kernel_rfl) rfl ?_; refine WhAll_cons rfl ?_ ?_
            refine Wo_app1 rfl el23 rfl rfl hB4 (hQ3.toB.ext ((E14.trans E15).trans E16)) Owned.int (Nat.le_refl _) (by first | omega | (simp <;> omega)) (by omega) (by omega) (((((((E1.trans E2).trans E3).trans E5).trans E13).trans E14).trans E15).trans E16) (by omega) ?_
            have hT1 := (hQ3.toB.ext ((E14.trans E15).trans E16)); rintro v1 w13 hQ3 E17 M1; have E18 := M1.ext hT1 ((((((E2.trans E3).trans E5).trans E13).trans E14).trans E15).trans E16) (by omega); have szE18 := E18.size
            have E19 := M1.ext hT1 (((((E3.trans E5).trans E13).trans E14).trans E15).trans E16) (by omega); have szE19 := E19.size; have E20 := M1.ext hT1 ((((E5.trans E13).trans E14).trans E15).trans E16) (by omega); have szE20 := E20.size
            have E21 := M1.ext hT1 (((E13.trans E14).trans E15).trans E16) (by omega); have szE21 := E21.size; have hB1 := (hB1.ext ((((((E2.trans E3).trans E5).trans E13).trans E14).trans E15).trans E16)).moves M1 hT1 (by omega)
            have hB2 := (hB2.ext (((((E3.trans E5).trans E13).trans E14).trans E15).trans E16)).moves M1 hT1 (by omega); have hB3 := (hB3.ext ((E14.trans E15).trans E16)).moves M1 hT1 (by omega)
            have hO3 := (hO3.ext ((E14.trans E15).trans E16)).moves M1 hT1 (by omega); have hB4 := hB4.moves M1 hT1 (by omega); have hs13 := E17.size; refine Wo_nil ?_; refine ⟨trivial, ?_⟩
            refine Wh_take 7 rfl (by kernel_rfl) (by kernel_rfl) rfl (fun _ _ => opv_fieldAddr Try.underlying25 rfl rfl Try.sizeOf23 rfl) trivial ?_; refine Wh_all (rs := [8]) (by kernel_rfl) rfl ?_; refine WhAll_cons rfl ?_ ?_
            refine Wo_st (v := v1) rfl Try.sizeOf23 rfl rfl (OwnedB.isC hQ3.toB) hB3 (by simp) (by omega) E17 ?_; rintro w14 E22 hB3 K3 hz3; have E23 := E18.wroteAt E17 E22 K3 hz3 (by omega); have szE23 := E23.size
            have E24 := E19.wroteAt E17 E22 K3 hz3 (by omega); have szE24 := E24.size; have E25 := E20.wroteAt E17 E22 K3 hz3 (by omega); have szE25 := E25.size; have E26 := E21.wroteAt E17 E22 K3 hz3 (by omega); have szE26 := E26.size
            simp only [List.set] at hB3; have hQ3 := hQ3.toB.wrote K3 (by omega); have hB1 := hB1.of_heap (K3 _ (by omega)); have hB2 := hB2.of_heap (K3 _ (by omega)); have hO3 := hO3.wrote K3 (by omega)
            have hB4 := hB4.of_heap (K3 _ (by omega)); refine Wo_nil ?_; refine ⟨trivial, ?_⟩; refine Wh_done (by kernel_rfl) ?_; refine W_region rfl ?_; refine Wo rfl (opv_move (v := .int _ _) rfl) ?_
            refine Wo rfl (opv_add rfl rfl (by omega)) ?_; refine Wo rfl (opv_assign (v := .int _ _) rfl) ?_; refine Wo_nil ?_; rotate_left; exact WhAll_nil; exact WhAll_nil; exact WhAll_nil; exact WhAll_nil; exact WhAll_nil; exact WhAll_nil
            (exfalso; omega)
          · refine ⟨((j + 1, v1)), by repeat (first | exact trivial | refine And.intro rfl ?_), by repeat (first | with_reducible exact Same.refl | refine Same.upd rfl ?_ | refine Same.upds rfl ?_ | refine Same.mix rfl ?_), ?_, ?_⟩
            · exact ⟨by assumption, by have := M1.1.size; omega, by omega, by omega, by assumption, by assumption, by rw [hsn]; exact OwnedB.o (by assumption)⟩
            · simp only; omega
          · refine ⟨((j + 1, v1)), by repeat (first | exact trivial | refine And.intro rfl ?_), by repeat (first | with_reducible exact Same.refl | refine Same.upd rfl ?_ | refine Same.upds rfl ?_ | refine Same.mix rfl ?_), ?_, ?_⟩
            · exact ⟨by assumption, by have := M1.1.size; omega, by omega, by omega, by assumption, by assumption, by rw [hsn]; exact OwnedB.o (by assumption)⟩
            · simp only; omega
          · refine ⟨((j + 1, v1)), by repeat (first | exact trivial | refine And.intro rfl ?_), by repeat (first | with_reducible exact Same.refl | refine Same.upd rfl ?_ | refine Same.upds rfl ?_ | refine Same.mix rfl ?_), ?_, ?_⟩
            · exact ⟨by assumption, by have := M1.1.size; omega, by omega, by omega, by assumption, by assumption, by rw [hsn]; exact OwnedB.o (by assumption)⟩
            · simp only; omega
          · refine ⟨((j + 1, v1)), by repeat (first | exact trivial | refine And.intro rfl ?_), by repeat (first | with_reducible exact Same.refl | refine Same.upd rfl ?_ | refine Same.upds rfl ?_ | refine Same.mix rfl ?_), ?_, ?_⟩
            · exact ⟨by assumption, by have := M1.1.size; omega, by omega, by omega, by assumption, by assumption, by rw [hsn]; exact OwnedB.o (by assumption)⟩
            · simp only; omega
        · obtain rfl : j = k + p := by omega
          rw [Nat.add_sub_cancel_left] at hQ3 hwl2
          have hst : Stm (win f 0 k) (win f k p) := stm_win (by rw [hf]; exact hs.bit) hp1 (by omega)
          have hss : ∀ (x : Bool), ssV (win f 0 k) (win f k p) A B = x → ∀ (w : World) (u1 u2 v1 v2 : Value), Ints w u1 (win f 0 k) → Ints w u2 (win f k p) → Ints w v1 A → Ints w v2 B → Does Try.prog 15 [.agg #[u1, u2], .agg #[v1, v2]] w (Ret w (.bool x)) := fun x e w u1 u2 v1 v2 h1 h2 h3 h4 => e ▸ spec_SameStreams_ok w u1 u2 v1 v2 _ _ A B h1 h2 h3 h4 (by omega) (by omega) hA hB
          have hc1 := OwnedB.isC hO3
          have hc2 := OwnedB.isC hQ3.toB
          by_cases hper : Per f k p
          · have k2 := hss true (ssV_t ⟨hst, hs, by rw [bat_win hper, hf]⟩)
            have hmin := hsh.2 _ _ hper
            obtain rfl : k = a0 := by omega
            obtain rfl : p = p0 := by have := hp3 rfl; omega
            clear hss k1
            focus
              have szE13 := E13.size; have szE12 := E12.size; have szE11 := E11.size; have szE10 := E10.size; have szE9 := E9.size; have szE8 := E8.size; have szE7 := E7.size; have szE6 := E6.size; have szE5 := E5.size; have szE4 := E4.size
              have szE3 := E3.size; have szE2 := E2.size; have szE1 := E1.size; refine W_seq ?_; refine W_seq ?_; refine W_region rfl ?_; refine Wo rfl (opv_move (v := .int _ _) rfl) ?_; refine Wo rfl (opv_move (v := .int _ _) rfl) ?_
              refine Wo rfl (opv_move (v := .int _ _) rfl) ?_; refine Wo rfl (opv_add rfl rfl (by omega)) ?_; refine Wo rfl (opv_lss rfl rfl) ?_; refine Wo_nil ?_; refine W_cond_dec rfl (fun h7 => ?_) (fun h7 => ?_); (exfalso; omega)
              refine W_exit ?_; refine exitX_same ?_; refine W_seq ?_; refine W_region rfl ?_; refine Wo (v := .agg _) rfl (opv_load2 Try.isAgg25 Try.sizeOf25 rfl hB3) ?_
              refine Wo (v := .agg _) rfl (opv_load2 Try.isAgg25 Try.sizeOf25 rfl (hB1.ext (((E2.trans E3).trans E5).trans E13))) ?_
              refine Wo_call rfl (opc2 (a := .agg _) (b := .agg _) Try.call15 rfl rfl) (k2 _ _ _ _ _ ((OwnedB.read hO3)) ((Owned.read hQ3)) ((Mono.mono ((((E1.trans E2).trans E3).trans E5).trans E13) h1)) ((Mono.mono ((((E1.trans E2).trans E3).trans E5).trans E13) h2))) ?_
              rintro _ w10 ⟨rfl, E14⟩; have hs10 := E14.size; refine Wo_nil ?_; refine W_cond_true rfl ?_; refine W_seq ?_; refine W_region rfl ?_; refine Wo (v := .agg _) rfl (opv_load2 Try.isAgg25 Try.sizeOf25 rfl (hB3.ext E14)) ?_
              refine Wo_st2 rfl Try.sizeOf25 rfl rfl (by first | rfl | assumption) (by first | rfl | assumption) (hB2.ext (((E3.trans E5).trans E13).trans E14)) (by omega) (((((E1.trans E2).trans E3).trans E5).trans E13).trans E14) ?_
              rintro w11 E15 hB2 K2 hz2; have E16 := ((((E2.trans E3).trans E5).trans E13).trans E14).wroteAt (((((E1.trans E2).trans E3).trans E5).trans E13).trans E14) E15 K2 hz2 (by omega); have szE16 := E16.size
              have hB1 := (hB1.ext ((((E2.trans E3).trans E5).trans E13).trans E14)).of_heap (K2 _ (by omega)); have hB3 := (hB3.ext E14).of_heap (K2 _ (by omega)); have hO3 := (hO3.ext E14).wrote K2 (by omega)
              have hQ3 := (hQ3.toB.ext E14).wrote K2 (by omega); refine Wo_nil ?_; refine W_ret ?_
            exact ⟨_, _, _, rfl, hB2, _, _, rfl, by assumption, hO3.o.mono (by omega), hQ3.o.mono (by omega), own_disj hO3 hQ3 (by omega)⟩
          · have k2 := hss false (ssV_f (fun h => hper ((per_iff hp1).1 (h.2.2.trans hf.symm))))
            clear hss k1
            focus
              have szE13 := E13.size; have szE12 := E12.size; have szE11 := E11.size; have szE10 := E10.size; have szE9 := E9.size; have szE8 := E8.size; have szE7 := E7.size; have szE6 := E6.size; have szE5 := E5.size; have szE4 := E4.size
              have szE3 := E3.size; have szE2 := E2.size; have szE1 := E1.size; refine W_seq ?_; refine W_seq ?_; refine W_region rfl ?_; refine Wo rfl (opv_move (v := .int _ _) rfl) ?_; refine Wo rfl (opv_move (v := .int _ _) rfl) ?_
              refine Wo rfl (opv_move (v := .int _ _) rfl) ?_; refine Wo rfl (opv_add rfl rfl (by omega)) ?_; refine Wo rfl (opv_lss rfl rfl) ?_; refine Wo_nil ?_; refine W_cond_dec rfl (fun h7 => ?_) (fun h7 => ?_); (exfalso; omega)
              refine W_exit ?_; refine exitX_same ?_; refine W_seq ?_; refine W_region rfl ?_; refine Wo (v := .agg _) rfl (opv_load2 Try.isAgg25 Try.sizeOf25 rfl hB3) ?_
              refine Wo (v := .agg _) rfl (opv_load2 Try.isAgg25 Try.sizeOf25 rfl (hB1.ext (((E2.trans E3).trans E5).trans E13))) ?_
              refine Wo_call rfl (opc2 (a := .agg _) (b := .agg _) Try.call15 rfl rfl) (k2 _ _ _ _ _ ((OwnedB.read hO3)) ((Owned.read hQ3)) ((Mono.mono ((((E1.trans E2).trans E3).trans E5).trans E13) h1)) ((Mono.mono ((((E1.trans E2).trans E3).trans E5).trans E13) h2))) ?_
              rintro _ w10 ⟨rfl, E14⟩; have hs10 := E14.size; refine Wo_nil ?_; refine W_cond_false rfl ?_; refine W_skip ?_; refine W_region rfl ?_; refine Wo rfl (opv_move (v := .int _ _) rfl) ?_; refine Wo rfl (opv_add rfl rfl (by omega)) ?_
              refine Wo rfl (opv_assign (v := .int _ _) rfl) ?_; refine Wo_nil ?_
            refine ⟨(p + 1), by repeat (first | exact trivial | refine And.intro rfl ?_), by repeat (first | with_reducible exact Same.refl | refine Same.upd rfl ?_ | refine Same.upds rfl ?_ | refine Same.mix rfl ?_), ?_, ?_⟩
            · refine ⟨E5.trans (E13.trans E14), by omega, by omega, fun e => ?_⟩
              have h9 := hp3 e
              by_cases e2 : p = p0
              · subst e e2; exact absurd hsh.1 hper
              · omega
            · omega
    · obtain rfl : p = B.length + 1 := by omega
      focus
        have szE5 := E5.size; have szE4 := E4.size; have szE3 := E3.size; have szE2 := E2.size; have szE1 := E1.size; refine W_seq ?_; refine W_seq ?_; refine W_region rfl ?_; refine Wo rfl (opv_move (v := .int _ _) rfl) ?_
        refine Wo rfl (opv_fieldAddr Try.underlying25 rfl rfl Try.sizeOf23 rfl) ?_; refine Wo (v := u2) rfl (opv_load Try.isAgg23 rfl ((hB1.ext ((E2.trans E3).trans E5)).cell rfl)) ?_; refine Wo rfl (opv_len Try.underlying23 rfl h2) ?_
        refine Wo rfl (opv_leq rfl rfl) ?_; refine Wo_nil ?_; refine W_cond_dec rfl (fun h5 => ?_) (fun h5 => ?_); (exfalso; omega); refine W_exit ?_; refine exitX_same ?_; refine W_region rfl ?_
        refine Wo rfl (opv_move (v := .int _ _) rfl) ?_; refine Wo rfl (opv_add rfl rfl (by omega)) ?_; refine Wo rfl (opv_assign (v := .int _ _) rfl) ?_; refine Wo_nil ?_
      refine ⟨(a + 1), by repeat (first | exact trivial | refine And.intro rfl ?_), by repeat (first | with_reducible exact Same.refl | refine Same.upd rfl ?_ | refine Same.upds rfl ?_ | refine Same.mix rfl ?_), ?_, ?_⟩
      · refine ⟨E5, ?_⟩
        have : a ≠ a0 := fun e => by have := hp3 e; omega
        omega
      · omega
  · have k1 := hok false (decide_eq_false hs)
    have e0 : shV A B = ([], []) := if_neg hs
    rw [e0]
    clear hok
    refine fn_of_Wc Try.func53 rfl Try.results53 Try.ntmps53 rfl Try.isAgg25 Try.sizeOf25 ?_
    focus
      refine W_seq ?_; refine W_region rfl ?_; refine Wo_box rfl rfl rfl ?_; rintro b1 w1 hb1 E1 hB1; have hlb1 := hB1.lt; have hs1 := E1.size; refine Wo_alloc2 rfl flat25 ?_; rintro b2 w2 hb2 E2 hB2; have hlb2 := hB2.lt
      have hs2 := E2.size; refine Wo_nil ?_; refine W_seq ?_; refine W_seq ?_; refine W_region rfl ?_; refine Wo (v := .agg _) rfl (opv_load2 Try.isAgg25 Try.sizeOf25 rfl (hB1.ext E2)) ?_
      refine Wo_call rfl (opc1 (a := .agg _) Try.call16 rfl) (k1 _ _ _ ((Mono.mono (E1.trans E2) h1)) ((Mono.mono (E1.trans E2) h2))) ?_; rintro _ w3 ⟨rfl, E3⟩; have hs3 := E3.size; refine Wo rfl (opv_not rfl) ?_; refine Wo_nil ?_
      refine W_cond rfl (fun h3 => ?_) (fun h3 => ?_); refine W_seq ?_; refine W_region rfl ?_; refine Wo rfl (opv_build (ps := []) (cs := [_, _]) flat25 rfl rfl) ?_
      refine Wo_st2 rfl Try.sizeOf25 rfl rfl (by first | rfl | assumption) (by first | rfl | assumption) (hB2.ext E3) (by omega) ((E1.trans E2).trans E3) ?_; rintro w4 E4 hB2 K1 hz1
      have E5 := (E2.trans E3).wroteAt ((E1.trans E2).trans E3) E4 K1 hz1 (by omega); have szE5 := E5.size; have hB1 := (hB1.ext (E2.trans E3)).of_heap (K1 _ (by omega)); refine Wo_nil ?_; refine W_ret ?_; rotate_left; contradiction
    exact ⟨_, _, _, rfl, hB2, _, _, rfl, E4, Owned.nil, Owned.nil, .inr rfl⟩

end Go.Proofs.Ytlalfmialbolhaa
set_option linter.unusedVariables false
namespace Go.Hs
section
variable {α : Type} {X : World → List Nat → Value → α → Prop} {w : World} {lo hi b o n c c' k : Nat} {e : TypeId}
theorem XAll_take : ∀ (k : Nat) {fs : List (List Nat)} {cs : List Value} {xs : List α}, XAll X w fs cs xs → XAll X w (fs.take k) (cs.take k) (xs.take k)
  | 0, fs, cs, xs, _ => by simp [XAll]
  | k + 1, f :: fs, c :: cs, x :: xs, h => ⟨h.1, XAll_take k h.2⟩
  | k + 1, [], [], [], _ => trivial
  | _ + 1, [], _ :: _, _, h => h.elim
  | _ + 1, [], [], _ :: _, h => h.elim
  | _ + 1, _ :: _, [], _, h => h.elim
  | _ + 1, _ :: _, _ :: _, [], h => h.elim
theorem XInt_flat' : ∀ {fs : List (List Nat)} {cs : List Value} {xs : List Int}, XAll XInt w fs cs xs → fs.flatten = []
  | [], _, _, _ => rfl
  | f :: fs, c :: cs, x :: xs, h => by rw [List.flatten_cons, h.1.1, XInt_flat' h.2]; rfl
  | _ :: _, [], _, h => h.elim
  | _ :: _, _ :: _, [], h => h.elim
theorem OwnedB.pre {xs : List Int} (h : OwnedB lo hi (XSl e XInt) w (.slice (some ⟨b, 0, none⟩) n c) xs) (hk : k ≤ n) : OwnedB lo hi (XSl e XInt) w (.slice (some ⟨b, 0, none⟩) k c) (xs.take k) := by
  obtain ⟨fp, h1, h2, cs, fps, h3, rfl, h5⟩ := h
  have hf := XInt_flat' h5
  have hf2 := XInt_flat' (XAll_take k h5)
  obtain ⟨h4, h6⟩ := h3
  rcases h6 with ⟨h7, _⟩ | ⟨g, cap, cur, h7, h8, h9, h10, h11, h12, h13⟩
  · cases h7
  · injection h7 with e1 e2 e3
    injection e1 with e1
    injection e1 with e1 _ _
    subst e1 e2 e3
    refine ⟨_, h1, h2, cs.take k, fps.take k, ⟨?_, .inr ⟨b, c, cur, ?_, h8, h9, by rw [List.length_take]; omega, h11, h12, ?_⟩⟩, by rw [hf, hf2]; rfl, XAll_take k h5⟩
    · rw [List.length_take, List.length_take, h4]; omega
    · rw [List.length_take, Nat.min_eq_left (by omega)]
    · rw [List.length_take, ← h13, List.take_take, Nat.mul_one, Nat.mul_one, Nat.min_eq_left (by omega)]
theorem OwnedB.preA {pa : Option Addr} {xs : List Int} (h : OwnedB lo hi (XSl e XInt) w (.slice pa n c) xs) (hk : k ≤ n) : OwnedB lo hi (XSl e XInt) w (.slice pa k c) (xs.take k) := by
  obtain ⟨fp, h1, h2, cs, fps, h3, rfl, h5⟩ := id h
  rcases h3.2 with ⟨h7, h8⟩ | ⟨g, cap, cur, h7, _⟩
  · injection h7 with e1 e2 e3
    subst e1 e2 e3
    obtain rfl : k = 0 := by omega
    rw [List.take_of_length_le (by omega)]; exact h
  · injection h7 with e1 e2 e3
    subst e1
    exact OwnedB.pre h hk
theorem own_rng {v : Value} {xs : List α} (h : OwnedB lo hi (XSl e X) w v xs) (hv : v.ownBlock = some k) : lo ≤ k ∧ k < hi := by
  obtain ⟨fp, h1, h2, cs, fps, h3, rfl, h5⟩ := h
  exact h2 k (by simp [hv])
theorem Ints_drop {xs : List Int} (h : ESl EInt w (.slice (some ⟨b, o, none⟩) n c) xs) (hk : k ≤ n) : ESl EInt w (.slice (some ⟨b, o + k, none⟩) (n - k) c') (xs.drop k) := by
  obtain ⟨a, c1, e1, hle, hr⟩ := h
  injection e1 with e1 e2 e3
  subst e1 e2
  refine ⟨some ⟨b, o + k, none⟩, c', by rw [List.length_drop], by rw [List.length_drop]; omega, ?_⟩
  rcases hr with rfl | ⟨b', o', e4, hr⟩
  · exact .inl (by simp)
  · injection e4 with e4
    injection e4 with e4 e5 _
    subst e4 e5
    refine .inr ⟨b, o + k, rfl, fun i hi => ?_⟩
    rw [List.length_drop] at hi
    obtain ⟨u, h1, h2⟩ := hr (k + i) (by omega)
    refine ⟨u, ?_, ?_⟩
    · rw [show o + k + i = o + (k + i) by omega]; exact h1
    · rw [List.getElem_drop]; exact h2
theorem Ints_take {xs : List Int} (h : ESl EInt w (.slice (some ⟨b, o, none⟩) n c) xs) (hk : k ≤ n) : ESl EInt w (.slice (some ⟨b, o, none⟩) k c') (xs.take k) := by
  obtain ⟨a, c1, e1, hle, hr⟩ := h
  injection e1 with e1 e2 e3
  subst e1 e2
  refine ⟨some ⟨b, o, none⟩, c', by rw [List.length_take, Nat.min_eq_left hk], by rw [List.length_take]; omega, ?_⟩
  rcases hr with rfl | ⟨b', o', e4, hr⟩
  · exact .inl (by simp)
  · injection e4 with e4
    injection e4 with e4 e5 _
    subst e4 e5
    refine .inr ⟨b, o, rfl, fun i hi => ?_⟩
    rw [List.length_take] at hi
    obtain ⟨u, h1, h2⟩ := hr i (by omega)
    exact ⟨u, h1, by rw [List.getElem_take]; exact h2⟩
end
/-- In the midst: what a piece of code leaves, told anew. -/
theorem W_mid {α : Type} {P : Program} {n : Nat} {c : Code} {N : Env → World → Prop} {X : Nat → Env → World → Prop} {R : Env → World → Prop} {ρ : Env} {w : World} (D : List Nat) (S : α → List (Nat × Value)) (I : α → World → Prop)
    (h : W P n c (fun ρ' w' => ∃ x', Slots ρ' (S x') ∧ Same D ρ ρ' ∧ I x' w') X R ρ w) (h2 : ∀ (x : α) (ρj : Env) (w' : World), I x w' → N (upds (mix D ρj ρ) (S x)) w') : W P n c N X R ρ w := by
  unfold W at *
  intro a ha
  refine Go.wp_mono (h a ha) fun e a w q => ?_
  cases e with
  | normal =>
    obtain ⟨ρ', hR, x', hS, hD, hI⟩ := q
    refine ⟨ρ', hR, ?_⟩
    have := h2 x' ρ' w hI
    rw [mix_same hD, upds_self hS] at this; exact this
  | ret => exact q
  | exit i => exact q
  | goto l => exact q
  | panic ch => exact q
  | outgrown => exact q
end Go.Hs
set_option linter.unusedVariables false
set_option linter.unusedSimpArgs false
namespace Go.Hs
section
variable {P : Program} {n : Nat} {N : Env → World → Prop} {ρ : Env} {w w0 : World} {all : Array Oper} {rest : List Oper}
  {d : Nat} {ty t el : TypeId} {pos : String} {after : Array Edge} {g : Option (Nat × Bool)} {x y : Operand} {v : Value} {zs cs : List Value} {ps : List (Nat × Value)} {b i : Nat}

theorem Wo_buildSliceH {k : Nat} {parts : Array (Nat × Operand)} {z : Value} (hw : wantedE all ⟨some d, .buildSlice t k parts, ty, pos, after, g⟩ ρ = true) (ht : P.underlying t = some (.slice el)) (hs : ∀ w, (sizeOf el).run P w = .ok 1 w)
    (hz : ∀ w, (zeroValue el).run P w = .ok z w) (h1 : isCell z = true) (hb : (Nat.ble 1 k && Nat.ble k 1000) = true) (hp : parts.toList.map (fun p => (p.1, evalE ρ p.2)) = ps) (hc : fillF (List.replicate k z) ps = some cs)
    (hk : ∀ b w1, w.heap.size ≤ b → Ext w w1 → Blk w1 b cs → w1.heap[b]? = some (.cells cs.toArray el (0, 0)) → Wops P n all rest N (upd ρ d (.slice (some ⟨b, 0, none⟩) k k)) w1) :
    Wops P n all (⟨some d, .buildSlice t k parts, ty, pos, after, g⟩ :: rest) N ρ w := by
  have hb' : 1 ≤ k ∧ k ≤ 1000 := by simpa using hb
  have e : (Array.map (fun x => match x with | (i, x) => (i, evalE ρ x)) parts).toList = ps := by rw [← hp]; simp
  have hr : (Array.map (fun i => (#[z] : Array Value)[i % (#[z] : Array Value).size]!) (Array.range k)) = (List.replicate k z).toArray := by
    apply Array.ext'
    simp only [Array.toList_map, Array.toList_range]
    apply List.ext_getElem
    · simp
    · intro i h1 h2; simp [Nat.mod_one]
  have hf := fill_eq (k := k) (place := fun i => some (i * 1, 1)) (fun i hi => by simp) ps (List.replicate k z) cs (by simp) hc
  have hz0 : z.cells = #[z] := isCell_cells h1
  refine Wo_w hw (show OpW P (.buildSlice t k parts) ty ρ w (.slice (some ⟨w.heap.size, 0, none⟩) k k) (w.alloc (.cells cs.toArray el)) from ?_) (hk _ _ (Nat.le_refl _) ((Ext.refl w).alloc _) (Blk.new w cs el) (heap_alloc_new w _))
  simp only [OpW, execOp, Instr.buildSlice, Sem.run_bind, Result.andThen_ok, run_und ht, hs, Nat.mul_one]
  rw [if_neg (by omega), if_neg (by omega)]
  simp only [Sem.run_bind, hz, Result.andThen_ok, Sem.run_pure, hz0, e]
  rw [hr]
  simp only [Nat.mul_one] at hf
  rw [hf]
  simp [newRow]
end
end Go.Hs
namespace Go.Proofs.Ytlalfmialbolhaa
open Go.Hs
set_option maxRecDepth 10000
set_option maxHeartbeats 4000000
set_option linter.unusedVariables false
set_option linter.unusedSimpArgs false
theorem gen_sh {A B : List Int} (hB : 1 ≤ B.length) : IsSh (bat A B) (shA (bat A B)) (shP (bat A B)) ∧ shA (bat A B) ≤ A.length ∧ shP (bat A B) ≤ B.length ∧ 1 ≤ shP (bat A B) := by
  have hper := per_bat (A := A) hB
  obtain ⟨a, p, hs⟩ := IsSh.ex hper
  obtain ⟨e1, e2⟩ := hs.eq
  rw [e1, e2]
  have := hs.2 _ _ hper
  exact ⟨hs, this.1, this.2, hs.1.1⟩
theorem win_drop {f : Nat → Int} {a p k : Nat} (h : k ≤ p) : (win f a p).drop k = win f (a + k) (p - k) := by
  refine List.ext_getElem (by rw [List.length_drop, win_len, win_len]) fun i h1 h2 => ?_
  rw [win_len] at h2
  rw [List.getElem_drop, win_at (by omega), win_at h2]
  congr 1; omega
theorem win_get {f : Nat → Int} {a p k i : Nat} (h : i < (win f a p).length) (e : i = k) : (win f a p)[i] = f (a + k) := by
  subst e
  rw [win_len] at h
  exact win_at h

theorem shortOf_ok (w : World) (u1 u2 : Value) (A B : List Int) (h1 : Ints w u1 A) (h2 : Ints w u2 B) (hA : A.length ≤ 100) (hB1 : 1 ≤ B.length) (hB : B.length ≤ 100) : Does Try.prog 55 [.agg #[u1, u2]] w (RetS2 w 3 (shL (bat A B)) (shR (bat A B))) := by
  have hle1 := h1.le
  have hle2 := h2.le
  obtain ⟨hsh, hs1, hs2, hs3⟩ := gen_sh (A := A) hB1
  have hwA := win_bat0 (A := A) (B := B)
  have hwB := win_bat (A := A) hB1
  have hper := per_bat (A := A) hB1
  obtain ⟨f, hf⟩ : ∃ f, f = bat A B := ⟨_, rfl⟩
  rw [← hf] at hsh hs1 hs2 hs3 hwA hwB hper ⊢
  obtain ⟨a0, ha0⟩ : ∃ a, a = shA f := ⟨_, rfl⟩
  obtain ⟨p0, hp0⟩ : ∃ p, p = shP f := ⟨_, rfl⟩
  have eL : shL f = win f 0 a0 := by rw [ha0]; rfl
  have eR : shR f = win f a0 p0 := by rw [ha0, hp0]; rfl
  rw [← ha0, ← hp0] at hsh
  rw [← ha0] at hs1
  rw [← hp0] at hs2 hs3
  rw [eL, eR]
  clear eL eR ha0 hp0
  refine fn_of_Wc Try.func55 rfl Try.results55 Try.ntmps55 rfl Try.isAgg25 Try.sizeOf25 ?_
  focus
    refine W_seq ?_; refine W_region rfl ?_; refine Wo_box rfl rfl rfl ?_; rintro b1 w1 hb1 E1 hB2; have hlb1 := hB2.lt; have hs4 := E1.size; refine Wo_alloc2 rfl flat25 ?_; rintro b2 w2 hb2 E2 hB3; have hlb2 := hB3.lt
    have hs5 := E2.size; refine Wo_nil ?_; refine W_seq ?_; refine W_region rfl ?_; refine Wo_lit0 XInt rfl el23 Try.sizeOf3 ?_; rintro b3 w3 hb3 b3lt E3 hO1; have hs6 := E3.size
    refine Wo rfl (opv_fieldAddr Try.underlying25 rfl rfl Try.sizeOf23 rfl) ?_; refine Wo (v := u2) rfl (opv_load Try.isAgg23 rfl ((hB2.ext (E2.trans E3)).cell rfl)) ?_
    refine Wo_appS rfl el23 rfl rfl (Mono.mono ((E1.trans E2).trans E3) h2) hO1.toB (by first | omega | (simp <;> omega)) (by omega) (by omega) ((E1.trans E2).trans E3) (by omega) ?_; have hT1 := hO1.toB; rintro v1 w4 hO1 E4 M1
    have E5 := M1.ext hT1 (E2.trans E3) (by omega); have szE5 := E5.size; have E6 := M1.ext hT1 E3 (by omega); have szE6 := E6.size; have hB2 := (hB2.ext (E2.trans E3)).moves M1 hT1 (by omega)
    have hB3 := (hB3.ext E3).moves M1 hT1 (by omega); have hs7 := E4.size; refine Wo rfl (opv_assign (v := v1) rfl) ?_; refine Wo_nil ?_; refine W_seq ?_; refine W_seq ?_; refine W_region rfl ?_
    refine Wo rfl (opv_assign (v := .int _ _) rfl) ?_; refine Wo_nil ?_; refine W_block ?_
  clear M1 hT1
  rw [List.nil_append] at hO1
  obtain ⟨ab, ac, rfl, hac⟩ := hO1.lit (by omega)
  have hab := hO1.lt_own (k := ab) rfl
  refine W_loop [3, 4, 11, 12, 13, 14, 15, 16, 17, 18, 19, 20, 21, 22, 23, 24, 25, 26, 27, 28, 29, 30, 31, 32, 33, 34, 35, 36] (fun (n, L) => [(4, .int .i64 (n : Nat)), (3, .slice (some ⟨ab, 0, none⟩) L ac)]) (fun (n, (L : Nat)) w' => Ext w4 w' ∧ 1 ≤ n ∧ (L = B.length ∧ n ≤ p0 ∨ L = p0 ∧ n = p0 + 1)) (fun x => p0 + 1 - x.1) (1, B.length) (by repeat (first | exact trivial | refine And.intro rfl ?_)) ?_ ?_
  · exact ⟨Ext.refl _, Nat.le_refl _, .inl ⟨rfl, hs3⟩⟩
  rintro ⟨n, L⟩ ρj w5 ⟨E7, hn1, hnL⟩
  by_cases hlt : n < L
  · obtain ⟨rfl, hnp⟩ : L = B.length ∧ n ≤ p0 := by
      rcases hnL with h | h
      · exact h
      · omega
    have hti := test_iff hper (fun q hq => (hsh.2 _ _ hq).2) (hper.down hsh.1) hn1 hnp hlt
    have hfull : Ints w5 (.slice (some ⟨ab, 0, none⟩) B.length ac) B := Owned.read (hO1.ext E7)
    have hPre : Ints w5 (.slice (some ⟨ab, 0, none⟩) ((B.length : Int) - (n : Int)).toNat ac) (win f A.length (B.length - n)) := by
      have := Ints_take (c' := ac) hfull (k := B.length - n) (by omega)
      rw [show B.take (B.length - n) = win f A.length (B.length - n) by rw [← win_take (show B.length - n ≤ B.length by omega), hwB]] at this
      rw [show ((B.length : Int) - (n : Int)).toNat = B.length - n by omega]; exact this
    have hSuf : Ints w5 (.slice (some ⟨ab, 0 + n, none⟩) (B.length - n) (ac - n)) (win f (A.length + n) (B.length - n)) := by
      have := Ints_drop (c' := ac - n) hfull (k := n) (by omega)
      rw [show B.drop n = win f (A.length + n) (B.length - n) by rw [← win_drop (show n ≤ B.length by omega), hwB]] at this
      exact this
    have heq : ∀ (x : Bool), decide (win f (A.length + n) (B.length - n) = win f A.length (B.length - n)) = x → ∀ (w : World) (v u : Value), Ints w v (win f (A.length + n) (B.length - n)) → Ints w u (win f A.length (B.length - n)) → Does Try.prog 56 [v, u] w (Ret w (.bool x)) := fun x e w v u h h' => e ▸ Equal_ok w v u _ _ h h'
    clear hfull
    by_cases hnp0 : n = p0
    · obtain ⟨hm, he⟩ := hti.2 hnp0
      subst hnp0
      have hm' : (B.length : Int) % (n : Int) = 0 := by show ((B.length % n : Nat) : Int) = 0; rw [hm]; rfl
      have k1 := heq true (decide_eq_true he)
      clear heq hti
      focus
        have szE7 := E7.size; have szE6 := E6.size; have szE5 := E5.size; have szE4 := E4.size; have szE3 := E3.size; have szE2 := E2.size; have szE1 := E1.size; refine W_seq ?_; refine W_seq ?_; refine W_region rfl ?_
        refine Wo rfl (opv_move (v := .int _ _) rfl) ?_; refine Wo rfl (opv_move (v := .slice _ _ _) rfl) ?_; refine Wo rfl (opv_len Try.underlying23 rfl (Owned.read hO1)) ?_; refine Wo rfl (opv_lss rfl rfl) ?_; refine Wo_nil ?_
        refine W_cond_dec rfl (fun h3 => ?_) (fun h3 => ?_); refine W_skip ?_; refine W_seq ?_; refine W_block ?_; refine W_seq ?_; refine W_draw mixed (by kernel_rfl) rfl ?_; refine Wq_o rfl (fun _ _ => opv_move (v := .slice _ _ _) rfl) ?_
        refine Wq_o rfl (fun _ _ => opv_len Try.underlying23 rfl (Owned.read hO1)) ?_; refine Wq_o rfl (fun _ _ => opv_move (v := .int _ _) rfl) ?_; refine Wq_o rfl (fun _ _ => opv_rem rfl rfl (by omega)) ?_
        refine Wq_o rfl (fun _ _ => opv_eql rfl rfl) ?_; refine Wq_split_dec rfl (fun _ _ => opv_move (v := .bool _) rfl) (fun h4 => ?_) (fun h4 => ?_); refine Wq_o rfl (fun _ _ => opv_move (v := .slice _ _ _) rfl) ?_
        refine Wq_o rfl (fun _ _ => opv_move (v := .int _ _) rfl) ?_; refine Wq_o rfl (fun _ _ => opv_slice_sl_lo Try.underlying23 Try.sizeOf3 rfl rfl (by omega)) ?_; refine Wq_o rfl (fun _ _ => opv_move (v := .slice _ _ _) rfl) ?_
        refine Wq_o rfl (fun _ _ => opv_move (v := .slice _ _ _) rfl) ?_; refine Wq_o rfl (fun _ _ => opv_len Try.underlying23 rfl (Owned.read hO1)) ?_; refine Wq_o rfl (fun _ _ => opv_move (v := .int _ _) rfl) ?_
        refine Wq_o rfl (fun _ _ => opv_sub rfl rfl (by omega)) ?_; refine Wq_o rfl (fun _ _ => opv_slice_sl_hi Try.underlying23 Try.sizeOf3 rfl rfl (by omega)) ?_
        refine Wq_call rfl (fun _ _ => opc2 (a := .slice _ _ _) (b := .slice _ _ _) Try.call56 rfl rfl) (fun w' hw' => (k1 _ _ _ ((Mono.mono hw' hSuf)) ((Mono.mono hw' hPre)))) ?_
        refine Wq_o rfl (fun _ _ => opv_pick_t (v := .bool _) rfl rfl) ?_; refine Wq_nil (fun w6 E8 => ?_); have hs8 := E8.size; refine W_cond_true rfl ?_; refine W_region rfl ?_; refine Wo rfl (opv_move (v := .slice _ _ _) rfl) ?_
        refine Wo rfl (opv_move (v := .int _ _) rfl) ?_; refine Wo rfl (opv_slice_sl_hi Try.underlying23 Try.sizeOf3 rfl rfl (by omega)) ?_; refine Wo rfl (opv_assign (v := .slice _ _ _) rfl) ?_; refine Wo_nil ?_; refine W_region rfl ?_
        refine Wo rfl (opv_move (v := .int _ _) rfl) ?_; refine Wo rfl (opv_add rfl rfl (by omega)) ?_; refine Wo rfl (opv_assign (v := .int _ _) rfl) ?_; refine Wo_nil ?_; rotate_left; contradiction; (exfalso; omega)
      refine ⟨((n + 1, n)), by repeat (first | exact trivial | refine And.intro rfl ?_), by repeat (first | with_reducible exact Same.refl | refine Same.upd rfl ?_ | refine Same.upds rfl ?_ | refine Same.mix rfl ?_), ?_, ?_⟩
      · exact ⟨by first | assumption | exact E7.trans E8, by omega, .inr ⟨rfl, rfl⟩⟩
      · simp only; omega
    · by_cases hm : B.length % n = 0
      · have hm' : (B.length : Int) % (n : Int) = 0 := by show ((B.length % n : Nat) : Int) = 0; rw [hm]; rfl
        have k1 := heq false (decide_eq_false (fun h => hnp0 (hti.1 ⟨hm, h⟩)))
        clear heq hti
        focus
          have szE7 := E7.size; have szE6 := E6.size; have szE5 := E5.size; have szE4 := E4.size; have szE3 := E3.size; have szE2 := E2.size; have szE1 := E1.size; refine W_seq ?_; refine W_seq ?_; refine W_region rfl ?_
          refine Wo rfl (opv_move (v := .int _ _) rfl) ?_; refine Wo rfl (opv_move (v := .slice _ _ _) rfl) ?_; refine Wo rfl (opv_len Try.underlying23 rfl (Owned.read hO1)) ?_; refine Wo rfl (opv_lss rfl rfl) ?_; refine Wo_nil ?_
          refine W_cond_dec rfl (fun h3 => ?_) (fun h3 => ?_); refine W_skip ?_; refine W_seq ?_; refine W_block ?_; refine W_seq ?_; refine W_draw mixed (by kernel_rfl) rfl ?_; refine Wq_o rfl (fun _ _ => opv_move (v := .slice _ _ _) rfl) ?_
          refine Wq_o rfl (fun _ _ => opv_len Try.underlying23 rfl (Owned.read hO1)) ?_; refine Wq_o rfl (fun _ _ => opv_move (v := .int _ _) rfl) ?_; refine Wq_o rfl (fun _ _ => opv_rem rfl rfl (by omega)) ?_
          refine Wq_o rfl (fun _ _ => opv_eql rfl rfl) ?_; refine Wq_split_dec rfl (fun _ _ => opv_move (v := .bool _) rfl) (fun h4 => ?_) (fun h4 => ?_); refine Wq_o rfl (fun _ _ => opv_move (v := .slice _ _ _) rfl) ?_
          refine Wq_o rfl (fun _ _ => opv_move (v := .int _ _) rfl) ?_; refine Wq_o rfl (fun _ _ => opv_slice_sl_lo Try.underlying23 Try.sizeOf3 rfl rfl (by omega)) ?_; refine Wq_o rfl (fun _ _ => opv_move (v := .slice _ _ _) rfl) ?_
          refine Wq_o rfl (fun _ _ => opv_move (v := .slice _ _ _) rfl) ?_; refine Wq_o rfl (fun _ _ => opv_len Try.underlying23 rfl (Owned.read hO1)) ?_; refine Wq_o rfl (fun _ _ => opv_move (v := .int _ _) rfl) ?_
          refine Wq_o rfl (fun _ _ => opv_sub rfl rfl (by omega)) ?_; refine Wq_o rfl (fun _ _ => opv_slice_sl_hi Try.underlying23 Try.sizeOf3 rfl rfl (by omega)) ?_
          refine Wq_call rfl (fun _ _ => opc2 (a := .slice _ _ _) (b := .slice _ _ _) Try.call56 rfl rfl) (fun w' hw' => (k1 _ _ _ ((Mono.mono hw' hSuf)) ((Mono.mono hw' hPre)))) ?_
          refine Wq_o rfl (fun _ _ => opv_pick_t (v := .bool _) rfl rfl) ?_; refine Wq_nil (fun w6 E8 => ?_); have hs8 := E8.size; refine W_cond_false rfl ?_; refine W_skip ?_; refine W_region rfl ?_
          refine Wo rfl (opv_move (v := .int _ _) rfl) ?_; refine Wo rfl (opv_add rfl rfl (by omega)) ?_; refine Wo rfl (opv_assign (v := .int _ _) rfl) ?_; refine Wo_nil ?_; rotate_left; contradiction; (exfalso; omega)
        refine ⟨((n + 1, B.length)), by repeat (first | exact trivial | refine And.intro rfl ?_), by repeat (first | with_reducible exact Same.refl | refine Same.upd rfl ?_ | refine Same.upds rfl ?_ | refine Same.mix rfl ?_), ?_, ?_⟩
        · exact ⟨by first | assumption | exact E7.trans E8, by omega, .inl ⟨rfl, by omega⟩⟩
        · simp only; omega
      · have hm' : ¬ (B.length : Int) % (n : Int) = 0 := by show ¬ ((B.length % n : Nat) : Int) = 0; omega
        clear heq hti
        focus
          have szE7 := E7.size; have szE6 := E6.size; have szE5 := E5.size; have szE4 := E4.size; have szE3 := E3.size; have szE2 := E2.size; have szE1 := E1.size; refine W_seq ?_; refine W_seq ?_; refine W_region rfl ?_
          refine Wo rfl (opv_move (v := .int _ _) rfl) ?_; refine Wo rfl (opv_move (v := .slice _ _ _) rfl) ?_; refine Wo rfl (opv_len Try.underlying23 rfl (Owned.read hO1)) ?_; refine Wo rfl (opv_lss rfl rfl) ?_; refine Wo_nil ?_
          refine W_cond_dec rfl (fun h3 => ?_) (fun h3 => ?_); refine W_skip ?_; refine W_seq ?_; refine W_block ?_; refine W_seq ?_; refine W_draw mixed (by kernel_rfl) rfl ?_; refine Wq_o rfl (fun _ _ => opv_move (v := .slice _ _ _) rfl) ?_
          refine Wq_o rfl (fun _ _ => opv_len Try.underlying23 rfl (Owned.read hO1)) ?_; refine Wq_o rfl (fun _ _ => opv_move (v := .int _ _) rfl) ?_; refine Wq_o rfl (fun _ _ => opv_rem rfl rfl (by omega)) ?_
          refine Wq_o rfl (fun _ _ => opv_eql rfl rfl) ?_; refine Wq_split_dec rfl (fun _ _ => opv_move (v := .bool _) rfl) (fun h4 => ?_) (fun h4 => ?_); contradiction; refine Wq_skip rfl ?_; refine Wq_skip rfl ?_; refine Wq_skip rfl ?_
          refine Wq_skip rfl ?_; refine Wq_skip rfl ?_; refine Wq_skip rfl ?_; refine Wq_skip rfl ?_; refine Wq_skip rfl ?_; refine Wq_skip rfl ?_; refine Wq_skip rfl ?_; refine Wq_o rfl (fun _ _ => opv_pick_f (v := .bool _) rfl rfl) ?_
          refine Wq_nil (fun w6 E8 => ?_); have hs8 := E8.size; refine W_cond_false rfl ?_; refine W_skip ?_; refine W_region rfl ?_; refine Wo rfl (opv_move (v := .int _ _) rfl) ?_; refine Wo rfl (opv_add rfl rfl (by omega)) ?_
          refine Wo rfl (opv_assign (v := .int _ _) rfl) ?_; refine Wo_nil ?_; rotate_left; (exfalso; omega)
        refine ⟨((n + 1, B.length)), by repeat (first | exact trivial | refine And.intro rfl ?_), by repeat (first | with_reducible exact Same.refl | refine Same.upd rfl ?_ | refine Same.upds rfl ?_ | refine Same.mix rfl ?_), ?_, ?_⟩
        · exact ⟨by first | assumption | exact E7.trans E8, by omega, .inl ⟨rfl, by omega⟩⟩
        · simp only; omega
  · obtain rfl : L = p0 := by omega
    focus
      have szE7 := E7.size; have szE6 := E6.size; have szE5 := E5.size; have szE4 := E4.size; have szE3 := E3.size; have szE2 := E2.size; have szE1 := E1.size; refine W_seq ?_; refine W_seq ?_; refine W_region rfl ?_
      refine Wo rfl (opv_move (v := .int _ _) rfl) ?_; refine Wo rfl (opv_move (v := .slice _ _ _) rfl) ?_; refine Wo rfl (opv_len_slice Try.underlying23 rfl) ?_; refine Wo rfl (opv_lss rfl rfl) ?_; refine Wo_nil ?_
      refine W_cond_dec rfl (fun h3 => ?_) (fun h3 => ?_); (exfalso; omega); refine W_exit ?_; refine exitX_same ?_; refine W_seq ?_; refine W_region rfl ?_; refine Wo_lit0 XInt rfl el23 Try.sizeOf3 ?_; rintro b4 w6 hb4 b4lt E8 hO2
      have hs8 := E8.size; refine Wo rfl (opv_fieldAddr Try.underlying25 rfl rfl Try.sizeOf23 rfl) ?_; refine Wo (v := u1) rfl (opv_load Try.isAgg23 rfl ((hB2.ext (E7.trans E8)).cell rfl)) ?_
      refine Wo_appS rfl el23 rfl rfl (Mono.mono ((E4.trans E7).trans E8) h1) hO2.toB (by first | omega | (simp <;> omega)) (by omega) (by omega) ((E4.trans E7).trans E8) (by omega) ?_; have hT1 := hO2.toB; rintro v1 w7 hO2 E9 M1
      have E10 := M1.ext hT1 ((E5.trans E7).trans E8) (by omega); have szE10 := E10.size; have E11 := M1.ext hT1 ((E6.trans E7).trans E8) (by omega); have szE11 := E11.size; have E12 := M1.ext hT1 (E7.trans E8) (by omega)
      have szE12 := E12.size; have E13 := M1.ext hT1 E8 (by omega); have szE13 := E13.size; have hB2 := (hB2.ext (E7.trans E8)).moves M1 hT1 (by omega); have hB3 := (hB3.ext (E7.trans E8)).moves M1 hT1 (by omega)
      have hO1 := (hO1.toB.ext (E7.trans E8)).moves M1 hT1 (by omega); have hs9 := E9.size; refine Wo rfl (opv_assign (v := v1) rfl) ?_; refine Wo_nil ?_; refine W_seq ?_; refine W_block ?_
    clear M1 hT1 hnL hlt
    rw [List.nil_append] at hO2
    have hQ0 : OwnedB w2.heap.size w4.heap.size XI w7 (.slice (some ⟨ab, 0, none⟩) L ac) (win f A.length L) := by
      have := OwnedB.pre hO1 (k := L) (by omega)
      rw [show B.take L = win f A.length L by rw [← win_take (show L ≤ B.length by omega), hwB]] at this; exact this
    obtain ⟨pa, pc, rfl, _⟩ := id (Owned.read hO2)
    have hpa : 1 ≤ A.length → ∃ hb, pa = some ⟨hb, 0, none⟩ ∧ A.length ≤ pc := fun h => by
      obtain ⟨b, c, e, hle⟩ := hO2.lit (by omega)
      injection e with e1 e2 e3
      exact ⟨b, e1, by omega⟩
    have hO2' := hO2.toB
    clear hO1 hO2
    refine W_loop [3, 5, 6, 41, 42, 43, 44, 45, 46, 47, 48, 49, 50, 51, 52, 53, 54, 55, 56, 57, 58, 59, 60, 61, 62, 63, 64, 65, 66, 67, 68, 69, 70, 71, 72, 73, 74, 75, 76, 77] (fun (c, q) => [(5, .slice pa c pc), (3, q)]) (fun ((c : Nat), (q : Value)) w' => Ext w7 w' ∧ c ≤ A.length ∧ Per f c L ∧ OwnedB w5.heap.size w7.heap.size XI w' (.slice pa A.length pc) A ∧ Owned w2.heap.size XI w' q (win f c L) ∧ (∀ k, q.ownBlock = some k → k < w5.heap.size ∨ w7.heap.size ≤ k)) (fun x => x.1) (A.length, .slice (some ⟨ab, 0, none⟩) L ac) (by repeat (first | exact trivial | refine And.intro rfl ?_)) ?_ ?_
    · exact ⟨Ext.refl _, Nat.le_refl _, hper.down hsh.1, hO2', hQ0.o, fun k hk => (by have h9 : some ab = some k := hk; injection h9 with h9; omega)⟩
    clear hQ0 hO2'
    rintro ⟨c, q⟩ ρk w8 ⟨E14, hcA, hpc, hOA, hOQ, hoff⟩
    obtain ⟨qb, qc, rfl, hqc⟩ := hOQ.lit (by rw [win_len]; omega)
    rw [win_len] at *
    have hwl := win_len (f := f) (a := c) (p := L)
    have hwl0 := win_len (f := f) (a := 0) (p := c)
    have hA8 : Ints w8 (.slice pa c pc) (win f 0 c) := by
      have := (OwnedB.preA hOA hcA).read
      rw [show A.take c = win f 0 c by rw [← win_take hcA, hwA]] at this; exact this
    have ha0 := (hsh.2 _ _ hpc).1
    by_cases hc0 : c = 0
    · obtain rfl : a0 = 0 := by omega
      subst hc0
      focus
        have szE14 := E14.size; have szE13 := E13.size; have szE12 := E12.size; have szE11 := E11.size; have szE10 := E10.size; have szE9 := E9.size; have szE8 := E8.size; have szE7 := E7.size; have szE6 := E6.size; have szE5 := E5.size
        have szE4 := E4.size; have szE3 := E3.size; have szE2 := E2.size; have szE1 := E1.size; refine W_seq ?_; refine W_seq ?_; refine W_draw mixed (by kernel_rfl) rfl ?_; refine Wq_o rfl (fun _ _ => opv_move (v := .slice _ _ _) rfl) ?_
        refine Wq_o rfl (fun _ _ => opv_len Try.underlying23 rfl hA8) ?_; refine Wq_o rfl (fun _ _ => opv_gtr rfl rfl) ?_; refine Wq_split_dec rfl (fun _ _ => opv_move (v := .bool _) rfl) (fun h4 => ?_) (fun h4 => ?_); contradiction
        refine Wq_skip rfl ?_; refine Wq_skip rfl ?_; refine Wq_skip rfl ?_; refine Wq_skip rfl ?_; refine Wq_skip rfl ?_; refine Wq_skip rfl ?_; refine Wq_skip rfl ?_; refine Wq_skip rfl ?_; refine Wq_skip rfl ?_; refine Wq_skip rfl ?_
        refine Wq_skip rfl ?_; refine Wq_skip rfl ?_; refine Wq_skip rfl ?_; refine Wq_o rfl (fun _ _ => opv_pick_f (v := .bool _) rfl rfl) ?_; refine Wq_nil (fun w9 E15 => ?_); have hs10 := E15.size; refine W_cond_false rfl ?_
        refine W_exit ?_; refine exitX_same ?_; refine W_seq ?_; refine W_region rfl ?_; refine Wo rfl (opv_move (v := .slice _ _ _) rfl) ?_; refine Wo rfl (opv_move (v := .slice _ _ _) rfl) ?_
        refine Wo rfl (opv_build (ps := [(0, .slice _ _ _), (1, .slice _ _ _)]) (cs := [_, _]) flat25 rfl rfl) ?_
        refine Wo_st2 rfl Try.sizeOf25 rfl rfl (by first | rfl | assumption) (by first | rfl | assumption) (hB3.ext (E14.trans E15)) (by omega) ((E9.trans E14).trans E15) ?_; rintro w10 E16 hB3 K1 hz1
        have E17 := ((E10.trans E14).trans E15).wroteAt ((E9.trans E14).trans E15) E16 K1 hz1 (by omega); have szE17 := E17.size; have hO1 := (hO1.toB.ext ((E12.trans E14).trans E15)).wrote K1 (by omega)
        have hB2 := (hB2.ext (E14.trans E15)).of_heap (K1 _ (by omega)); have hOA := (hOA.ext E15).wrote K1 (by omega); have hOQ := (hOQ.toB.ext E15).wrote K1 (by omega); refine Wo_nil ?_; refine W_ret ?_
      have hOAc : OwnedB w5.heap.size w7.heap.size XI w10 (.slice pa 0 pc) (win f 0 0) := by
        have := OwnedB.preA hOA hcA
        rw [show A.take 0 = win f 0 0 by rw [← win_take hcA, hwA]] at this; exact this
      refine ⟨_, _, _, rfl, hB3, _, _, rfl, by assumption, hOAc.o.mono (by omega), hOQ.o.mono (by omega), ?_⟩
      cases hv : (Value.slice pa 0 pc).ownBlock with
      | none => exact .inr rfl
      | some k =>
        left
        intro e
        have h8 := own_rng hOAc hv
        have h9 := hoff k e.symm
        omega
    · obtain ⟨hb, rfl, hpcl⟩ := hpa (by omega)
      have hl1 : (win f 0 c)[(((win f 0 c).length : Int) - 1).toNat]'(by omega) = f (c - 1) := by rw [win_get (by omega) (show (((win f 0 c).length : Int) - 1).toNat = c - 1 by omega), Nat.zero_add]
      have hl2 : (win f c L)[(((win f c L).length : Int) - 1).toNat]'(by omega) = f (c - 1 + L) := by rw [win_get (by omega) (show (((win f c L).length : Int) - 1).toNat = L - 1 by omega)]; congr 1; omega
      have hpred : Per f (c - 1) L ↔ f (c - 1) = f (c - 1 + L) := per_pred (by rw [Nat.sub_add_cancel (by omega)]; exact hpc)
      by_cases hcc : f (c - 1) = f (c - 1 + L)
      · have hlit : (win f 0 c)[(((win f 0 c).length : Int) - 1).toNat]'(by omega) = (win f c L)[(((win f c L).length : Int) - 1).toNat]'(by omega) := by rw [hl1, hl2, hcc]
        have hQ8 : Ints w8 (.slice (some ⟨qb, 0, none⟩) (((win f c L).length : Int) - 1).toNat qc) (win f c (L - 1)) := by
          have := Ints_take (c' := qc) (Owned.read hOQ) (k := L - 1) (by omega)
          rw [win_take (by omega)] at this
          rw [show (((win f c L).length : Int) - 1).toNat = L - 1 by omega]; exact this
        focus
          have szE14 := E14.size; have szE13 := E13.size; have szE12 := E12.size; have szE11 := E11.size; have szE10 := E10.size; have szE9 := E9.size; have szE8 := E8.size; have szE7 := E7.size; have szE6 := E6.size; have szE5 := E5.size
          have szE4 := E4.size; have szE3 := E3.size; have szE2 := E2.size; have szE1 := E1.size; refine W_seq ?_; refine W_seq ?_; refine W_draw mixed (by kernel_rfl) rfl ?_; refine Wq_o rfl (fun _ _ => opv_move (v := .slice _ _ _) rfl) ?_
          refine Wq_o rfl (fun _ _ => opv_len Try.underlying23 rfl hA8) ?_; refine Wq_o rfl (fun _ _ => opv_gtr rfl rfl) ?_; refine Wq_split_dec rfl (fun _ _ => opv_move (v := .bool _) rfl) (fun h4 => ?_) (fun h4 => ?_)
          refine Wq_o rfl (fun _ _ => opv_move (v := .slice _ _ _) rfl) ?_; refine Wq_o rfl (fun _ _ => opv_move (v := .slice _ _ _) rfl) ?_; refine Wq_o rfl (fun _ _ => opv_len Try.underlying23 rfl hA8) ?_
          refine Wq_o rfl (fun _ _ => opv_sub rfl rfl (by omega)) ?_; refine Wq_get_z Try.underlying23 Try.sizeOf3 Try.isAgg3 rfl (fun _ => rfl) rfl hA8 (Ext.refl _) rfl (by first | omega | (simp <;> omega)) ?_; rintro _ _ rfl
          refine Wq_o rfl (fun _ _ => opv_move (v := .slice _ _ _) rfl) ?_; refine Wq_o rfl (fun _ _ => opv_move (v := .slice _ _ _) rfl) ?_; refine Wq_o rfl (fun _ _ => opv_len Try.underlying23 rfl (Owned.read hOQ)) ?_
          refine Wq_o rfl (fun _ _ => opv_sub rfl rfl (by omega)) ?_; refine Wq_get_z Try.underlying23 Try.sizeOf3 Try.isAgg3 rfl (fun _ => rfl) rfl (Owned.read hOQ) (Ext.refl _) rfl (by first | omega | (simp <;> omega)) ?_; rintro _ _ rfl
          refine Wq_o rfl (fun _ _ => opv_eql rfl rfl) ?_; refine Wq_o rfl (fun _ _ => opv_pick_t (v := .bool _) rfl rfl) ?_; refine Wq_nil (fun w9 E15 => ?_); have hs10 := E15.size; refine W_cond_dec rfl (fun h5 => ?_) (fun h5 => ?_)
          refine W_skip ?_; refine W_block ?_; refine W_seq ?_; refine W_region rfl ?_; refine Wo rfl (opv_move (v := .slice _ _ _) rfl) ?_; refine Wo rfl (opv_move (v := .slice _ _ _) rfl) ?_
          refine Wo rfl (opv_len Try.underlying23 rfl (Owned.read hOQ)) ?_; refine Wo rfl (opv_sub rfl rfl (by omega)) ?_
          refine Wo_get_z Try.underlying23 Try.sizeOf3 Try.isAgg3 rfl (fun _ => rfl) rfl (Owned.read hOQ) E15 rfl (by first | omega | (simp <;> omega)) ?_; rintro _ _ rfl; refine Wo rfl (opv_assign (v := .int _ _) rfl) ?_; refine Wo_nil ?_
          refine W_seq ?_; refine W_region rfl ?_; refine Wo rfl (opv_move (v := .slice _ _ _) rfl) ?_; refine Wo rfl (opv_move (v := .slice _ _ _) rfl) ?_; refine Wo rfl (opv_len Try.underlying23 rfl hA8) ?_
          refine Wo rfl (opv_sub rfl rfl (by omega)) ?_; refine Wo rfl (opv_slice_sl_hi Try.underlying23 Try.sizeOf3 rfl rfl (by omega)) ?_; refine Wo rfl (opv_assign (v := .slice _ _ _) rfl) ?_; refine Wo_nil ?_; refine W_region rfl ?_
          refine Wo rfl (opv_move (v := .int _ _) rfl) ?_; refine Wo_buildSliceH (ps := [(0, .int _ _)]) (cs := [_]) rfl Try.underlying23 Try.sizeOf3 Try.zeroValue3 rfl rfl rfl rfl ?_; rintro b5 w10 hb5 E16 hB4 hHb5; have hlb5 := hB4.lt
          have hs11 := E16.size; refine Wo rfl (opv_move (v := .slice _ _ _) rfl) ?_; refine Wo rfl (opv_move (v := .slice _ _ _) rfl) ?_; refine Wo rfl (opv_len Try.underlying23 rfl (Owned.read hOQ)) ?_
          refine Wo rfl (opv_sub rfl rfl (by omega)) ?_; refine Wo rfl (opv_slice_sl_hi Try.underlying23 Try.sizeOf3 rfl rfl (by omega)) ?_; rotate_left; contradiction; (exfalso; omega)
        have hlit1 : Owned w9.heap.size XI w10 (.slice (some ⟨b5, 0, none⟩) 1 1) [(win f c L)[(((win f c L).length : Int) - 1).toNat]'(by omega)] := Owned.block hHb5 hb5 rfl (by decide) ⟨⟨rfl, rfl⟩, trivial⟩
        clear hHb5 hB4
        have hwl1 := win_len (f := f) (a := c) (p := L - 1)
        have hone : ([(win f c L)[(((win f c L).length : Int) - 1).toNat]'(by omega)] : List Int).length = 1 := rfl
        focus
          have szE16 := E16.size; have szE15 := E15.size; have szE14 := E14.size; have szE13 := E13.size; have szE12 := E12.size; have szE11 := E11.size; have szE10 := E10.size; have szE9 := E9.size; have szE8 := E8.size; have szE7 := E7.size
          have szE6 := E6.size; have szE5 := E5.size; have szE4 := E4.size; have szE3 := E3.size; have szE2 := E2.size; have szE1 := E1.size
          refine Wo_appS rfl el23 rfl rfl (Mono.mono (E15.trans E16) hQ8) hlit1.toB (by first | omega | (simp <;> omega)) (by omega) (by omega) (((E9.trans E14).trans E15).trans E16) (by omega) ?_; have hT1 := hlit1.toB
          rintro v1 w11 hlit1 E17 M1; have E18 := M1.ext hT1 (((E10.trans E14).trans E15).trans E16) (by omega); have szE18 := E18.size; have E19 := M1.ext hT1 (((E11.trans E14).trans E15).trans E16) (by omega); have szE19 := E19.size
          have E20 := M1.ext hT1 (((E12.trans E14).trans E15).trans E16) (by omega); have szE20 := E20.size; have E21 := M1.ext hT1 (((E13.trans E14).trans E15).trans E16) (by omega); have szE21 := E21.size
          have E22 := M1.ext hT1 ((E14.trans E15).trans E16) (by omega); have szE22 := E22.size; have E23 := M1.ext hT1 (E15.trans E16) (by omega); have szE23 := E23.size; have E24 := M1.ext hT1 E16 (by omega); have szE24 := E24.size
          have hO1 := (hO1.toB.ext (((E12.trans E14).trans E15).trans E16)).moves M1 hT1 (by omega); have hB2 := (hB2.ext ((E14.trans E15).trans E16)).moves M1 hT1 (by omega)
          have hB3 := (hB3.ext ((E14.trans E15).trans E16)).moves M1 hT1 (by omega); have hOQ := (hOQ.toB.ext (E15.trans E16)).moves M1 hT1 (by omega); have hOA := (hOA.ext (E15.trans E16)).moves M1 hT1 (by omega); have hs12 := E17.size
          refine Wo rfl (opv_assign (v := v1) rfl) ?_; refine Wo_nil ?_
        have hnew : [(win f c L)[(((win f c L).length : Int) - 1).toNat]'(by omega)] ++ win f c (L - 1) = win f (c - 1) L := by
          rw [hl2, ← hcc]
          have := win_cons (f := f) (a := c - 1) (p := L - 1)
          rw [Nat.sub_add_cancel (by omega), Nat.sub_add_cancel (by omega)] at this
          rw [this]; rfl
        have hL' : (((win f 0 c).length : Int) - 1).toNat = c - 1 := by omega
        refine ⟨(((((win f 0 c).length : Int) - 1).toNat, v1)), by repeat (first | exact trivial | refine And.intro rfl ?_), by repeat (first | with_reducible exact Same.refl | refine Same.upd rfl ?_ | refine Same.upds rfl ?_ | refine Same.mix rfl ?_), ?_, ?_⟩
        · refine ⟨E22, by omega, ?_, hOA, ?_, fun k hk => ?_⟩
          · rw [hL']; exact hpred.2 hcc
          · rw [hL', ← hnew]; exact hlit1.mono (by omega)
          · have := own_rng hlit1.toB hk
            omega
        · simp only; omega
      · have hlit : ¬ (win f 0 c)[(((win f 0 c).length : Int) - 1).toNat]'(by omega) = (win f c L)[(((win f c L).length : Int) - 1).toNat]'(by omega) := by rw [hl1, hl2]; exact hcc
        obtain rfl : a0 = c := by
          rcases Nat.lt_or_ge a0 c with h | h
          · exact absurd (hpred.1 (hsh.1.up (by omega))) hcc
          · omega
        focus
          have szE14 := E14.size; have szE13 := E13.size; have szE12 := E12.size; have szE11 := E11.size; have szE10 := E10.size; have szE9 := E9.size; have szE8 := E8.size; have szE7 := E7.size; have szE6 := E6.size; have szE5 := E5.size
          have szE4 := E4.size; have szE3 := E3.size; have szE2 := E2.size; have szE1 := E1.size; refine W_seq ?_; refine W_seq ?_; refine W_draw mixed (by kernel_rfl) rfl ?_; refine Wq_o rfl (fun _ _ => opv_move (v := .slice _ _ _) rfl) ?_
          refine Wq_o rfl (fun _ _ => opv_len Try.underlying23 rfl hA8) ?_; refine Wq_o rfl (fun _ _ => opv_gtr rfl rfl) ?_; refine Wq_split_dec rfl (fun _ _ => opv_move (v := .bool _) rfl) (fun h4 => ?_) (fun h4 => ?_)
          refine Wq_o rfl (fun _ _ => opv_move (v := .slice _ _ _) rfl) ?_; refine Wq_o rfl (fun _ _ => opv_move (v := .slice _ _ _) rfl) ?_; refine Wq_o rfl (fun _ _ => opv_len Try.underlying23 rfl hA8) ?_
          refine Wq_o rfl (fun _ _ => opv_sub rfl rfl (by omega)) ?_; refine Wq_get_z Try.underlying23 Try.sizeOf3 Try.isAgg3 rfl (fun _ => rfl) rfl hA8 (Ext.refl _) rfl (by first | omega | (simp <;> omega)) ?_; rintro _ _ rfl
          refine Wq_o rfl (fun _ _ => opv_move (v := .slice _ _ _) rfl) ?_; refine Wq_o rfl (fun _ _ => opv_move (v := .slice _ _ _) rfl) ?_; refine Wq_o rfl (fun _ _ => opv_len Try.underlying23 rfl (Owned.read hOQ)) ?_
          refine Wq_o rfl (fun _ _ => opv_sub rfl rfl (by omega)) ?_; refine Wq_get_z Try.underlying23 Try.sizeOf3 Try.isAgg3 rfl (fun _ => rfl) rfl (Owned.read hOQ) (Ext.refl _) rfl (by first | omega | (simp <;> omega)) ?_; rintro _ _ rfl
          refine Wq_o rfl (fun _ _ => opv_eql rfl rfl) ?_; refine Wq_o rfl (fun _ _ => opv_pick_t (v := .bool _) rfl rfl) ?_; refine Wq_nil (fun w9 E15 => ?_); have hs10 := E15.size; refine W_cond_dec rfl (fun h5 => ?_) (fun h5 => ?_)
          contradiction; refine W_exit ?_; refine exitX_same ?_; refine W_seq ?_; refine W_region rfl ?_; refine Wo rfl (opv_move (v := .slice _ _ _) rfl) ?_; refine Wo rfl (opv_move (v := .slice _ _ _) rfl) ?_
          refine Wo rfl (opv_build (ps := [(0, .slice _ _ _), (1, .slice _ _ _)]) (cs := [_, _]) flat25 rfl rfl) ?_
          refine Wo_st2 rfl Try.sizeOf25 rfl rfl (by first | rfl | assumption) (by first | rfl | assumption) (hB3.ext (E14.trans E15)) (by omega) ((E9.trans E14).trans E15) ?_; rintro w10 E16 hB3 K1 hz1
          have E17 := ((E10.trans E14).trans E15).wroteAt ((E9.trans E14).trans E15) E16 K1 hz1 (by omega); have szE17 := E17.size; have hO1 := (hO1.toB.ext ((E12.trans E14).trans E15)).wrote K1 (by omega)
          have hB2 := (hB2.ext (E14.trans E15)).of_heap (K1 _ (by omega)); have hOA := (hOA.ext E15).wrote K1 (by omega); have hOQ := (hOQ.toB.ext E15).wrote K1 (by omega); refine Wo_nil ?_; refine W_ret ?_; rotate_left; (exfalso; omega)
        have hOAc : OwnedB w5.heap.size w7.heap.size XI w10 (.slice (some ⟨hb, 0, none⟩) a0 pc) (win f 0 a0) := by
          have := OwnedB.preA hOA hcA
          rw [show A.take a0 = win f 0 a0 by rw [← win_take hcA, hwA]] at this; exact this
        refine ⟨_, _, _, rfl, hB3, _, _, rfl, by assumption, hOAc.o.mono (by omega), hOQ.o.mono (by omega), ?_⟩
        cases hv : (Value.slice (some ⟨hb, 0, none⟩) a0 pc).ownBlock with
        | none => exact .inr rfl
        | some k =>
          left
          intro e
          have h8 := own_rng hOAc hv
          have h9 := hoff k e.symm
          omega

end Go.Proofs.Ytlalfmialbolhaa
set_option linter.unusedVariables false
namespace Go.Hs
section
variable {α : Type} {X : World → List Nat → Value → α → Prop} {w w' w0 w1 : World} {v u v' : Value} {x : α} {xs : List α} {lo hi lt ht br m i n cr : Nat} {e : TypeId}
theorem OwnedB.grown [Loc X] (h : OwnedB lo hi X w v x) (g : w.grownBy w' (some br)) (hb : br < lo ∨ hi ≤ br) : OwnedB lo hi X w' v x := by
  obtain ⟨fp, h1, h2, h3⟩ := h
  exact ⟨fp, h1, h2, Loc.loc (fun k hk => g.block k (Loc.lt h3 k hk) (by have := h2 k hk; simp; omega)) h3⟩
theorem RowAt.grown (h : RowAt w v i n m cr) (g : w.grownBy w' (some br)) (hv : v.ownBlock ≠ some br) : RowAt w' v i n m cr := by
  obtain ⟨b, m', c, rfl, h1, h2⟩ := h
  have hne : b ≠ br := fun e => hv (by simp [Value.ownBlock, e])
  exact ⟨b, m', c, rfl, h1, by rw [← h2]; exact World.cell?_of_block (g.block b (World.block_lt_of_cell? _ _ h2) (by simp [hne]))⟩
theorem own_notin (k : OwnedB lt ht (XSl e X) w v xs) {b : Nat} (hd : ht ≤ b ∨ b < lt) : some b ≠ v.ownBlock := by
  intro h
  obtain ⟨fq, k1, k2, cs, fps, k3, rfl, k4⟩ := k
  have := k2 b (by simp [← h])
  omega
theorem Rdr.moves (h : Rdr w0 w br m) (E : Ext w0 w') (M : Moves w v w' v') (k : OwnedB lt ht (XSl e X) w v xs) (hd : ht ≤ br ∨ br < lt) : Rdr w0 w' br m := by
  obtain ⟨h1, h2, h3, vb, bs, p, h4, h5, h6, h7⟩ := h
  exact ⟨E, h2, Nat.lt_of_lt_of_le h3 M.1.size, vb, bs, p, h4, h5, h6.of_heap (M.1.block br h3 (own_notin k hd)), h7⟩
theorem grownBy_moves (h : w1.grownBy w (some br)) (M : Moves w v w' v') (k : OwnedB lt ht (XSl e X) w v xs) (hd : w1.heap.size ≤ lt) : w1.grownBy w' (some br) := by
  exact ⟨M.1.os.trans h.os, M.1.tape.trans h.tape, M.1.output.trans h.output, Nat.le_trans h.size M.1.size, fun j hj hr => (M.1.block j (Nat.lt_of_lt_of_le hj h.size) (own_notin k (.inr (by omega)))).trans (h.block j hj hr)⟩
end
section
variable {w w' : World} {v v' : Value} {lo hi lo' i m cr b n c brw : Nat} {e e2 : TypeId} {p : List (List Int)} {row : List Int}
theorem slice_len {w : World} {e : TypeId} {a : Option Addr} {n m c : Nat} {cs : List Value} (h : w.ownsRow 0 e 1 (.slice a n c) m cs) : n = m := by
  rcases h.2 with ⟨h6, h7⟩ | ⟨g, cap, cur, h6, _⟩
  · cases h6; exact h7.symm
  · cases h6; rfl
/-- A row of own rows is an own one. -/
theorem OwnedB.rowOwn (h : OwnedB lo hi (XSl e (XSl e2 XInt)) w v p) (hR : RowAt w v i brw m cr) (hi' : i < p.length) : m = p[i].length ∧ OwnedB brw (brw + 1) (XSl e2 XInt) w (.slice (some ⟨brw, 0, none⟩) m cr) p[i] := by
  obtain ⟨fp, h1, h2, cs, fps, h3, rfl, h5⟩ := h
  obtain ⟨f, u, h6, h7, h8⟩ := h5.at hi'
  obtain ⟨b, m', c, rfl, hne, hcell⟩ := hR
  have hl := h5.len
  have := slice_len h3
  subst this
  rw [h3.cellAt i (by omega), h7] at hcell
  cases hcell
  have hf := XI_fp h8
  subst hf
  have h8' := h8
  obtain ⟨cs', fps', k3, _, _⟩ := h8'
  exact ⟨slice_len k3, _, by simp [Value.ownBlock], fun k hk => by simp [Value.ownBlock] at hk; omega, h8⟩
end
end Go.Hs
set_option linter.unusedVariables false
namespace Go.Hs
theorem OwnedB.nil {α : Type} {X : World → List Nat → Value → α → Prop} {w : World} {e : TypeId} {lo hi : Nat} : OwnedB lo hi (XSl e X) w (.slice none 0 0) [] := ⟨[], List.nodup_nil, (fun _ h => by cases h), [], [], World.ownsRow_nil w 0 e 1, rfl, trivial⟩
theorem own_lit1 {w : World} {e : TypeId} {lo b : Nat} {x : Int} (hb : w.heap[b]? = some (.cells [.int .i64 x].toArray e (0, 0))) (hl : lo ≤ b) : Owned lo (XSl e XInt) w (.slice (some ⟨b, 0, none⟩) 1 1) [x] := Owned.block hb hl rfl (by decide) ⟨⟨rfl, rfl⟩, trivial⟩
theorem opv_build2 {P : Program} {ρ : Env} {w : World} {ty t : TypeId} {parts : Array (Nat × Operand)} {z1 z2 v1 v2 : Value} (hF : Flat P t [z1, z2]) (hp : parts.toList.map (fun p => (p.1, evalE ρ p.2)) = [(0, v1), (1, v2)]) (h1 : isCell v1 = true) (h2 : isCell v2 = true) :
    OpV P (.build t parts) ty ρ w (.agg #[v1, v2]) := opv_build hF hp (by simp [fillF, h1, h2]; rfl)
theorem Moves.off {w w' : World} {v v' : Value} {b : Nat} (M : Moves w v w' v') (hv : v.ownBlock ≠ some b) (hb : b < w.heap.size) : v'.ownBlock ≠ some b := by
  rcases M.2 with h | ⟨g, h, hg⟩
  · rw [h]; exact hv
  · rw [h]; intro e; injection e with e; omega
theorem Moves.offS {w w' : World} {v v' : Value} {b c n k : Nat} (M : Moves w v w' v') (hv : v = .slice (some ⟨c, 0, none⟩) n k) (hc : c ≠ b) (hb : b < w.heap.size) : v'.ownBlock ≠ some b :=
  M.off (by subst hv; simp [Value.ownBlock]; exact hc) hb
theorem OwnedB.wroteOff {w w' : World} {v : Value} {xs : List Int} {e : TypeId} {lo hi b : Nat} (h : OwnedB lo hi (XSl e XInt) w v xs) (hv : v.ownBlock ≠ some b) (K : ∀ k, k ≠ b → w'.heap[k]? = w.heap[k]?) : OwnedB lo hi (XSl e XInt) w' v xs := by
  obtain ⟨fp, h1, h2, cs, fps, h3, rfl, h5⟩ := h
  have hf := XInt_flat2 h5
  have h0 : ∀ k ∈ v.ownBlock.toList ++ fps.flatten, w'.heap[k]? = w.heap[k]? := fun k hk => K k (by
    rintro rfl
    rw [hf, List.append_nil] at hk
    cases hv' : v.ownBlock with
    | none => rw [hv'] at hk; simp at hk
    | some c => rw [hv'] at hk hv; simp at hk; subst hk; exact hv rfl)
  exact ⟨_, h1, h2, Loc.loc (X := XSl e XInt) h0 ⟨cs, fps, h3, rfl, h5⟩⟩
/-- a struct drawn beside a reader -/
def RetDS (w0 w : World) (br m : Nat) (e : TypeId) (p : List Int → List Int → Prop) : Value → World → Prop := fun v w' => ∃ u1 u2 xs ys, v = .agg #[u1, u2] ∧ w.grownBy w' (some br) ∧ Rdr w0 w' br m ∧ Owned w.heap.size (XSl e XInt) w' u1 xs ∧ Owned w.heap.size (XSl e XInt) w' u2 ys ∧ p xs ys
/-- a struct drawn -/
def RetE1 (w : World) (e : TypeId) (p : List Int → List Int → Prop) : Value → World → Prop := fun v w' => ∃ u1 u2 xs ys, v = .agg #[u1, u2] ∧ Ext w w' ∧ Owned w.heap.size (XSl e XInt) w' u1 xs ∧ Owned w.heap.size (XSl e XInt) w' u2 ys ∧ p xs ys
/-- two structs drawn -/
def RetE2 (w : World) (e : TypeId) (p : List Int → List Int → Prop) : Value → World → Prop := fun v w' => ∃ u1 u2 q1 q2 xs ys xs' ys', v = .tuple #[.agg #[u1, u2], .agg #[q1, q2]] ∧ Ext w w' ∧ Owned w.heap.size (XSl e XInt) w' u1 xs ∧ Owned w.heap.size (XSl e XInt) w' u2 ys ∧ Owned w.heap.size (XSl e XInt) w' q1 xs' ∧ Owned w.heap.size (XSl e XInt) w' q2 ys' ∧ p xs ys ∧ p xs' ys'
end Go.Hs
namespace Go.Proofs.Ytlalfmialbolhaa
open Go.Hs
set_option maxRecDepth 10000
set_option maxHeartbeats 4000000
set_option linter.unusedVariables false
set_option linter.unusedSimpArgs false

theorem IndexFunc_ok (w : World) (v : Value) (xs : List Int) (h : Ints w v xs) (fid : FuncId) (cap : List Value) (g : Int → Bool) (hc : ∀ args w, Sem.run Try.prog (callFunc fid args) w = .ok (.enter fid args) w)
    (hf : ∀ (x : Int) (w' : World), x ∈ xs → Ext w w' → Does Try.prog fid (.int .i64 x :: cap) w' (Ret w' (.bool (g x)))) :
    Does Try.prog 90 [v, .func (.func fid) [].toArray cap.toArray] w (RetX w (Value.int .i64) (fun n _ => (n = -1 ∧ xs.any g = false) ∨ (0 ≤ n ∧ xs.any g = true))) := by
  have hle := h.le
  refine fn_of_W1 Try.func90 rfl Try.results90 Try.ntmps90 rfl ?_
  focus
    refine W_seq ?_; refine W_region rfl ?_; refine Wo rfl (opv_assign (v := .int _ _) rfl) ?_; refine Wo_nil ?_; refine W_seq ?_; refine W_seq ?_; refine W_region rfl ?_; refine Wo rfl (opv_move (v := v) rfl) ?_
    refine Wo rfl (opv_len Try.underlying23 rfl h) ?_; refine Wo rfl (opv_move (v := .int _ _) rfl) ?_; refine Wo_nil ?_; refine W_block ?_
  refine W_loop [4, 5, 8, 9, 10, 11, 12, 13, 14, 15, 16, 17, 18] (fun (k : Nat) => [(8, .int .i64 (k : Nat))]) (fun k w' => Ext w w' ∧ k ≤ xs.length ∧ (xs.take k).any g = false) (fun x => xs.length - x) 0 (by repeat (first | exact trivial | refine And.intro rfl ?_)) ?_ ?_
  · exact ⟨Ext.refl _, Nat.zero_le _, by simp⟩
  rintro k ρj w1 ⟨E1, hk, hg⟩
  by_cases hlt : k < xs.length
  · have hmem := List.getElem_mem hlt
    focus
      have szE1 := E1.size; refine W_seq ?_; refine W_region rfl ?_; refine Wo rfl (opv_lss rfl rfl) ?_; refine Wo_nil ?_; refine W_seq ?_; refine W_cond_dec rfl (fun h1 => ?_) (fun h1 => ?_); refine W_skip ?_; refine W_seq ?_
      refine W_block ?_; refine W_seq ?_; refine W_region rfl ?_; refine Wo rfl (opv_move (v := .int _ _) rfl) ?_; refine Wo rfl (opv_assign (v := .int _ _) rfl) ?_; refine Wo_nil ?_; refine W_seq ?_; refine W_region rfl ?_
      refine Wo rfl (opv_move (v := .func _ _ _) rfl) ?_; refine Wo rfl (opv_move (v := v) rfl) ?_; refine Wo rfl (opv_move (v := .int _ _) rfl) ?_
      refine Wo_get Try.underlying23 Try.sizeOf3 Try.isAgg3 rfl (fun _ => rfl) rfl h E1 rfl (by first | omega | (simp <;> omega)) ?_; rintro _ _ rfl
      refine Wo_call rfl (opc_val1 (a := .int _ _) (by assumption) rfl rfl) (hf _ _ (by assumption) (E1)) ?_; rintro _ w2 ⟨rfl, E2⟩; have hs1 := E2.size; refine Wo_nil ?_; refine W_cond rfl (fun h2 => ?_) (fun h2 => ?_); refine W_seq ?_
      refine W_region rfl ?_; refine Wo rfl (opv_move (v := .int _ _) rfl) ?_; refine Wo rfl (opv_assign (v := .int _ _) rfl) ?_; refine Wo_nil ?_; refine W_ret ?_; refine at_ret (v := .int _ _) rfl ?_; refine ⟨(E1.trans E2), _, rfl, ?_⟩
      (try dsimp only); rotate_left; refine W_skip ?_; refine W_region rfl ?_; refine Wo rfl (opv_add rfl rfl (by omega)) ?_; refine Wo rfl (opv_move (v := .int _ _) rfl) ?_; refine Wo_nil ?_; rotate_left; (exfalso; omega)
    · right
      refine ⟨by omega, List.any_eq_true.2 ⟨_, hmem, by assumption⟩⟩
    · refine ⟨(k + 1), by repeat (first | exact trivial | refine And.intro rfl ?_), by repeat (first | with_reducible exact Same.refl | refine Same.upd rfl ?_ | refine Same.upds rfl ?_ | refine Same.mix rfl ?_), ?_, ?_⟩
      · refine ⟨E1.trans E2, by omega, ?_⟩
        rw [take_snoc _ _ hlt, List.any_append, hg]
        simpa using by assumption
      · omega
  · obtain rfl : k = xs.length := by omega
    focus
      have szE1 := E1.size; refine W_seq ?_; refine W_region rfl ?_; refine Wo rfl (opv_lss rfl rfl) ?_; refine Wo_nil ?_; refine W_seq ?_; refine W_cond_dec rfl (fun h1 => ?_) (fun h1 => ?_); (exfalso; omega); refine W_exit ?_
      refine exitX_same ?_; refine W_seq ?_; refine W_region rfl ?_; refine Wo rfl (opv_assign (v := .int _ _) rfl) ?_; refine Wo_nil ?_; refine W_ret ?_; refine at_ret (v := .int _ _) rfl ?_; refine ⟨E1, _, rfl, ?_⟩; (try dsimp only)
    exact .inl ⟨rfl, by simpa using hg⟩

theorem ContainsFunc_ok (w : World) (v : Value) (xs : List Int) (h : Ints w v xs) (fid : FuncId) (cap : List Value) (g : Int → Bool) (hc : ∀ args w, Sem.run Try.prog (callFunc fid args) w = .ok (.enter fid args) w)
    (hf : ∀ (x : Int) (w' : World), x ∈ xs → Ext w w' → Does Try.prog fid (.int .i64 x :: cap) w' (Ret w' (.bool (g x)))) :
    Does Try.prog 85 [v, .func (.func fid) [].toArray cap.toArray] w (Ret w (.bool (xs.any g))) := by
  have hi := IndexFunc_ok w v xs h fid cap g hc hf
  refine fn_of_W1 Try.func85 rfl Try.results85 Try.ntmps85 rfl ?_
  focus
    refine W_seq ?_; refine W_region rfl ?_; refine Wo rfl (opv_assign (v := .bool _) rfl) ?_; refine Wo_nil ?_; refine W_seq ?_; refine W_region rfl ?_; refine Wo rfl (opv_move (v := v) rfl) ?_
    refine Wo rfl (opv_move (v := .func _ _ _) rfl) ?_; refine Wo_call rfl (opc2 (a := v) (b := .func _ _ _) Try.call90 rfl rfl) (hi) ?_; rintro _ w1 ⟨E1, y1, rfl, hy1⟩; have hs1 := E1.size; refine Wo rfl (opv_geq rfl rfl) ?_
    refine Wo rfl (opv_assign (v := .bool _) rfl) ?_; refine Wo_nil ?_; refine W_ret ?_; refine at_ret (v := .bool _) rfl ?_; refine ⟨congrArg Value.bool ?_, E1⟩
  rcases hy1 with ⟨rfl, h9⟩ | ⟨h8, h9⟩
  · rw [h9]; rfl
  · rw [h9]; exact decide_eq_true h8

theorem emptyPicture_ok (w : World) (n : Nat) (hn : n ≤ 1048576) : Does Try.prog 74 [.int .i64 (n : Int)] w (RetO w XR (List.replicate n (List.replicate n 0))) := by
  refine fn_of_W1 Try.func74 rfl Try.results74 Try.ntmps74 rfl ?_
  focus
    refine W_seq ?_; refine W_region rfl ?_; refine Wo rfl (opv_assign (v := .slice _ _ _) rfl) ?_; refine Wo_nil ?_; refine W_seq ?_; refine W_region rfl ?_; refine Wo_lit0 (XSl 3 XInt) rfl el50 Try.sizeOf23 ?_
    rintro b1 w1 hb1 b1lt E1 hO1; have hs1 := E1.size; refine Wo rfl (opv_assign (v := .slice _ _ _) rfl) ?_; refine Wo_nil ?_; refine W_seq ?_; refine W_seq ?_; refine W_region rfl ?_; refine Wo rfl (opv_move (v := .int _ _) rfl) ?_
    refine Wo rfl (opv_move (v := .int _ _) rfl) ?_; refine Wo_nil ?_; refine W_block ?_
  refine W_loop [3, 6, 7, 8, 9, 10, 11, 12, 13] (fun (k, u) => [(6, .int .i64 (k : Nat)), (3, u)]) (fun (k, u) w' => Ext w w' ∧ k ≤ n ∧ Owned w.heap.size XR w' u (List.replicate k (List.replicate n 0))) (fun x => n - x.1) (0, .slice (some ⟨b1, 0, none⟩) 0 0) (by repeat (first | exact trivial | refine And.intro rfl ?_)) ?_ ?_
  · exact ⟨by assumption, Nat.zero_le _, by simpa using hO1⟩
  rintro ⟨k, u⟩ ρj w2 ⟨E2, hk, hO2⟩
  focus
    have szE2 := E2.size; have szE1 := E1.size; refine W_seq ?_; refine W_region rfl ?_; refine Wo rfl (opv_lss rfl rfl) ?_; refine Wo_nil ?_; refine W_seq ?_; refine W_cond_dec rfl (fun h1 => ?_) (fun h1 => ?_); refine W_skip ?_
    refine W_seq ?_; refine W_block ?_; refine W_region rfl ?_; refine Wo rfl (opv_move (v := u) rfl) ?_; refine Wo rfl (opv_move (v := .int _ _) rfl) ?_; refine Wo_makeI rfl el23 rfl (by omega) ?_; rintro b2 w3 hb2 b2lt E3 hO3
    have hs2 := E3.size; refine Wo_buildSlice (ps := [(0, .slice _ _ _)]) (cs := [_]) rfl Try.underlying50 Try.sizeOf23 Try.zeroValue23 rfl rfl rfl rfl ?_; rintro b3 w4 hb3 E4 hB1; have hlb3 := hB1.lt; have hs3 := E4.size
    refine Wo_app1 rfl el50 rfl rfl hB1 (hO2.toB.ext (E3.trans E4)) (hO3.toB.ext E4).o (by omega) (by first | omega | (simp <;> omega)) (by omega) (by omega) ((E2.trans E3).trans E4) (by omega) ?_
    have hT1 := (hO2.toB.ext (E3.trans E4)); rintro v1 w5 hO2 E5 M1; have hO3 := (hO3.toB.ext E4).moves M1 hT1 (by omega); have hB1 := hB1.moves M1 hT1 (by omega); have hs4 := E5.size; refine Wo rfl (opv_assign (v := v1) rfl) ?_
    refine Wo_nil ?_; refine W_region rfl ?_; refine Wo rfl (opv_add rfl rfl (by omega)) ?_; refine Wo rfl (opv_move (v := .int _ _) rfl) ?_; refine Wo_nil ?_; rotate_left; refine W_exit ?_; refine exitX_same ?_; refine W_seq ?_
    refine W_region rfl ?_; refine Wo rfl (opv_move (v := u) rfl) ?_; refine Wo rfl (opv_assign (v := u) rfl) ?_; refine Wo_nil ?_; refine W_ret ?_; refine ⟨E2, (congrArg (Owned _ _ _ _) ?_).mp (hO2.toB.o.mono (by omega))⟩; rotate_left
  · refine ⟨((k + 1, v1)), by repeat (first | exact trivial | refine And.intro rfl ?_), by repeat (first | with_reducible exact Same.refl | refine Same.upd rfl ?_ | refine Same.upds rfl ?_ | refine Same.mix rfl ?_), ?_, ?_⟩
    · refine ⟨by assumption, by omega, ?_⟩
      rw [List.replicate_succ']; exact hO2
    · simp only; omega
  · obtain rfl : k = n := by omega
    rfl

end Go.Proofs.Ytlalfmialbolhaa
namespace Go.Hs
section
variable {P : Program} {op : Op} {ty : TypeId} {ρ : Env} {w : World} {b : Bool}
end
theorem Blk.movesOff {w w' : World} {v v' : Value} {b : Nat} {cs : List Value} (h : Blk w b cs) (M : Moves w v w' v') (hv : v.ownBlock ≠ some b) : Blk w' b cs :=
  h.of_heap (M.1.block b h.lt fun e => hv e.symm)
/-- What a call leaves that hands back data of its own, and a truth value. -/
def RetOB {α : Type} (w : World) (X : World → List Nat → Value → α → Prop) (x : α) (b : Bool) : Value → World → Prop := fun v w' => ∃ u, v = .tuple #[u, .bool b] ∧ Ext w w' ∧ Owned w.heap.size X w' u x
end Go.Hs
namespace Go.Proofs.Ytlalfmialbolhaa
open Go.Hs
set_option maxRecDepth 10000
set_option maxHeartbeats 4000000
set_option linter.unusedVariables false
set_option linter.unusedSimpArgs false
def idxV (xs : List Int) (n : Int) : Int := if n ∈ xs then (xs.idxOf n : Int) else -1

theorem Idx_ok (w : World) (v : Value) (xs : List Int) (h : Ints w v xs) (n : Int) :
    Does Try.prog 82 [v, .int .i64 n] w (Ret w (.int .i64 (idxV xs n))) := by
  have hle := h.le
  refine fn_of_W1 Try.func82 rfl Try.results82 Try.ntmps82 rfl ?_
  focus
    refine W_seq ?_; refine W_region rfl ?_; refine Wo rfl (opv_assign (v := .int _ _) rfl) ?_; refine Wo_nil ?_; refine W_seq ?_; refine W_seq ?_; refine W_region rfl ?_; refine Wo rfl (opv_move (v := v) rfl) ?_
    refine Wo rfl (opv_len Try.underlying23 rfl h) ?_; refine Wo rfl (opv_move (v := .int _ _) rfl) ?_; refine Wo_nil ?_; refine W_block ?_
  refine W_loop [4, 5, 8, 9, 10, 11, 12, 13, 14, 15, 16, 17, 18] (fun (k : Nat) => [(8, .int .i64 (k : Nat))]) (fun k w' => Ext w w' ∧ k ≤ xs.length ∧ n ∉ xs.take k) (fun x => xs.length - x) 0 (by repeat (first | exact trivial | refine And.intro rfl ?_)) ?_ ?_
  · exact ⟨Ext.refl _, Nat.zero_le _, by simp⟩
  rintro k ρj w1 ⟨E1, hk, hg⟩
  by_cases hlt : k < xs.length
  · have hmem := List.getElem_mem hlt
    have hidx : n = xs[k] → idxV xs n = k := fun e => by
      unfold idxV
      rw [if_pos (by rw [e]; exact hmem)]
      have h1 : xs = xs.take k ++ xs[k] :: xs.drop (k + 1) := by rw [← List.drop_eq_getElem_cons hlt, List.take_append_drop]
      conv => lhs; rw [h1]
      rw [List.idxOf_append, if_neg hg, e, List.idxOf_cons_self]
      simp; omega
    focus
      have szE1 := E1.size; refine W_seq ?_; refine W_region rfl ?_; refine Wo rfl (opv_lss rfl rfl) ?_; refine Wo_nil ?_; refine W_seq ?_; refine W_cond_dec rfl (fun h1 => ?_) (fun h1 => ?_); refine W_skip ?_; refine W_seq ?_
      refine W_block ?_; refine W_seq ?_; refine W_region rfl ?_; refine Wo rfl (opv_move (v := .int _ _) rfl) ?_; refine Wo rfl (opv_assign (v := .int _ _) rfl) ?_; refine Wo_nil ?_; refine W_seq ?_; refine W_region rfl ?_
      refine Wo rfl (opv_move (v := .int _ _) rfl) ?_; refine Wo rfl (opv_move (v := v) rfl) ?_; refine Wo rfl (opv_move (v := .int _ _) rfl) ?_
      refine Wo_get Try.underlying23 Try.sizeOf3 Try.isAgg3 rfl (fun _ => rfl) rfl h E1 rfl (by first | omega | (simp <;> omega)) ?_; rintro _ _ rfl; refine Wo rfl (opv_eql rfl rfl) ?_; refine Wo_nil ?_
      refine W_cond_dec rfl (fun h2 => ?_) (fun h2 => ?_); refine W_seq ?_; refine W_region rfl ?_; refine Wo rfl (opv_move (v := .int _ _) rfl) ?_; refine Wo rfl (opv_assign (v := .int _ _) rfl) ?_; refine Wo_nil ?_; refine W_ret ?_
      refine at_ret (v := .int _ _) rfl ?_; refine ⟨congrArg (Value.int .i64) ?_, E1⟩; rotate_left; refine W_skip ?_; refine W_region rfl ?_; refine Wo rfl (opv_add rfl rfl (by omega)) ?_; refine Wo rfl (opv_move (v := .int _ _) rfl) ?_
      refine Wo_nil ?_; rotate_left; (exfalso; omega)
    · exact (hidx (by assumption)).symm
    · have e : ¬ n = xs[k] := by assumption
      refine ⟨(k + 1), by repeat (first | exact trivial | refine And.intro rfl ?_), by repeat (first | with_reducible exact Same.refl | refine Same.upd rfl ?_ | refine Same.upds rfl ?_ | refine Same.mix rfl ?_), ?_, ?_⟩
      · refine ⟨E1, by omega, ?_⟩
        rw [take_snoc _ _ hlt, List.mem_append]
        rintro (h9 | h9)
        · exact hg h9
        · exact e (List.mem_singleton.1 h9)
      · omega
  · obtain rfl : k = xs.length := by omega
    focus
      have szE1 := E1.size; refine W_seq ?_; refine W_region rfl ?_; refine Wo rfl (opv_lss rfl rfl) ?_; refine Wo_nil ?_; refine W_seq ?_; refine W_cond_dec rfl (fun h1 => ?_) (fun h1 => ?_); (exfalso; omega); refine W_exit ?_
      refine exitX_same ?_; refine W_seq ?_; refine W_region rfl ?_; refine Wo rfl (opv_assign (v := .int _ _) rfl) ?_; refine Wo_nil ?_; refine W_ret ?_; refine at_ret (v := .int _ _) rfl ?_; refine ⟨congrArg (Value.int .i64) ?_, E1⟩
    unfold idxV
    rw [if_neg (by simpa using hg)]

theorem Cont_ok (w : World) (v : Value) (xs : List Int) (h : Ints w v xs) (n : Int) :
    Does Try.prog 73 [v, .int .i64 n] w (Ret w (.bool (decide (n ∈ xs)))) := by
  refine fn_of_W1 Try.func73 rfl Try.results73 Try.ntmps73 rfl ?_
  focus
    refine W_seq ?_; refine W_region rfl ?_; refine Wo rfl (opv_assign (v := .bool _) rfl) ?_; refine Wo_nil ?_; refine W_seq ?_; refine W_region rfl ?_; refine Wo rfl (opv_move (v := v) rfl) ?_
    refine Wo rfl (opv_move (v := .int _ _) rfl) ?_; refine Wo_call rfl (opc2 (a := v) (b := .int _ _) Try.call82 rfl rfl) (Idx_ok _ _ _ (h) _) ?_; rintro _ w1 ⟨rfl, E1⟩; have hs1 := E1.size; refine Wo rfl (opv_geq rfl rfl) ?_
    refine Wo rfl (opv_assign (v := .bool _) rfl) ?_; refine Wo_nil ?_; refine W_ret ?_; refine at_ret (v := .bool _) rfl ?_; refine ⟨congrArg Value.bool ?_, E1⟩
  unfold idxV
  by_cases h9 : n ∈ xs
  · rw [if_pos h9, decide_eq_true h9]; exact decide_eq_true (by omega)
  · rw [if_neg h9, decide_eq_false h9]; rfl

end Go.Proofs.Ytlalfmialbolhaa
set_option linter.unusedVariables false
set_option linter.unusedSimpArgs false
namespace Go.Hs

/-- each arrow of a is answered by one of b -/
def mch (p : List (List Int)) (S : Nat → Nat → Bool) (a b : Nat) : Bool := (arr p a).all fun k => (arr p b).any fun j => S k j
/-- not told apart within n rounds -/
def bsm (p : List (List Int)) : Nat → Nat → Nat → Bool
  | 0 => fun _ _ => true
  | n + 1 => fun a b => bsm p n a b && (mch p (bsm p n) a b && mch p (bsm p n) b a)
section
variable {p : List (List Int)} {a b n : Nat}
theorem bsm_sym : ∀ (n a b : Nat), bsm p n a b = bsm p n b a := by
  intro n
  induction n with
  | zero => intro a b; rfl
  | succ n ih =>
    intro a b
    simp only [bsm]
    rw [ih a b, Bool.and_comm (mch p (bsm p n) a b)]
theorem mch_flip {S : Nat → Nat → Bool} (h : ∀ a b, S a b = S b a) : mch p S b a = (arr p b).all fun y => (arr p a).any fun x => S x y := by
  unfold mch
  congr 1; funext k; congr 1; funext j
  exact h k j
theorem bsm_le (h : bsm p (n + 1) a b = true) : bsm p n a b = true := by
  simp only [bsm, Bool.and_eq_true] at h; exact h.1
def b01 (b : Bool) : Int := if b then 1 else 0
/-- the rows that say who is not told apart -/
def matV (p : List (List Int)) (S : Nat → Nat → Bool) : List (List Int) := (List.range p.length).map fun a => (List.range p.length).map fun b => b01 (S a b)
theorem matV_len (S : Nat → Nat → Bool) : (matV p S).length = p.length := by simp [matV]
theorem matV_row {S : Nat → Nat → Bool} (ha : a < p.length) : (matV p S)[a]'(by rw [matV_len]; exact ha) = (List.range p.length).map fun b => b01 (S a b) := by simp [matV]
theorem matV_rlen {S : Nat → Nat → Bool} (ha : a < p.length) : ((matV p S)[a]'(by rw [matV_len]; exact ha)).length = p.length := by rw [matV_row ha]; simp
theorem b01_one {b : Bool} : b01 b = 1 ↔ b = true := by cases b <;> simp [b01]
theorem matV_at {S : Nat → Nat → Bool} (ha : a < p.length) (hb : b < p.length) : ((matV p S)[a]'(by rw [matV_len]; exact ha))[b]'(by rw [matV_rlen ha]; exact hb) = b01 (S a b) := by
  simp [matV]
theorem matV_zero : List.replicate p.length (List.replicate p.length (1 : Int)) = matV p (bsm p 0) := by
  have hr : ∀ {α : Type} (n : Nat) (x : α), (List.range n).map (fun _ => x) = List.replicate n x := fun n x => by
    rw [List.map_const']; simp
  unfold matV
  simp only [bsm, b01, if_pos, if_true]
  rw [hr, hr]
end
end Go.Hs
set_option linter.unusedVariables false
namespace Go.Hs
open Classical

inductive Rch (p : List (List Int)) : Nat → Nat → Prop
  | refl (i : Nat) : Rch p i i
  | step {i k j : Nat} : Rch p i k → j ∈ arr p k → Rch p i j

section
variable {p : List (List Int)} {i j k n : Nat}
theorem Rch.trans (h : Rch p i k) (h2 : Rch p k j) : Rch p i j := by
  induction h2 with
  | refl => exact h
  | step _ hj ih => exact ih.step hj
theorem Rch.head (h : k ∈ arr p i) (h2 : Rch p k j) : Rch p i j := ((Rch.refl i).step h).trans h2
theorem Rch.lt (hp : Gr p) (hi : i < p.length) (h : Rch p i j) : j < p.length := by
  induction h with
  | refl => exact hi
  | step h hj ih => exact ((mem_arr hp ih).1 hj).1

/-- how many below n -/
noncomputable def cnt (P : Nat → Prop) : Nat → Nat
  | 0 => 0
  | n + 1 => cnt P n + if P n then 1 else 0
theorem cnt_le (P : Nat → Prop) (n : Nat) : cnt P n ≤ n := by
  induction n with
  | zero => exact Nat.le_refl _
  | succ n ih => simp only [cnt]; split <;> omega
theorem cnt_mono {P Q : Nat → Prop} (h : ∀ j, j < n → P j → Q j) : cnt P n ≤ cnt Q n := by
  induction n with
  | zero => exact Nat.le_refl _
  | succ n ih =>
    have := ih fun j hj => h j (by omega)
    have h2 := h n (by omega)
    simp only [cnt]
    split <;> split <;> first | omega | (exfalso; simp_all)
theorem cnt_lt {P Q : Nat → Prop} (h : ∀ j, j < n → P j → Q j) (hk : k < n) (h1 : Q k) (h2 : ¬ P k) : cnt P n < cnt Q n := by
  induction n with
  | zero => omega
  | succ n ih =>
    simp only [cnt]
    by_cases e : k = n
    · subst e
      have := cnt_mono (n := k) fun j hj => h j (by omega)
      rw [if_neg h2, if_pos h1]; omega
    · have := ih (fun j hj => h j (by omega)) (by omega)
      have h3 := h n (by omega)
      split <;> split <;> first | omega | (exfalso; simp_all)
theorem cnt_pos {P : Nat → Prop} (hk : k < n) (h1 : P k) : 1 ≤ cnt P n := by
  have := cnt_lt (n := n) (P := fun _ => False) (Q := P) (fun _ _ h => h.elim) hk h1 id
  omega

/-- what i reaches, in order -/
noncomputable def rch (p : List (List Int)) (i j : Nat) : Bool := decide (Rch p i j)
theorem rch_iff : rch p i j = true ↔ Rch p i j := decide_eq_true_iff
noncomputable def rf (p : List (List Int)) (i : Nat) : List Nat := (List.range p.length).filter (rch p i)
theorem mem_rf (hp : Gr p) (hi : i < p.length) : j ∈ rf p i ↔ Rch p i j := by
  simp only [rf, List.mem_filter, List.mem_range, rch_iff]
  exact ⟨fun h => h.2, fun h => ⟨h.lt hp hi, h⟩⟩
noncomputable def sortI (xs : List Int) : List Int := xs.mergeSort fun x y => decide (x ≤ y)
theorem sortI_len (xs : List Int) : (sortI xs).length = xs.length := by unfold sortI; simp
theorem sortI_eq {xs ys : List Int} (h : xs.Perm ys) (hs : ys.Pairwise (· ≤ ·)) : sortI xs = ys := by
  refine List.Perm.eq_of_pairwise (le := (· ≤ ·)) (fun a b _ _ h1 h2 => Int.le_antisymm h1 h2) ?_ hs ((List.mergeSort_perm _ _).trans h)
  refine (List.pairwise_mergeSort (fun a b c h1 h2 => ?_) (fun a b => ?_) xs).imp (fun h => by simpa using h)
  · simp only [decide_eq_true_eq] at *; omega
  · simp only [Bool.or_eq_true, decide_eq_true_eq]; omega
theorem ints_mono {l : List Nat} (h : l.Pairwise (· < ·)) : (ints l).Pairwise (· ≤ ·) := by
  unfold ints
  rw [List.pairwise_map]
  exact h.imp (fun h => by omega)
theorem mem_ints {l : List Nat} {x : Nat} : (x : Int) ∈ ints l ↔ x ∈ l := by
  unfold ints
  rw [List.mem_map]
  exact ⟨fun ⟨y, h1, h2⟩ => by rw [show x = y by omega]; exact h1, fun h => ⟨x, h, rfl⟩⟩
theorem contains_ints {l : List Nat} {x : Nat} : decide ((x : Int) ∈ ints l) = l.contains x := by
  rw [Bool.eq_iff_iff, decide_eq_true_iff, mem_ints, List.contains_iff_mem]
theorem ints_get {l : List Nat} {k : Nat} (h : k < l.length) : (ints l)[k]'(by rw [ints_len]; exact h) = ((l[k] : Nat) : Int) := by simp [ints]
theorem range_filter_pw (f : Nat → Bool) (n : Nat) : ((List.range n).filter f).Pairwise (· < ·) := List.pairwise_lt_range.filter f
theorem pw_nodup {l : List Nat} (h : l.Pairwise (· < ·)) : l.Nodup := h.imp (fun h => by omega)
/-- A list that holds i, only what i reaches, each once, and is closed under arrows: sorted it is all that i reaches. -/
theorem bfs (hp : Gr p) (hi : i < p.length) {l : List Nat} (hn : l.Nodup) (h0 : i ∈ l) (hs : ∀ j ∈ l, Rch p i j) (hc : ∀ k ∈ l, ∀ j ∈ arr p k, j ∈ l) : sortI (ints l) = ints (rf p i) := by
  refine sortI_eq ?_ (ints_mono (range_filter_pw _ _))
  refine List.Perm.map _ ((List.perm_ext_iff_of_nodup hn (pw_nodup (range_filter_pw _ _))).2 fun j => ?_)
  rw [show (j ∈ (List.range p.length).filter (rch p i)) ↔ Rch p i j from mem_rf hp hi]
  refine ⟨hs j, fun h => ?_⟩
  induction h with
  | refl => exact h0
  | step h hj ih => exact hc _ ih _ hj
theorem nodup_len {l : List Nat} (hn : l.Nodup) (hl : ∀ j ∈ l, j < n) : l.length ≤ n := by
  have h := List.Nodup.length_le_of_subset hn (l₂ := List.range n) (fun j hj => List.mem_range.2 (hl j hj))
  simpa using h
noncomputable def onl (p : List (List Int)) (u : Nat) : Bool := (arr p u).any fun v => (rf p v).contains u
/-- k comes back: it reaches a node on a loop -/
noncomputable def cback (p : List (List Int)) (i : Nat) : Bool := (rf p i).any (onl p)
theorem cback_iff (hp : Gr p) (hi : i < p.length) : cback p i = true ↔ ∃ u v, Rch p i u ∧ v ∈ arr p u ∧ Rch p v u := by
  unfold cback onl
  simp only [List.any_eq_true, List.contains_iff_mem]
  constructor
  · rintro ⟨u, h1, v, h2, h3⟩
    have h4 := (mem_rf hp hi).1 h1
    have hv : v < p.length := ((mem_arr hp (h4.lt hp hi)).1 h2).1
    exact ⟨u, v, h4, h2, (mem_rf hp hv).1 h3⟩
  · rintro ⟨u, v, h1, h2, h3⟩
    have hv : v < p.length := ((mem_arr hp (h1.lt hp hi)).1 h2).1
    exact ⟨u, (mem_rf hp hi).2 h1, v, h2, (mem_rf hp hv).2 h3⟩
end
end Go.Hs
set_option linter.unusedVariables false
set_option linter.unusedSimpArgs false
namespace Go.Hs
section
variable {p : List (List Int)} {a b c d n m : Nat}
theorem mch_iff {S : Nat → Nat → Bool} : mch p S a b = true ↔ ∀ k ∈ arr p a, ∃ j ∈ arr p b, S k j = true := by simp [mch, List.all_eq_true, List.any_eq_true]
theorem bsm_succ : bsm p (n + 1) a b = true ↔ bsm p n a b = true ∧ (∀ k ∈ arr p a, ∃ j ∈ arr p b, bsm p n k j = true) ∧ (∀ k ∈ arr p b, ∃ j ∈ arr p a, bsm p n k j = true) := by
  simp only [bsm, Bool.and_eq_true, mch_iff]
theorem bsm_refl : ∀ (n a : Nat), bsm p n a a = true := by
  intro n
  induction n with
  | zero => intro a; rfl
  | succ n ih => intro a; exact bsm_succ.2 ⟨ih a, fun k hk => ⟨k, hk, ih k⟩, fun k hk => ⟨k, hk, ih k⟩⟩
theorem bsm_trans : ∀ (n : Nat) {a b c : Nat}, bsm p n a b = true → bsm p n b c = true → bsm p n a c = true := by
  intro n
  induction n with
  | zero => intro a b c _ _; rfl
  | succ n ih =>
    intro a b c h1 h2
    obtain ⟨h3, h4, h5⟩ := bsm_succ.1 h1
    obtain ⟨h6, h7, h8⟩ := bsm_succ.1 h2
    refine bsm_succ.2 ⟨ih h3 h6, fun k hk => ?_, fun k hk => ?_⟩
    · obtain ⟨j, hj, e⟩ := h4 k hk
      obtain ⟨i, hi, e2⟩ := h7 j hj
      exact ⟨i, hi, ih e e2⟩
    · obtain ⟨j, hj, e⟩ := h8 k hk
      obtain ⟨i, hi, e2⟩ := h5 j hj
      exact ⟨i, hi, ih e e2⟩
/-- the least of those it is not told apart from -/
def ldr (p : List (List Int)) (n a : Nat) : Prop := ∀ b, b < a → bsm p n b a = false
theorem ldr_ex (n : Nat) : ∀ a, ∃ c, c ≤ a ∧ ldr p n c ∧ bsm p n c a = true := by
  intro a
  induction a using Nat.strongRecOn with
  | ind a ih =>
    by_cases h : ldr p n a
    · exact ⟨a, Nat.le_refl _, h, bsm_refl _ _⟩
    · obtain ⟨b, hb⟩ := Classical.not_forall.1 h
      obtain ⟨hb, h2⟩ := Classical.not_imp.1 hb
      obtain ⟨c, hc, h3, h4⟩ := ih b hb
      exact ⟨c, by omega, h3, bsm_trans n h4 (by simpa using h2)⟩
theorem ldr_eq (h1 : ldr p n c) (h2 : ldr p n d) (h : bsm p n c d = true) : c = d := by
  rcases Nat.lt_trichotomy c d with hl | rfl | hl
  · rw [h2 c hl] at h; cases h
  · rfl
  · rw [bsm_sym, h1 d hl] at h; cases h
theorem ldr_up (h : ldr p n a) : ldr p (n + 1) a := fun b hb => by
  cases hc : bsm p (n + 1) b a with
  | false => rfl
  | true => have := bsm_le hc; rw [h b hb] at this; cases this
def stab (p : List (List Int)) (n : Nat) : Prop := ∀ a b, a < p.length → b < p.length → bsm p n a b = true → bsm p (n + 1) a b = true
theorem stab_of (h : ∀ a, a < p.length → ldr p (n + 1) a → ldr p n a) : stab p n := fun a b ha hb hab => by
  obtain ⟨c, hc, hc1, hc2⟩ := ldr_ex (p := p) (n + 1) a
  obtain ⟨d, hd, hd1, hd2⟩ := ldr_ex (p := p) (n + 1) b
  have e : c = d := by
    refine ldr_eq (h c (by omega) hc1) (h d (by omega) hd1) (bsm_trans n (bsm_le hc2) (bsm_trans n hab ?_))
    rw [bsm_sym]; exact bsm_le hd2
  subst e
  refine bsm_trans (n + 1) ?_ hd2
  rw [bsm_sym]; exact hc2
theorem arr_lt (hp : Gr p) (ha : a < p.length) (h : b ∈ arr p a) : b < p.length := ((mem_arr hp ha).1 h).1
theorem stab_succ (hp : Gr p) (h : stab p n) : stab p (n + 1) := fun a b ha hb hab => by
  obtain ⟨h1, h2, h3⟩ := bsm_succ.1 hab
  refine bsm_succ.2 ⟨hab, fun k hk => ?_, fun k hk => ?_⟩
  · obtain ⟨j, hj, e⟩ := h2 k hk
    exact ⟨j, hj, h _ _ (arr_lt hp ha hk) (arr_lt hp hb hj) e⟩
  · obtain ⟨j, hj, e⟩ := h3 k hk
    exact ⟨j, hj, h _ _ (arr_lt hp hb hk) (arr_lt hp ha hj) e⟩
theorem stab_or (hp : Gr p) : ∀ n, stab p n ∨ n + 1 < cnt (ldr p (n + 1)) p.length := by
  have key : ∀ n, stab p n ∨ cnt (ldr p n) p.length < cnt (ldr p (n + 1)) p.length := fun n => by
    by_cases h : ∀ a, a < p.length → ldr p (n + 1) a → ldr p n a
    · exact .inl (stab_of h)
    · right
      obtain ⟨a, ha⟩ := Classical.not_forall.1 h
      obtain ⟨ha, h2⟩ := Classical.not_imp.1 ha
      obtain ⟨h2, h3⟩ := Classical.not_imp.1 h2
      exact cnt_lt (fun j _ hj => ldr_up hj) ha h2 h3
  intro n
  induction n with
  | zero =>
    rcases key 0 with h | h
    · exact .inl h
    · have := cnt_pos (P := ldr p 0) (k := 0) (n := p.length) (by have := hp.1; omega) (fun b hb => by omega)
      right; omega
  | succ n ih =>
    rcases ih with h | h
    · exact .inl (stab_succ hp h)
    · rcases key (n + 1) with h2 | h2
      · exact .inl h2
      · right; omega
theorem stab_len (hp : Gr p) (h : p.length ≤ n + 1) : stab p n := by
  rcases stab_or hp n with h1 | h1
  · exact h1
  · have := cnt_le (ldr p (n + 1)) p.length; omega
end
end Go.Hs
set_option linter.unusedVariables false
set_option linter.unusedSimpArgs false
namespace Go.Hs
open Classical
section
variable {p q s : List (List Int)} {a b c x y z k j n m : Nat}

/-- both draw the same set -/
def Bis (p : List (List Int)) (a : Nat) (q : List (List Int)) (b : Nat) : Prop :=
  ∃ R : Nat → Nat → Prop, R a b ∧ ∀ x y, R x y → (∀ k ∈ arr p x, ∃ j ∈ arr q y, R k j) ∧ (∀ j ∈ arr q y, ∃ k ∈ arr p x, R k j)
theorem Bis.refl : Bis p a p a := ⟨fun x y => x = y, rfl, by rintro x y rfl; exact ⟨fun k hk => ⟨k, hk, rfl⟩, fun k hk => ⟨k, hk, rfl⟩⟩⟩
theorem Bis.symm (h : Bis p a q b) : Bis q b p a := by
  obtain ⟨R, h1, h2⟩ := h
  exact ⟨fun x y => R y x, h1, fun x y h => ⟨(h2 y x h).2, (h2 y x h).1⟩⟩
theorem Bis.trans (h : Bis p a q b) (h' : Bis q b s c) : Bis p a s c := by
  obtain ⟨R, h1, h2⟩ := h
  obtain ⟨S, h3, h4⟩ := h'
  refine ⟨fun x z => ∃ y, R x y ∧ S y z, ⟨b, h1, h3⟩, fun x z ⟨y, h5, h6⟩ => ⟨fun k hk => ?_, fun k hk => ?_⟩⟩
  · obtain ⟨j, hj, e⟩ := (h2 x y h5).1 k hk
    obtain ⟨i, hi, e2⟩ := (h4 y z h6).1 j hj
    exact ⟨i, hi, j, e, e2⟩
  · obtain ⟨j, hj, e⟩ := (h4 y z h6).2 k hk
    obtain ⟨i, hi, e2⟩ := (h2 x y h5).2 j hj
    exact ⟨i, hi, j, e2, e⟩
theorem Bis.fst (h : Bis p a q b) : ∀ k ∈ arr p a, ∃ j ∈ arr q b, Bis p k q j := by
  obtain ⟨R, h1, h2⟩ := h
  intro k hk
  obtain ⟨j, hj, e⟩ := (h2 a b h1).1 k hk
  exact ⟨j, hj, R, e, h2⟩
theorem Bis.snd (h : Bis p a q b) : ∀ j ∈ arr q b, ∃ k ∈ arr p a, Bis p k q j := by
  obtain ⟨R, h1, h2⟩ := h
  intro k hk
  obtain ⟨j, hj, e⟩ := (h2 a b h1).2 k hk
  exact ⟨j, hj, R, e, h2⟩
/-- what has the same members is the same -/
theorem Bis.mk (h1 : ∀ k ∈ arr p a, ∃ j ∈ arr q b, Bis p k q j) (h2 : ∀ j ∈ arr q b, ∃ k ∈ arr p a, Bis p k q j) : Bis p a q b := by
  refine ⟨fun x y => (x = a ∧ y = b) ∨ Bis p x q y, .inl ⟨rfl, rfl⟩, fun x y h => ?_⟩
  have hh : (∀ k ∈ arr p x, ∃ j ∈ arr q y, Bis p k q j) ∧ (∀ j ∈ arr q y, ∃ k ∈ arr p x, Bis p k q j) := by
    rcases h with ⟨rfl, rfl⟩ | h
    · exact ⟨h1, h2⟩
    · exact ⟨h.fst, h.snd⟩
  exact ⟨fun k hk => by obtain ⟨j, hj, e⟩ := hh.1 k hk; exact ⟨j, hj, .inr e⟩, fun k hk => by obtain ⟨j, hj, e⟩ := hh.2 k hk; exact ⟨j, hj, .inr e⟩⟩
theorem Bis.rch (h : Bis p a q b) (hr : Rch p a x) : ∃ y, Rch q b y ∧ Bis p x q y := by
  induction hr with
  | refl => exact ⟨b, .refl _, h⟩
  | step h1 hj ih =>
    obtain ⟨y, h2, h3⟩ := ih
    obtain ⟨j, hj', e⟩ := h3.fst _ hj
    exact ⟨j, h2.step hj', e⟩

/-- not told apart in as many rounds as there are nodes -/
def eqv (p : List (List Int)) (a b : Nat) : Bool := bsm p p.length a b
theorem Bis.bsm (h : Bis p a p b) : ∀ n, bsm p n a b = true := by
  intro n
  obtain ⟨R, h1, h2⟩ := h
  induction n generalizing a b with
  | zero => rfl
  | succ n ih =>
    refine bsm_succ.2 ⟨ih h1, fun k hk => ?_, fun k hk => ?_⟩
    · obtain ⟨j, hj, e⟩ := (h2 a b h1).1 k hk
      exact ⟨j, hj, ih e⟩
    · obtain ⟨j, hj, e⟩ := (h2 a b h1).2 k hk
      refine ⟨j, hj, ?_⟩
      rw [bsm_sym]; exact ih e
theorem bis_of_eqv (hp : Gr p) (ha : a < p.length) (hb : b < p.length) (h : eqv p a b = true) : Bis p a p b := by
  refine ⟨fun x y => x < p.length ∧ y < p.length ∧ eqv p x y = true, ⟨ha, hb, h⟩, fun x y ⟨h1, h2, h3⟩ => ?_⟩
  obtain ⟨_, h4, h5⟩ := bsm_succ.1 (stab_len hp (Nat.le_succ _) x y h1 h2 h3)
  refine ⟨fun k hk => ?_, fun k hk => ?_⟩
  · obtain ⟨j, hj, e⟩ := h4 k hk
    exact ⟨j, hj, arr_lt hp h1 hk, arr_lt hp h2 hj, e⟩
  · obtain ⟨j, hj, e⟩ := h5 k hk
    refine ⟨j, hj, arr_lt hp h1 hj, arr_lt hp h2 hk, ?_⟩
    unfold eqv; rw [bsm_sym]; exact e
theorem eqv_iff (hp : Gr p) (ha : a < p.length) (hb : b < p.length) : eqv p a b = true ↔ Bis p a p b := ⟨bis_of_eqv hp ha hb, fun h => h.bsm _⟩

/-- the least node that draws the same set -/
def knd (p : List (List Int)) (a : Nat) : Nat := ((List.range p.length).find? fun b => eqv p a b).getD 0
theorem knd_spec (ha : a < p.length) : knd p a < p.length ∧ eqv p a (knd p a) = true ∧ ∀ b, b < knd p a → eqv p a b = false := by
  unfold knd
  cases h : (List.range p.length).find? fun b => eqv p a b with
  | none =>
    have := List.find?_eq_none.1 h a (List.mem_range.2 ha)
    exact absurd (bsm_refl _ _) this
  | some b =>
    simp only [Option.getD_some]
    obtain ⟨h1, as1, bs, h2, h3⟩ := List.find?_eq_some_iff_append.1 h
    have hb : b < p.length := List.mem_range.1 (by rw [h2]; simp)
    refine ⟨hb, h1, fun i hi => ?_⟩
    have hpw : (List.range p.length).Pairwise (· < ·) := List.pairwise_lt_range
    rw [h2, List.pairwise_append] at hpw
    have hm : i ∈ as1 ++ b :: bs := by rw [← h2]; exact List.mem_range.2 (by omega)
    rcases List.mem_append.1 hm with hm | hm
    · simpa using h3 i hm
    · rcases List.mem_cons.1 hm with rfl | hm
      · omega
      · have := (List.pairwise_cons.1 hpw.2.1).1 i hm; omega
theorem knd_lt (ha : a < p.length) : knd p a < p.length := (knd_spec ha).1
/-- the picture of these kinds, in this order -/
def qp (p : List (List Int)) (L : List Nat) : List (List Int) := L.map fun x => L.map fun y => b01 ((arr p x).any fun j => decide (knd p j = y))
/-- these are the kinds of all that a reaches, its own first -/
def Kds (p : List (List Int)) (a : Nat) (L : List Nat) : Prop := L.Nodup ∧ L.head? = some (knd p a) ∧ ∀ x, x ∈ L ↔ ∃ y, Rch p a y ∧ knd p y = x
/-- a picture of the set at a -/
def Cand (p : List (List Int)) (a : Nat) (c : List (List Int)) : Prop := ∃ L, Kds p a L ∧ c = qp p L
theorem qp_len {L : List Nat} : (qp p L).length = L.length := by simp [qp]
theorem qp_rlen {L : List Nat} (r : List Int) (h : r ∈ qp p L) : r.length = L.length := by
  obtain ⟨x, _, rfl⟩ := List.mem_map.1 h
  simp
theorem qp_bits {L : List Nat} (r : List Int) (h : r ∈ qp p L) (x : Int) (hx : x ∈ r) : x = 0 ∨ x = 1 := by
  obtain ⟨x, _, rfl⟩ := List.mem_map.1 h
  obtain ⟨y, _, rfl⟩ := List.mem_map.1 hx
  unfold b01; split <;> simp
theorem Kds.lt {L : List Nat} (hp : Gr p) (ha : a < p.length) (h : Kds p a L) (hx : x ∈ L) : x < p.length := by
  obtain ⟨y, h1, rfl⟩ := (h.2.2 x).1 hx
  exact knd_lt (h1.lt hp ha)
theorem Kds.len {L : List Nat} (hp : Gr p) (ha : a < p.length) (h : Kds p a L) : 1 ≤ L.length ∧ L.length ≤ p.length := by
  refine ⟨?_, nodup_len h.1 fun j hj => h.lt hp ha hj⟩
  have := h.2.1
  cases L with
  | nil => cases this
  | cons _ _ => simp
theorem Kds.perm {L L' : List Nat} (h : Kds p a L) (h' : Kds p a L') : L.Perm L' := (List.perm_ext_iff_of_nodup h.1 h'.1).2 fun x => (h.2.2 x).trans (h'.2.2 x).symm
theorem Cand.len {c c' : List (List Int)} (h : Cand p a c) (h' : Cand p a c') : c.length = c'.length := by
  obtain ⟨L, h1, rfl⟩ := h
  obtain ⟨L', h1', rfl⟩ := h'
  rw [qp_len, qp_len]; exact (h1.perm h1').length_eq
theorem Cand.gr {c : List (List Int)} (hp : Gr p) (ha : a < p.length) (h : Cand p a c) : Gr c := by
  obtain ⟨L, h1, rfl⟩ := h
  have := h1.len hp ha
  refine ⟨by rw [qp_len]; exact this.1, by rw [qp_len]; have := hp.2.1; omega, fun r hr => ⟨by rw [qp_len]; exact qp_rlen r hr, qp_bits r hr⟩⟩
end
end Go.Hs
set_option linter.unusedVariables false
set_option linter.unusedSimpArgs false
namespace Go.Hs
section
variable {s : UInt8} {l r x : List UInt8} {ps qs : List (List UInt8)}
/-- what stands between the bytes s -/
def cutB (s : UInt8) : List UInt8 → List (List UInt8)
  | [] => [[]]
  | c :: l => if c = s then [] :: cutB s l else match cutB s l with
    | [] => [[c]]
    | x :: xs => (c :: x) :: xs
/-- put together, with s between them -/
def joinB (s : UInt8) : List (List UInt8) → List UInt8
  | [] => []
  | x :: xs => x ++ xs.flatMap fun y => s :: y
theorem cutB_cons (c : UInt8) (l : List UInt8) : cutB s (c :: l) = if c = s then [] :: cutB s l else match cutB s l with
    | [] => [[c]]
    | x :: xs => (c :: x) :: xs := rfl
theorem cutB_app (h : s ∉ l) : cutB s (l ++ s :: r) = l :: cutB s r := by
  induction l with
  | nil => simp [cutB]
  | cons c l ih =>
    rw [List.cons_append, cutB_cons, if_neg (fun e => h (by simp [e])), ih (fun hm => h (by simp [hm]))]
theorem cutB_one (h : s ∉ l) : cutB s l = [l] := by
  induction l with
  | nil => rfl
  | cons c l ih =>
    unfold cutB
    rw [if_neg (fun e => h (by simp [e])), ih (fun hm => h (by simp [hm]))]
theorem cutB_join (hne : ps ≠ []) (h : ∀ x ∈ ps, s ∉ x) : cutB s (joinB s ps) = ps := by
  induction ps with
  | nil => exact absurd rfl hne
  | cons x ps ih =>
    cases ps with
    | nil =>
      have : joinB s [x] = x := by simp [joinB]
      rw [this]; exact cutB_one (h x (by simp))
    | cons y ps =>
      have : joinB s (x :: y :: ps) = x ++ s :: joinB s (y :: ps) := by simp [joinB]
      rw [this, cutB_app (h x (by simp)), ih (by simp) (fun z hz => h z (by simp only [List.mem_cons] at hz ⊢; exact .inr hz))]
end

section
open Op
theorem bless_irr : ∀ (a : List UInt8), bytesLess a a = false
  | [] => rfl
  | x :: a => by
    have := bless_irr a
    simp [bytesLess, this]
theorem bless_trans : ∀ (a b c : List UInt8), bytesLess a b = true → bytesLess b c = true → bytesLess a c = true := by
  intro a
  induction a with
  | nil =>
    intro b c h1 h2
    cases b with
    | nil => simp [bytesLess] at h1
    | cons y b =>
      cases c with
      | nil => simp [bytesLess] at h2
      | cons z c => rfl
  | cons x a ih =>
    intro b c h1 h2
    cases b with
    | nil => simp [bytesLess] at h1
    | cons y b =>
      cases c with
      | nil => simp [bytesLess] at h2
      | cons z c =>
        simp only [bytesLess, Bool.or_eq_true, Bool.and_eq_true, decide_eq_true_eq, beq_iff_eq] at h1 h2 ⊢
        rcases h1 with h1 | ⟨rfl, h1⟩
        · rcases h2 with h2 | ⟨rfl, h2⟩
          · exact .inl (UInt8.lt_trans h1 h2)
          · exact .inl h1
        · rcases h2 with h2 | ⟨rfl, h2⟩
          · exact .inl h2
          · exact .inr ⟨rfl, ih b c h1 h2⟩
theorem bless_tri : ∀ (a b : List UInt8), bytesLess a b = false → bytesLess b a = false → a = b := by
  intro a
  induction a with
  | nil =>
    intro b h1 h2
    cases b with
    | nil => rfl
    | cons y b => simp [bytesLess] at h1
  | cons x a ih =>
    intro b h1 h2
    cases b with
    | nil => simp [bytesLess] at h2
    | cons y b =>
      simp only [bytesLess, Bool.or_eq_false_iff, Bool.and_eq_false_iff, decide_eq_false_iff_not, beq_eq_false_iff_ne, ne_eq] at h1 h2
      obtain ⟨h3, h4⟩ := h1
      obtain ⟨h5, h6⟩ := h2
      have e : x = y := UInt8.le_antisymm (UInt8.not_lt.1 h5) (UInt8.not_lt.1 h3)
      subst e
      rw [ih b (h4.resolve_left (fun h => h rfl)) (h6.resolve_left (fun h => h rfl))]
/-- not less, one behind the other -/
theorem bless_ge {a b c : List UInt8} (h1 : bytesLess a b = false) (h2 : bytesLess b c = false) : bytesLess a c = false := by
  cases h : bytesLess a c with
  | false => rfl
  | true =>
    by_cases e : b = a
    · subst e; rw [h] at h2; cases h2
    · cases h3 : bytesLess b a with
      | true => rw [bless_trans _ _ _ h3 h] at h2; cases h2
      | false => exact absurd (bless_tri _ _ h3 h1) e
end

section
variable {p q : List (List Int)} {r r' : List Int} {n m : Nat}
def dig (n : Nat) : UInt8 := UInt8.ofNat (48 + n)
theorem dig_toNat (h : n < 200) : (dig n).toNat = 48 + n := by unfold dig; rw [UInt8.toNat_ofNat']; omega
theorem dig_inj (h : n < 200) (h' : m < 200) (e : dig n = dig m) : n = m := by
  have := congrArg UInt8.toNat e
  rw [dig_toNat h, dig_toNat h'] at this; omega
/-- the numbers of the nodes to which there are arrows -/
def txR (r : List Int) : List UInt8 := (arrR r).map dig
/-- the text of a picture -/
def txt (p : List (List Int)) : List UInt8 := joinB 47 (p.map txR)
theorem txR_sep (h : r.length ≤ 100) : (47 : UInt8) ∉ txR r := by
  intro hm
  obtain ⟨j, hj, e⟩ := List.mem_map.1 hm
  have := (mem_arrR.1 hj).1
  have e2 := congrArg UInt8.toNat e
  rw [dig_toNat (by omega)] at e2
  have : (47 : UInt8).toNat = 47 := rfl
  omega
theorem map_inj_on {f : Nat → UInt8} : ∀ {a b : List Nat}, (∀ x ∈ a, ∀ y ∈ b, f x = f y → x = y) → a.map f = b.map f → a = b
  | [], [], _, _ => rfl
  | [], _ :: _, _, h => by simp at h
  | _ :: _, [], _, h => by simp at h
  | x :: a, y :: b, hi, h => by
    simp only [List.map_cons, List.cons.injEq] at h
    rw [hi x (by simp) y (by simp) h.1, map_inj_on (fun x hx y hy => hi x (by simp [hx]) y (by simp [hy])) h.2]
theorem arrR_inj (hl : r.length = r'.length) (h1 : ∀ x ∈ r, x = 0 ∨ x = 1) (h2 : ∀ x ∈ r', x = 0 ∨ x = 1) (h : arrR r = arrR r') : r = r' := by
  refine List.ext_getElem hl fun i hi hi' => ?_
  have h3 := h1 _ (List.getElem_mem hi)
  have h4 := h2 _ (List.getElem_mem hi')
  have e1 : i ∈ arrR r ↔ r[i] = 1 := by rw [mem_arrR, getD_lt hi]; exact ⟨fun h => h.2, fun h => ⟨hi, h⟩⟩
  have e2 : i ∈ arrR r' ↔ r'[i] = 1 := by rw [mem_arrR, getD_lt hi']; exact ⟨fun h => h.2, fun h => ⟨hi', h⟩⟩
  rw [h] at e1
  have := e1.symm.trans e2
  rcases h3 with h3 | h3 <;> rcases h4 with h4 | h4 <;> rw [h3, h4] at this ⊢ <;> simp at this
theorem txR_inj (hl : r.length = r'.length) (hr : r.length ≤ 100) (h1 : ∀ x ∈ r, x = 0 ∨ x = 1) (h2 : ∀ x ∈ r', x = 0 ∨ x = 1) (h : txR r = txR r') : r = r' := by
  refine arrR_inj hl h1 h2 (map_inj_on (fun x hx y hy e => ?_) h)
  have := (mem_arrR.1 hx).1
  have := (mem_arrR.1 hy).1
  exact dig_inj (by omega) (by omega) e
theorem cut_txt (hp : Gr p) : cutB 47 (txt p) = p.map txR := by
  refine cutB_join (by have := hp.1; intro h; simp at h; subst h; simp at this) fun x hx => ?_
  obtain ⟨r, hr, rfl⟩ := List.mem_map.1 hx
  exact txR_sep (by rw [(hp.2.2 r hr).1]; have := hp.2.1; omega)
theorem txt_inj (hp : Gr p) (hq : Gr q) (h : txt p = txt q) : p = q := by
  have e : p.map txR = q.map txR := by rw [← cut_txt hp, ← cut_txt hq, h]
  have hl : p.length = q.length := by simpa using congrArg List.length e
  refine List.ext_getElem hl fun i hi hi' => ?_
  have h1 := hp.2.2 _ (List.getElem_mem hi)
  have h2 := hq.2.2 _ (List.getElem_mem hi')
  have := hp.2.1
  refine txR_inj (by rw [h1.1, h2.1, hl]) (by rw [h1.1]; omega) h1.2 h2.2 ?_
  have := congrArg (fun l => l[i]?) e
  simpa [hi, hi'] using this
end
end Go.Hs
set_option linter.unusedVariables false
set_option linter.unusedSimpArgs false
namespace Go.Hs
open Classical Op
section
variable {p q c c' : List (List Int)} {a b n k : Nat} {o o' L L' : List Nat}
def Pre (n : Nat) (o : List Nat) : Prop := o.Nodup ∧ o.head? = some 0 ∧ ∀ x ∈ o, x < n
def Ord (n : Nat) (o : List Nat) : Prop := o.length = n ∧ Pre n o
theorem Pre.pos (h : Pre n o) : 1 ≤ o.length := by
  have := h.2.1
  cases o with
  | nil => cases this
  | cons _ _ => simp
theorem Pre.le (h : Pre n o) : o.length ≤ n := nodup_len h.1 h.2.2
/-- the nodes in another order -/
def reo (c : List (List Int)) (o : List Nat) : List (List Int) := o.map fun i => o.map fun j => bit c i j
theorem Ord.perm (h : Ord n o) : o.Perm (List.range n) := by
  refine (List.perm_ext_iff_of_nodup h.2.1 List.nodup_range).2 fun x => ⟨fun hx => List.mem_range.2 (h.2.2.2 x hx), fun hx => ?_⟩
  refine Classical.byContradiction fun hn => ?_
  have := nodup_len (n := n) (l := x :: o) (List.nodup_cons.2 ⟨hn, h.2.1⟩) (fun j hj => by
    rcases List.mem_cons.1 hj with rfl | hj
    · exact List.mem_range.1 hx
    · exact h.2.2.2 j hj)
  simp only [List.length_cons, h.1] at this
  omega
/-- the least one -/
def Lst (p : List (List Int)) (a : Nat) (c : List (List Int)) : Prop := Cand p a c ∧ ∀ c', Cand p a c' → bytesLess (txt c') (txt c) = false
theorem Lst.uniq (hp : Gr p) (ha : a < p.length) (h : Lst p a c) (h' : Lst p a c') : c = c' :=
  txt_inj (h.1.gr hp ha) (h'.1.gr hp ha) (bless_tri _ _ (h'.2 c h.1) (h.2 c' h'.1))
/-- what comes of a search: at best one of those at hand -/
def Srch (c : List (List Int)) (o : List Nat) (best best' : List (List Int)) : Prop :=
  (best' = best ∨ ∃ o', o <+: o' ∧ Ord c.length o' ∧ best' = reo c o') ∧ bytesLess (txt best) (txt best') = false ∧ ∀ o', o <+: o' → Ord c.length o' → bytesLess (txt (reo c o')) (txt best') = false
/-- a search among the nodes below k put next -/
def SrchK (c : List (List Int)) (o : List Nat) (k : Nat) (best best' : List (List Int)) : Prop :=
  (best' = best ∨ ∃ o', o <+: o' ∧ Ord c.length o' ∧ best' = reo c o') ∧ bytesLess (txt best) (txt best') = false ∧ ∀ v o', v < k → (o ++ [v]) <+: o' → Ord c.length o' → bytesLess (txt (reo c o')) (txt best') = false
theorem SrchK.zero (best : List (List Int)) : SrchK c o 0 best best := ⟨.inl rfl, bless_irr _, fun v o' h => by omega⟩
theorem SrchK.skip {best best' : List (List Int)} (h : SrchK c o k best best') (hk : k ∈ o) : SrchK c o (k + 1) best best' := by
  refine ⟨h.1, h.2.1, fun v o' hv hp ho => ?_⟩
  by_cases e : v = k
  · exfalso
    subst e
    obtain ⟨t, rfl⟩ := hp
    have := ho.2.1
    rw [List.append_assoc, List.nodup_append] at this
    exact this.2.2 v hk v (by simp) rfl
  · exact h.2.2 v o' (by omega) hp ho
theorem SrchK.step {best best' best'' : List (List Int)} (h : SrchK c o k best best') (h2 : Srch c (o ++ [k]) best' best'') : SrchK c o (k + 1) best best'' := by
  refine ⟨?_, bless_ge h.2.1 h2.2.1, fun v o' hv hp ho => ?_⟩
  · rcases h2.1 with e | ⟨o', h3, h4, h5⟩
    · rw [e]; exact h.1
    · exact .inr ⟨o', (List.prefix_append _ _).trans h3, h4, h5⟩
  · by_cases e : v = k
    · subst e; exact h2.2.2 o' hp ho
    · exact bless_ge (h.2.2 v o' (by omega) hp ho) h2.2.1
theorem SrchK.all {best best' : List (List Int)} (h : SrchK c o c.length best best') (hl : o.length < c.length) : Srch c o best best' := by
  refine ⟨h.1, h.2.1, fun o' hp ho => ?_⟩
  obtain ⟨t, rfl⟩ := hp
  cases t with
  | nil => exfalso; have := ho.1; simp at this; omega
  | cons v t => exact h.2.2 v _ (ho.2.2.2 v (by simp)) ⟨t, by simp⟩ ho
end
end Go.Hs
set_option linter.unusedVariables false
set_option linter.unusedSimpArgs false
namespace Go.Hs
open Classical
section
variable {p q g : List (List Int)} {a b i j n m : Nat} {ms : List Nat}
/-- arrows of a row, place by place -/
theorem mem_arr' {r : List Int} (hi : i < p.length) (hr : p[i] = r) : j ∈ arr p i ↔ ∃ hj : j < r.length, r[j] = 1 := by
  unfold arr
  rw [getD_lt hi, hr, mem_arrR]
  constructor
  · rintro ⟨h1, h2⟩; exact ⟨h1, by rw [getD_lt h1] at h2; exact h2⟩
  · rintro ⟨h1, h2⟩; exact ⟨h1, by rw [getD_lt h1]; exact h2⟩
/-- both as one -/
def bes (p q : List (List Int)) : List (List Int) := (p.map fun r => r ++ List.replicate q.length 0) ++ q.map fun r => List.replicate p.length 0 ++ r
theorem bes_len : (bes p q).length = p.length + q.length := by simp [bes]
theorem bes_fst (hi : i < p.length) : (bes p q)[i]'(by rw [bes_len]; omega) = p[i] ++ List.replicate q.length 0 := by
  unfold bes
  rw [List.getElem_append_left (by simpa using hi)]
  simp
theorem bes_snd (hi : i < q.length) : (bes p q)[p.length + i]'(by rw [bes_len]; omega) = List.replicate p.length 0 ++ q[i] := by
  unfold bes
  rw [List.getElem_append_right (by simp)]
  simp
theorem bes_gr (hp : Gr p) (hq : Gr q) (h : p.length + q.length ≤ 11) : Gr (bes p q) := by
  refine ⟨by rw [bes_len]; have := hp.1; omega, by rw [bes_len]; exact h, fun r hr => ?_⟩
  rw [bes_len]
  rcases List.mem_append.1 hr with hr | hr
  · obtain ⟨r', h1, rfl⟩ := List.mem_map.1 hr
    obtain ⟨h2, h3⟩ := hp.2.2 r' h1
    refine ⟨by simp [h2], fun x hx => ?_⟩
    rcases List.mem_append.1 hx with hx | hx
    · exact h3 x hx
    · exact .inl (List.eq_of_mem_replicate hx)
  · obtain ⟨r', h1, rfl⟩ := List.mem_map.1 hr
    obtain ⟨h2, h3⟩ := hq.2.2 r' h1
    refine ⟨by simp [h2], fun x hx => ?_⟩
    rcases List.mem_append.1 hx with hx | hx
    · exact .inl (List.eq_of_mem_replicate hx)
    · exact h3 x hx
theorem arr_bes1 (hp : Gr p) (hi : i < p.length) : j ∈ arr (bes p q) i ↔ j ∈ arr p i := by
  rw [mem_arr' (by rw [bes_len]; omega) (bes_fst hi), mem_arr' hi rfl]
  constructor
  · rintro ⟨h1, h2⟩
    by_cases hj : j < p[i].length
    · exact ⟨hj, by rw [List.getElem_append_left hj] at h2; exact h2⟩
    · rw [List.getElem_append_right (by omega)] at h2
      simp at h2
  · rintro ⟨h1, h2⟩
    exact ⟨by simp; omega, by rw [List.getElem_append_left h1]; exact h2⟩
theorem arr_bes2 (hq : Gr q) (hi : i < q.length) : j ∈ arr (bes p q) (p.length + i) ↔ ∃ k ∈ arr q i, j = p.length + k := by
  rw [mem_arr' (by rw [bes_len]; omega) (bes_snd hi)]
  constructor
  · rintro ⟨h1, h2⟩
    by_cases hj : j < p.length
    · rw [List.getElem_append_left (by simpa using hj)] at h2
      simp at h2
    · rw [List.getElem_append_right (by simp; omega)] at h2
      simp only [List.length_replicate] at h2
      simp only [List.length_append, List.length_replicate] at h1
      exact ⟨j - p.length, (mem_arr' hi rfl).2 ⟨by omega, h2⟩, by omega⟩
  · rintro ⟨k, hk, rfl⟩
    obtain ⟨h1, h2⟩ := (mem_arr' hi rfl).1 hk
    refine ⟨by simp; omega, ?_⟩
    rw [List.getElem_append_right (by simp)]
    simpa using h2
theorem bes_bis1 (hp : Gr p) (ha : a < p.length) : Bis (bes p q) a p a := by
  refine ⟨fun x y => x = y ∧ x < p.length, ⟨rfl, ha⟩, ?_⟩
  rintro x _ ⟨rfl, hx⟩
  refine ⟨fun k hk => ?_, fun k hk => ?_⟩
  · have := (arr_bes1 hp hx).1 hk
    exact ⟨k, this, rfl, arr_lt hp hx this⟩
  · exact ⟨k, (arr_bes1 hp hx).2 hk, rfl, arr_lt hp hx hk⟩
theorem bes_bis2 (hq : Gr q) (hb : b < q.length) : Bis (bes p q) (p.length + b) q b := by
  refine ⟨fun x y => x = p.length + y ∧ y < q.length, ⟨rfl, hb⟩, ?_⟩
  rintro _ y ⟨rfl, hy⟩
  refine ⟨fun k hk => ?_, fun k hk => ?_⟩
  · obtain ⟨j, hj, rfl⟩ := (arr_bes2 hq hy).1 hk
    exact ⟨j, hj, rfl, arr_lt hq hy hj⟩
  · exact ⟨_, (arr_bes2 hq hy).2 ⟨k, hk, rfl⟩, rfl, arr_lt hq hy hk⟩
/-- whether both draw the same set, looked up in both as one -/
theorem bes_eqv (hp : Gr p) (hq : Gr q) (h : p.length + q.length ≤ 11) (ha : a < p.length) (hb : b < q.length) : eqv (bes p q) a (p.length + b) = true ↔ Bis p a q b := by
  rw [eqv_iff (bes_gr hp hq h) (by rw [bes_len]; omega) (by rw [bes_len]; omega)]
  exact ⟨fun h => ((bes_bis1 hp ha).symm.trans h).trans (bes_bis2 hq hb), fun h => ((bes_bis1 hp ha).trans h).trans (bes_bis2 hq hb).symm⟩

/-- a node ahead, with arrows to these -/
def put (g : List (List Int)) (ms : List Nat) : List (List Int) := (0 :: (List.range g.length).map fun j => b01 (ms.contains j)) :: g.map fun r => 0 :: r
theorem Pic.bes5 (hp : Pic p) (hq : Pic q) : Gr (bes p q) ∧ (bes p q).length ≤ 10 := by
  have h1 := hp.2.1
  have h2 := hq.2.1
  exact ⟨bes_gr hp.gr hq.gr (by omega), by rw [bes_len]; omega⟩
end
end Go.Hs
set_option linter.unusedVariables false
set_option linter.unusedSimpArgs false
namespace Go.Hs
section
variable {A B A' B' : List Int} {i j k n m : Nat}
def sdNext (A B : List Int) (i : Nat) : Nat := if i + 1 = A.length + B.length then A.length else i + 1
def sdM (A B : List Int) : Nat := A.length + B.length + if (1 : Int) ∈ A ++ B then 1 else 0
def sdRow (A B : List Int) (i m : Nat) : List Int := (List.range m).map fun j => b01 (decide (j = sdNext A B i) || (decide (j = A.length + B.length) && decide ((A ++ B).getD i 0 = 1)))
/-- a node for each bit, and one behind them -/
def sdP (A B : List Int) : List (List Int) := (List.range (sdM A B)).map fun i => if i < A.length + B.length then sdRow A B i (sdM A B) else List.replicate (sdM A B) 0
theorem sdP_len : (sdP A B).length = sdM A B := by simp [sdP]
theorem sdP_gr (h1 : 1 ≤ B.length) (h2 : A.length + B.length ≤ 10) : Gr (sdP A B) := by
  have hm : 1 ≤ sdM A B ∧ sdM A B ≤ 11 := by unfold sdM; split <;> omega
  refine ⟨by rw [sdP_len]; exact hm.1, by rw [sdP_len]; exact hm.2, fun r hr => ?_⟩
  rw [sdP_len]
  obtain ⟨i, _, rfl⟩ := List.mem_map.1 hr
  split
  · refine ⟨by simp [sdRow], fun x hx => ?_⟩
    obtain ⟨j, _, rfl⟩ := List.mem_map.1 hx
    unfold b01; split <;> simp
  · exact ⟨by simp, fun x hx => .inl (List.eq_of_mem_replicate hx)⟩
theorem sdP_pic (h1 : 1 ≤ B.length) (h2 : A.length + B.length ≤ 4) : Pic (sdP A B) := by
  have h := sdP_gr (A := A) h1 (by omega)
  refine ⟨h.1, ?_, h.2.2⟩
  rw [sdP_len]; unfold sdM; split <;> omega
theorem sdNext_lt (h1 : 1 ≤ B.length) (hi : i < A.length + B.length) : sdNext A B i < A.length + B.length := by unfold sdNext; split <;> omega
theorem arr_sd (h1 : 1 ≤ B.length) (hi : i < A.length + B.length) : j ∈ arr (sdP A B) i ↔ j = sdNext A B i ∨ (j = A.length + B.length ∧ (A ++ B).getD i 0 = 1) := by
  have hm : i < (sdP A B).length := by rw [sdP_len]; unfold sdM; omega
  have hn := sdNext_lt h1 hi
  rw [mem_arr' (r := sdRow A B i (sdM A B)) hm (by simp [sdP, hi])]
  unfold sdRow
  constructor
  · rintro ⟨h2, h3⟩
    simpa [b01_one] using h3
  · intro h
    have hj : j < sdM A B := by
      unfold sdM
      rcases h with rfl | ⟨rfl, h⟩
      · omega
      · have : (1 : Int) ∈ A ++ B := by
          rw [getD_lt (by simpa using hi)] at h
          rw [← h]; exact List.getElem_mem _
        rw [if_pos this]; omega
    refine ⟨by simpa using hj, ?_⟩
    simpa [b01_one] using h
theorem arr_sink : arr (sdP A B) (A.length + B.length) = [] := by
  rw [List.eq_nil_iff_forall_not_mem]
  intro j hj
  by_cases hm : A.length + B.length < (sdP A B).length
  · rw [mem_arr' (r := List.replicate (sdM A B) 0) hm (by simp [sdP])] at hj
    obtain ⟨h1, h2⟩ := hj
    simp at h2
  · unfold arr at hj
    rw [mem_arrR, List.getD_eq_getElem?_getD, List.getElem?_eq_none (by omega)] at hj
    simp at hj
/-- the node of the bit at a place -/
def sdN (A B : List Int) (k : Nat) : Nat := if k < A.length then k else A.length + (k - A.length) % B.length
theorem sdN_lt (h1 : 1 ≤ B.length) (k : Nat) : sdN A B k < A.length + B.length := by
  unfold sdN
  split
  · omega
  · have := Nat.mod_lt (k - A.length) (show B.length > 0 by omega); omega
theorem sdN_zero (h1 : 1 ≤ B.length) : sdN A B 0 = 0 := by
  unfold sdN
  split
  · rfl
  · rw [show A.length = 0 by omega]; simp
theorem sdN_succ (h1 : 1 ≤ B.length) (k : Nat) : sdN A B (k + 1) = sdNext A B (sdN A B k) := by
  unfold sdNext
  by_cases hk : k < A.length
  · have e : sdN A B k = k := if_pos hk
    rw [e]
    by_cases hk2 : k + 1 < A.length
    · rw [if_neg (by omega)]; exact if_pos hk2
    · have e2 : sdN A B (k + 1) = A.length := by
        unfold sdN
        rw [if_neg hk2, show k + 1 - A.length = 0 by omega]; simp
      rw [e2, if_neg (by omega)]; omega
  · have e : sdN A B k = A.length + (k - A.length) % B.length := if_neg hk
    have e2 : sdN A B (k + 1) = A.length + (k + 1 - A.length) % B.length := if_neg (by omega)
    rw [e, e2, show k + 1 - A.length = (k - A.length) + 1 by omega]
    have hlt := Nat.mod_lt (k - A.length) (show B.length > 0 by omega)
    by_cases hw : (k - A.length) % B.length + 1 = B.length
    · rw [if_pos (by omega), Nat.add_mod]
      by_cases hb : B.length = 1
      · rw [hb]; simp [Nat.mod_one]
      · rw [Nat.mod_eq_of_lt (a := 1) (by omega), hw, Nat.mod_self]; omega
    · rw [if_neg (by omega), Nat.add_mod]
      by_cases hb : B.length = 1
      · rw [hb] at hw; simp [Nat.mod_one] at hw
      · rw [Nat.mod_eq_of_lt (a := 1) (by omega), Nat.mod_eq_of_lt (by omega)]; omega
theorem sdN_bit (h1 : 1 ≤ B.length) (k : Nat) : (A ++ B).getD (sdN A B k) 0 = bat A B k := by
  unfold sdN bat
  split
  · rename_i h
    rw [List.getD_eq_getElem?_getD, List.getElem?_append_left h, List.getD_eq_getElem?_getD]
  · rename_i h
    rw [List.getD_eq_getElem?_getD, List.getElem?_append_right (by omega), List.getD_eq_getElem?_getD]
    rw [show A.length + (k - A.length) % B.length - A.length = (k - A.length) % B.length by omega]
theorem arr_sdN (h1 : 1 ≤ B.length) (k : Nat) : j ∈ arr (sdP A B) (sdN A B k) ↔ j = sdN A B (k + 1) ∨ (j = A.length + B.length ∧ bat A B k = 1) := by
  rw [arr_sd h1 (sdN_lt h1 k), sdN_succ h1, sdN_bit h1]
/-- the sets are the same exactly if the bits from there on are -/
theorem sd_bis (h1 : 1 ≤ B.length) (h2 : 1 ≤ B'.length) (hb : ∀ k, bat A B k = 0 ∨ bat A B k = 1) (hb' : ∀ k, bat A' B' k = 0 ∨ bat A' B' k = 1) (i j : Nat) : Bis (sdP A B) (sdN A B i) (sdP A' B') (sdN A' B' j) ↔ ∀ k, bat A B (i + k) = bat A' B' (j + k) := by
  constructor
  · intro h
    have step : ∀ (i j : Nat), Bis (sdP A B) (sdN A B i) (sdP A' B') (sdN A' B' j) → bat A B i = bat A' B' j ∧ Bis (sdP A B) (sdN A B (i + 1)) (sdP A' B') (sdN A' B' (j + 1)) := by
      intro i j h
      have hs : ∀ i, ¬ Bis (sdP A B) (sdN A B i) (sdP A' B') (A'.length + B'.length) := fun i hx => by
        obtain ⟨y, hy, _⟩ := hx.fst _ ((arr_sdN h1 i).2 (.inl rfl))
        rw [arr_sink] at hy; cases hy
      have hs' : ∀ j, ¬ Bis (sdP A B) (A.length + B.length) (sdP A' B') (sdN A' B' j) := fun j hx => by
        obtain ⟨y, hy, _⟩ := hx.snd _ ((arr_sdN h2 j).2 (.inl rfl))
        rw [arr_sink] at hy; cases hy
      refine ⟨?_, ?_⟩
      · have hl : bat A B i = 1 → bat A' B' j = 1 := fun e => by
          obtain ⟨y, hy, hx⟩ := h.fst _ ((arr_sdN h1 i).2 (.inr ⟨rfl, e⟩))
          rcases (arr_sdN h2 j).1 hy with rfl | ⟨_, h⟩
          · exact absurd hx (hs' _)
          · exact h
        have hr : bat A' B' j = 1 → bat A B i = 1 := fun e => by
          obtain ⟨y, hy, hx⟩ := h.snd _ ((arr_sdN h2 j).2 (.inr ⟨rfl, e⟩))
          rcases (arr_sdN h1 i).1 hy with rfl | ⟨_, h⟩
          · exact absurd hx (hs _)
          · exact h
        rcases hb i with e | e
        · rcases hb' j with e' | e'
          · rw [e, e']
          · have := hr e'; rw [e] at this; cases this
        · rw [e, hl e]
      · obtain ⟨y, hy, hx⟩ := h.fst _ ((arr_sdN h1 i).2 (.inl rfl))
        rcases (arr_sdN h2 j).1 hy with rfl | ⟨rfl, _⟩
        · exact hx
        · exact absurd hx (hs _)
    have all : ∀ k, Bis (sdP A B) (sdN A B (i + k)) (sdP A' B') (sdN A' B' (j + k)) := by
      intro k
      induction k with
      | zero => exact h
      | succ k ih => exact (step _ _ ih).2
    exact fun k => (step _ _ (all k)).1
  · intro h
    refine ⟨fun x y => (∃ k, x = sdN A B (i + k) ∧ y = sdN A' B' (j + k)) ∨ (x = A.length + B.length ∧ y = A'.length + B'.length), .inl ⟨0, rfl, rfl⟩, fun x y hxy => ?_⟩
    rcases hxy with ⟨k, rfl, rfl⟩ | ⟨rfl, rfl⟩
    · refine ⟨fun z hz => ?_, fun z hz => ?_⟩
      · rcases (arr_sdN h1 _).1 hz with rfl | ⟨rfl, e⟩
        · exact ⟨_, (arr_sdN h2 (j + k)).2 (.inl rfl), .inl ⟨k + 1, rfl, rfl⟩⟩
        · exact ⟨_, (arr_sdN h2 (j + k)).2 (.inr ⟨rfl, by rw [← h k]; exact e⟩), .inr ⟨rfl, rfl⟩⟩
      · rcases (arr_sdN h2 _).1 hz with rfl | ⟨rfl, e⟩
        · exact ⟨_, (arr_sdN h1 (i + k)).2 (.inl rfl), .inl ⟨k + 1, rfl, rfl⟩⟩
        · exact ⟨_, (arr_sdN h1 (i + k)).2 (.inr ⟨rfl, by rw [h k]; exact e⟩), .inr ⟨rfl, rfl⟩⟩
    · refine ⟨fun z hz => ?_, fun z hz => ?_⟩
      · rw [arr_sink] at hz; cases hz
      · rw [arr_sink] at hz; cases hz
/-- a way comes back -/
theorem sd_back (h1 : 1 ≤ B.length) (h2 : A.length + B.length ≤ 10) : cback (sdP A B) 0 = true := by
  have hg := sdP_gr (A := A) h1 h2
  have hr : ∀ i k, Rch (sdP A B) (sdN A B i) (sdN A B (i + k)) := by
    intro i k
    induction k with
    | zero => exact .refl _
    | succ k ih => exact ih.step ((arr_sdN h1 _).2 (.inl rfl))
  rw [cback_iff hg hg.1]
  have h0 := hr 0 A.length
  rw [sdN_zero h1, Nat.zero_add] at h0
  have h3 := hr (A.length + 1) (B.length - 1)
  have e : sdN A B (A.length + 1 + (B.length - 1)) = sdN A B A.length := by
    unfold sdN
    rw [if_neg (by omega), if_neg (by omega), show A.length + 1 + (B.length - 1) - A.length = B.length by omega]
    simp
  rw [e] at h3
  exact ⟨_, _, h0, (arr_sdN h1 _).2 (.inl rfl), h3⟩
end
end Go.Hs
namespace Go.Proofs.Ytlalfmialbolhaa
open Go.Hs
set_option maxRecDepth 10000
set_option maxHeartbeats 4000000
set_option linter.unusedVariables false
set_option linter.unusedSimpArgs false
def sdOkP (A B : List Int) : Prop := Stm A B ∧ (shL (bat A B)).length + (shR (bat A B)).length ≤ 4
open Classical in
noncomputable def sdV (A B : List Int) : List (List Int) × Bool := if sdOkP A B then (sdP (shL (bat A B)) (shR (bat A B)), true) else ([], false)
/-- the rows ahead of i are drawn -/
def sdQ (A B : List Int) (i : Nat) : List (List Int) := (List.range (sdM A B)).map fun k => if k < i then sdRow A B k (sdM A B) else List.replicate (sdM A B) 0
theorem sdQ_len {A B : List Int} {i : Nat} : (sdQ A B i).length = sdM A B := by simp [sdQ]
theorem sdQ_zero {A B : List Int} : sdQ A B 0 = List.replicate (sdM A B) (List.replicate (sdM A B) 0) := by
  refine List.ext_getElem (by simp [sdQ]) fun k h1 h2 => ?_
  simp [sdQ]
theorem sdQ_at {A B : List Int} {i k : Nat} (h : k < (sdQ A B i).length) : (sdQ A B i)[k] = if k < i then sdRow A B k (sdM A B) else List.replicate (sdM A B) 0 := by simp [sdQ]
theorem sdQ_row {A B : List Int} {i k : Nat} (h : k < (sdQ A B i).length) : (sdQ A B i)[k].length = sdM A B := by
  rw [sdQ_at]; split <;> simp [sdRow]
theorem row0 {A B : List Int} {i : Nat} (hb : (A ++ B).getD i 0 ≠ 1) : (List.replicate (sdM A B) (0 : Int)).set (sdNext A B i) 1 = sdRow A B i (sdM A B) := by
  refine List.ext_getElem (by simp [sdRow]) fun k h1 h2 => ?_
  simp only [sdRow, List.getElem_set, List.getElem_replicate, List.getElem_map, List.getElem_range, decide_eq_false hb, Bool.and_false, Bool.or_false]
  unfold b01
  by_cases e : sdNext A B i = k
  · rw [if_pos e, if_pos (decide_eq_true e.symm)]
  · rw [if_neg e, if_neg (by simpa using fun h : k = sdNext A B i => e h.symm)]
theorem row1 {A B : List Int} {i : Nat} (hb : (A ++ B).getD i 0 = 1) : ((List.replicate (sdM A B) (0 : Int)).set (sdNext A B i) 1).set (A.length + B.length) 1 = sdRow A B i (sdM A B) := by
  refine List.ext_getElem (by simp [sdRow]) fun k h1 h2 => ?_
  simp only [sdRow, List.getElem_set, List.getElem_replicate, List.getElem_map, List.getElem_range, decide_eq_true hb, Bool.and_true]
  unfold b01
  by_cases e2 : A.length + B.length = k
  · rw [if_pos e2, if_pos (by simp [e2])]
  · rw [if_neg e2]
    by_cases e : sdNext A B i = k
    · rw [if_pos e, if_pos (by simp [e])]
    · rw [if_neg e, if_neg (by
        simp only [Bool.or_eq_true, decide_eq_true_eq, not_or]
        exact ⟨fun h => e h.symm, fun h => e2 h.symm⟩)]
theorem sdQ_set {A B : List Int} {i : Nat} (hi : i < sdM A B) : (sdQ A B i).set i (sdRow A B i (sdM A B)) = sdQ A B (i + 1) := by
  refine List.ext_getElem (by simp [sdQ]) fun k h1 h2 => ?_
  rw [List.getElem_set]
  by_cases e : i = k
  · subst e
    rw [if_pos rfl, sdQ_at, if_pos (by omega)]
  · rw [if_neg e, sdQ_at, sdQ_at]
    by_cases h3 : k < i
    · rw [if_pos h3, if_pos (by omega)]
    · rw [if_neg h3, if_neg (by omega)]
theorem sdQ_step0 {A B : List Int} {i : Nat} (hi : i < (sdQ A B i).length) (hb : (A ++ B).getD i 0 ≠ 1) : (sdQ A B i).set i ((sdQ A B i)[i].set (sdNext A B i) 1) = sdQ A B (i + 1) := by
  rw [sdQ_at, if_neg (by omega), row0 hb]
  exact sdQ_set (by rw [sdQ_len] at hi; exact hi)
theorem sdQ_step1 {A B : List Int} {i : Nat} (hi : i < (sdQ A B i).length) (hb : (A ++ B).getD i 0 = 1) : (sdQ A B i).set i (((sdQ A B i)[i].set (sdNext A B i) 1).set (A.length + B.length) 1) = sdQ A B (i + 1) := by
  rw [sdQ_at, if_neg (by omega), row1 hb]
  exact sdQ_set (by rw [sdQ_len] at hi; exact hi)
theorem sdQ_stepA {A B : List Int} {i nx : Nat} (hi : i < (sdQ A B i).length) (hn : nx = sdNext A B i) (hb : (A ++ B).getD i 0 ≠ 1) : (sdQ A B i).set i ((sdQ A B i)[i].set nx 1) = sdQ A B (i + 1) := by
  subst hn
  exact sdQ_step0 hi hb
theorem sdQ_stepB {A B : List Int} {i nx m : Nat} (hi : i < (sdQ A B i).length) (hi2 : i < ((sdQ A B i).set i ((sdQ A B i)[i].set nx 1)).length) (hn : nx = sdNext A B i) (hm : m = A.length + B.length) (hb : (A ++ B).getD i 0 = 1) :
    ((sdQ A B i).set i ((sdQ A B i)[i].set nx 1)).set i (((sdQ A B i).set i ((sdQ A B i)[i].set nx 1))[i].set m 1) = sdQ A B (i + 1) := by
  subst hn hm
  rw [List.getElem_set_self, List.set_set]
  exact sdQ_step1 hi hb

theorem impl_StreamDrawn_ok (w : World) (u1 u2 : Value) (A B : List Int) (h1 : Ints w u1 A) (h2 : Ints w u2 B) (hA : A.length ≤ 4000000) (hB : B.length ≤ 4000000) : Does Try.prog 41 [.agg #[u1, u2]] w (RetOB w XR (sdV A B).1 (sdV A B).2) := by
  have hok : ∀ (x : Bool), decide (Stm A B) = x → ∀ (w : World) (u1 u2 : Value), Ints w u1 A → Ints w u2 B → Does Try.prog 54 [.agg #[u1, u2]] w (Ret w (.bool x)) := fun x e w u1 u2 h1 h2 => e ▸ isStream_ok w u1 u2 A B h1 h2 hA hB
  by_cases hs : Stm A B
  · have k1 := hok true (decide_eq_true hs)
    have hsl := hs.2.2
    have k2 : ∀ (w : World) (u1 u2 : Value), Ints w u1 A → Ints w u2 B → Does Try.prog 55 [.agg #[u1, u2]] w (RetS2 w 3 (shL (bat A B)) (shR (bat A B))) := fun w u1 u2 h1 h2 => shortOf_ok w u1 u2 A B h1 h2 (by omega) (by omega) (by omega)
    have hst := hs.short_stm
    have eV : sdV A B = if (shL (bat A B)).length + (shR (bat A B)).length ≤ 4 then (sdP (shL (bat A B)) (shR (bat A B)), true) else ([], false) := by
      unfold sdV
      by_cases h4 : (shL (bat A B)).length + (shR (bat A B)).length ≤ 4
      · rw [if_pos ⟨hs, h4⟩, if_pos h4]
      · rw [if_neg (fun h => h4 h.2), if_neg h4]
    rw [eV]
    clear eV hok hs
    generalize shL (bat A B) = X at *
    generalize shR (bat A B) = Y at *
    have hXY := hst.2.2
    have litown : True := trivial
    refine fn_of_W2 Try.func41 rfl Try.results41 Try.ntmps41 rfl ?_
    have stop4 : True := trivial
    focus
      refine W_seq ?_; refine W_region rfl ?_; refine Wo_box rfl rfl rfl ?_; rintro b1 w1 hb1 E1 hB1; have hlb1 := hB1.lt; have hs1 := E1.size; refine Wo rfl (opv_assign (v := .slice _ _ _) rfl) ?_
      refine Wo rfl (opv_assign (v := .bool _) rfl) ?_; refine Wo_nil ?_; refine W_seq ?_; refine W_seq ?_; refine W_region rfl ?_; refine Wo (v := .agg _) rfl (opv_load2 Try.isAgg25 Try.sizeOf25 rfl hB1) ?_
      refine Wo_call rfl (opc1 (a := .agg _) Try.call54 rfl) (k1 _ _ _ ((Mono.mono E1 h1)) ((Mono.mono E1 h2))) ?_; rintro _ w2 ⟨rfl, E2⟩; have hs2 := E2.size; refine Wo rfl (opv_not rfl) ?_; refine Wo_nil ?_
      refine W_cond rfl (fun h3 => ?_) (fun h3 => ?_); contradiction; refine W_skip ?_; refine W_seq ?_; refine W_region rfl ?_; refine Wo (v := .agg _) rfl (opv_load2 Try.isAgg25 Try.sizeOf25 rfl (hB1.ext E2)) ?_
      refine Wo_call rfl (opc1 (a := .agg _) Try.call55 rfl) (k2 _ _ _ ((Mono.mono (E1.trans E2) h1)) ((Mono.mono (E1.trans E2) h2))) ?_; rintro _ w3 ⟨u3, q1, rfl, E3, hO1, hQ1, hd1⟩; have icu3 := OwnedB.isC (Owned.toB hO1)
      have cpu3 := OwnedB.capOk (Owned.toB hO1); have icq1 := OwnedB.isC (Owned.toB hQ1); have cpq1 := OwnedB.capOk (Owned.toB hQ1); have hs3 := E3.size; refine Wo_alloc2 rfl flat25 ?_; rintro b2 w4 hb2 E4 hB2; have hlb2 := hB2.lt
      have hs4 := E4.size; refine Wo_st2 rfl Try.sizeOf25 rfl rfl (by first | rfl | assumption) (by first | rfl | assumption) hB2 (by omega) (((E1.trans E2).trans E3).trans E4) ?_; rintro w5 E5 hB2 K1 hz1
      have E6 := ((E2.trans E3).trans E4).wroteAt (((E1.trans E2).trans E3).trans E4) E5 K1 hz1 (by omega); have szE6 := E6.size; have E7 := (E3.trans E4).wroteAt (((E1.trans E2).trans E3).trans E4) E5 K1 hz1 (by omega)
      have szE7 := E7.size; have E8 := E4.wroteAt (((E1.trans E2).trans E3).trans E4) E5 K1 hz1 (by omega); have szE8 := E8.size; have hB1 := (hB1.ext ((E2.trans E3).trans E4)).of_heap (K1 _ (by omega))
      have hO1 := (hO1.toB.ext E4).wrote K1 (by omega); have hQ1 := (hQ1.toB.ext E4).wrote K1 (by omega); refine Wo_nil ?_; refine W_seq ?_
    clear stop4
    have heldS : w5 = w5 := rfl
    refine W_mid [17, 18, 19, 20, 21, 22, 23, 5] (fun (v : Value) => [(5, v)]) (fun v w' => Ext w5 w' ∧ Owned w5.heap.size XI w' v (([] ++ X) ++ Y)) ?_ ?_
    · focus
        have szE8 := E8.size; have szE7 := E7.size; have szE6 := E6.size; have szE5 := E5.size; have szE4 := E4.size; have szE3 := E3.size; have szE2 := E2.size; have szE1 := E1.size
        refine W_held (fun w' => Ext w5 w') mixed rfl (by kernel_rfl) ?_; intro w6 E9 K2 hz2; have hs5 := E9.size
        refine Wh_take 1 rfl (by kernel_rfl) (by kernel_rfl) rfl (fun _ _ => opv_fieldAddr Try.underlying25 rfl rfl Try.sizeOf23 rfl) E9 ?_
        refine Wh_take (v := u3) 2 rfl (by kernel_rfl) (by kernel_rfl) rfl (fun w' hw' => opv_load Try.isAgg23 rfl ((hB2.ext hw').cell rfl)) E9 ?_
        refine Wh_take 4 rfl (by kernel_rfl) (by kernel_rfl) rfl (fun _ _ => opv_fieldAddr Try.underlying25 rfl rfl Try.sizeOf23 rfl) E9 ?_
        refine Wh_take (v := q1) 5 rfl (by kernel_rfl) (by kernel_rfl) rfl (fun w' hw' => opv_load Try.isAgg23 rfl ((hB2.ext hw').cell rfl)) E9 ?_; refine Wh_all (rs := [0]) (by kernel_rfl) rfl ?_; refine WhAll_cons rfl ?_ ?_
        refine Wo_lit0 XInt rfl el23 Try.sizeOf3 ?_; rintro b3 w7 hb3 b3lt E10 hO2; have hs6 := E10.size; refine Wo_nil ?_; refine ⟨(E9.trans E10), ?_⟩; refine Wh_all (rs := [3]) (by kernel_rfl) rfl ?_; refine WhAll_cons rfl ?_ ?_
        refine Wo_appS rfl el23 rfl rfl (Mono.mono (E9.trans E10) (OwnedB.read hO1)) hO2.toB (by first | omega | (simp <;> omega)) (by omega) (by omega) ((E5.trans E9).trans E10) (by omega) ?_; have hT1 := hO2.toB; rintro v1 w8 hO2 E11 M1
        have E12 := M1.ext hT1 ((E6.trans E9).trans E10) (by omega); have szE12 := E12.size; have E13 := M1.ext hT1 ((E7.trans E9).trans E10) (by omega); have szE13 := E13.size; have E14 := M1.ext hT1 ((E8.trans E9).trans E10) (by omega)
        have szE14 := E14.size; have E15 := M1.ext hT1 (E9.trans E10) (by omega); have szE15 := E15.size; have E16 := M1.ext hT1 E10 (by omega); have szE16 := E16.size; have hB2 := (hB2.ext (E9.trans E10)).moves M1 hT1 (by omega)
        have hB1 := (hB1.ext (E9.trans E10)).moves M1 hT1 (by omega); have hO1 := (hO1.ext (E9.trans E10)).moves M1 hT1 (by omega); have hQ1 := (hQ1.ext (E9.trans E10)).moves M1 hT1 (by omega); have hs7 := E11.size; have szM1 := M1.1.size
        have icv1 := OwnedB.isC (Owned.toB hO2); refine Wo_nil ?_; refine ⟨E15, ?_⟩; refine Wh_all (rs := [6]) (by kernel_rfl) rfl ?_; refine WhAll_cons rfl ?_ ?_
        refine Wo_appS rfl el23 rfl rfl (OwnedB.read hQ1) hO2.toB (by first | omega | (simp <;> omega)) (by omega) (by omega) E11 (by omega) ?_; have hT2 := hO2.toB; rintro v2 w9 hO2 E17 M2; have E18 := M2.ext hT2 E12 (by omega)
        have szE18 := E18.size; have E19 := M2.ext hT2 E13 (by omega); have szE19 := E19.size; have E20 := M2.ext hT2 E14 (by omega); have szE20 := E20.size; have E21 := M2.ext hT2 E15 (by omega); have szE21 := E21.size
        have E22 := M2.ext hT2 E16 (by omega); have szE22 := E22.size; have hB2 := hB2.moves M2 hT2 (by omega); have hB1 := hB1.moves M2 hT2 (by omega); have hO1 := hO1.moves M2 hT2 (by omega); have hQ1 := hQ1.moves M2 hT2 (by omega)
        have hs8 := E17.size; have szM2 := M2.1.size; have icv2 := OwnedB.isC (Owned.toB hO2); refine Wo_nil ?_; refine ⟨E21, ?_⟩; refine Wh_take 7 rfl (by kernel_rfl) (by kernel_rfl) rfl (fun _ _ => opv_assign (v := v2) rfl) E21 ?_
        refine Wh_done (by kernel_rfl) ?_; rotate_left; exact WhAll_nil; exact WhAll_nil; exact WhAll_nil
      all_goals exact ⟨v2, ⟨rfl, trivial⟩, by repeat (first | with_reducible exact Same.refl | refine Same.upd rfl ?_ | refine Same.upds rfl ?_ | refine Same.mix rfl ?_), by assumption, by first | exact hO2.mono (by omega) | exact hO3.mono (by omega)⟩
    clear heldS hO1 hQ1
    rintro v ρ6 w6 ⟨E6', hO⟩
    have hl : (([] ++ X) ++ Y).length = X.length + Y.length := by simp
    by_cases h4 : X.length + Y.length ≤ 4
    · rw [if_pos h4]
      have hc : ∀ x, decide ((1 : Int) ∈ ([] ++ X) ++ Y) = x → ∀ (w : World) (u : Value), Ints w u (([] ++ X) ++ Y) → Does Try.prog 73 [u, .int .i64 1] w (Ret w (.bool x)) := fun x e w u h => by
        subst e; exact Cont_ok w u _ h 1
      have hem : ∀ (z : Int), z = (sdM X Y : Int) → ∀ w, Does Try.prog 74 [.int .i64 z] w (RetO w XR (sdQ X Y 0)) := fun z e w => by
        subst e
        rw [sdQ_zero]
        exact emptyPicture_ok w (sdM X Y) (by unfold sdM; split <;> omega)
      have hM : sdM X Y = X.length + Y.length + if (1 : Int) ∈ X ++ Y then 1 else 0 := rfl
      have stop12 : True := trivial
      by_cases h11 : (1 : Int) ∈ X ++ Y
      · rw [if_pos h11] at hM
        have hc1 := hc true (decide_eq_true (by simpa using h11))
        focus
          have szE6' := E6'.size; have szE8 := E8.size; have szE7 := E7.size; have szE6 := E6.size; have szE5 := E5.size; have szE4 := E4.size; have szE3 := E3.size; have szE2 := E2.size; have szE1 := E1.size; refine W_seq ?_; refine W_seq ?_
          refine W_region rfl ?_; refine Wo rfl (opv_move (v := v) rfl) ?_; refine Wo rfl (opv_len Try.underlying23 rfl (Owned.read hO)) ?_; refine Wo rfl (opv_gtr rfl rfl) ?_; refine Wo_nil ?_
          refine W_cond_dec rfl (fun h5 => ?_) (fun h5 => ?_); (exfalso; omega); refine W_skip ?_; refine W_seq ?_; refine W_region rfl ?_; refine Wo rfl (opv_move (v := v) rfl) ?_
          refine Wo rfl (opv_len Try.underlying23 rfl (Owned.read hO)) ?_; refine Wo rfl (opv_assign (v := .int _ _) rfl) ?_; refine Wo_nil ?_; refine W_seq ?_; refine W_region rfl ?_; refine Wo rfl (opv_move (v := .int _ _) rfl) ?_
          refine Wo rfl (opv_assign (v := .int _ _) rfl) ?_; refine Wo_nil ?_; refine W_seq ?_; refine W_seq ?_; refine W_region rfl ?_; refine Wo rfl (opv_move (v := v) rfl) ?_
          refine Wo_call rfl (opc2 (a := v) (b := .int _ _) Try.call73 rfl rfl) (hc1 _ _ ((Owned.read hO))) ?_; rintro _ w7 ⟨rfl, E9⟩; have hs5 := E9.size; refine Wo_nil ?_; refine W_cond_true rfl ?_; refine W_region rfl ?_
          refine Wo rfl (opv_move (v := .int _ _) rfl) ?_; refine Wo rfl (opv_add rfl rfl (by omega)) ?_; refine Wo rfl (opv_assign (v := .int _ _) rfl) ?_; refine Wo_nil ?_; refine W_seq ?_; refine W_region rfl ?_
          refine Wo rfl (opv_move (v := .int _ _) rfl) ?_; refine Wo_call rfl (opc1 (a := .int _ _) Try.call74 rfl) (hem _ (by omega) _) ?_; rintro u4 w8 ⟨E10, hO2⟩; have hs6 := E10.size; refine Wo rfl (opv_assign (v := u4) rfl) ?_
          refine Wo_nil ?_; refine W_seq ?_; refine W_seq ?_
        clear stop12 hc hc1 hem
        have hq0 := sdQ_len (A := X) (B := Y) (i := 0)
        obtain ⟨ub, uc, rfl, _⟩ := hO2.lit (by omega)
        focus
          have szE10 := E10.size; have szE9 := E9.size; have szE6' := E6'.size; have szE8 := E8.size; have szE7 := E7.size; have szE6 := E6.size; have szE5 := E5.size; have szE4 := E4.size; have szE3 := E3.size; have szE2 := E2.size
          have szE1 := E1.size; refine W_region rfl ?_; refine Wo rfl (opv_move (v := v) rfl) ?_; refine Wo rfl (opv_len Try.underlying23 rfl (Owned.read hO)) ?_; refine Wo rfl (opv_move (v := .int _ _) rfl) ?_; refine Wo_nil ?_
          refine W_block ?_
        refine W_loop [9, 10, 11, 38, 39, 40, 41, 42, 43, 44, 45, 46, 47, 48, 49, 50, 51, 52, 53, 54, 55, 56, 57, 58, 59, 60, 61, 62, 63, 64, 65] (fun (i : Nat) => [(38, .int .i64 (i : Int))]) (fun i w' => Ext w7 w' ∧ i ≤ X.length + Y.length ∧ Owned w7.heap.size XR w' (.slice (some ⟨ub, 0, none⟩) (sdQ X Y 0).length uc) (sdQ X Y i)) (fun x => X.length + Y.length - x) 0 (by repeat (first | exact trivial | refine And.intro rfl ?_)) ?_ ?_
        · exact ⟨by assumption, Nat.zero_le _, hO2⟩
        clear hO2
        rintro i ρj w9 ⟨E9', hi, hO2⟩
        by_cases hin : i < X.length + Y.length
        · have hqi := sdQ_len (A := X) (B := Y) (i := i)
          have hri := sdQ_row (A := X) (B := Y) (i := i) (k := i) (by omega)
          obtain ⟨br, cr, hR, _, _⟩ := hO2.rowAt (i := i) (by omega) (by omega)
          have hb2 := hO2.lt_own (k := ub) rfl
          have hbl : i < (([] ++ X) ++ Y).length := by omega
          have hbi : (([] ++ X) ++ Y)[i] = (X ++ Y).getD i 0 := by rw [getD_lt (by simpa using hin)]; simp
          focus
            have szE9' := E9'.size; have szE10 := E10.size; have szE9 := E9.size; have szE6' := E6'.size; have szE8 := E8.size; have szE7 := E7.size; have szE6 := E6.size; have szE5 := E5.size; have szE4 := E4.size; have szE3 := E3.size
            have szE2 := E2.size; have szE1 := E1.size; refine W_seq ?_; refine W_region rfl ?_; refine Wo rfl (opv_lss rfl rfl) ?_; refine Wo_nil ?_; refine W_seq ?_; refine W_cond_dec rfl (fun h6 => ?_) (fun h6 => ?_); refine W_skip ?_
            refine W_seq ?_; refine W_block ?_; refine W_seq ?_; refine W_region rfl ?_; refine Wo rfl (opv_move (v := .int _ _) rfl) ?_
            refine Wo_get Try.underlying23 Try.sizeOf3 Try.isAgg3 rfl (fun _ => rfl) rfl (Owned.read hO) (E9.trans E9') rfl (by first | omega | (simp <;> omega)) ?_; rintro _ _ rfl; refine Wo rfl (opv_assign (v := .int _ _) rfl) ?_
            refine Wo rfl (opv_assign (v := .int _ _) rfl) ?_; refine Wo_nil ?_; refine W_seq ?_; refine W_region rfl ?_; refine Wo rfl (opv_move (v := .int _ _) rfl) ?_; refine Wo rfl (opv_add rfl rfl (by omega)) ?_
            refine Wo rfl (opv_assign (v := .int _ _) rfl) ?_; refine Wo_nil ?_; refine W_seq ?_; refine W_seq ?_; refine W_region rfl ?_; refine Wo rfl (opv_move (v := .int _ _) rfl) ?_; refine Wo rfl (opv_move (v := .int _ _) rfl) ?_
            refine Wo rfl (opv_eql rfl rfl) ?_; refine Wo_nil ?_; refine W_cond_dec rfl (fun h7 => ?_) (fun h7 => ?_); refine W_region rfl ?_; refine Wo rfl (opv_fieldAddr Try.underlying25 rfl rfl Try.sizeOf23 rfl) ?_
            refine Wo (v := u3) rfl (opv_load Try.isAgg23 rfl ((hB2.ext ((E6'.trans E9).trans E9')).cell rfl)) ?_; refine Wo rfl (opv_len Try.underlying23 rfl (Owned.read hO1)) ?_; refine Wo rfl (opv_assign (v := .int _ _) rfl) ?_
            refine Wo_nil ?_; refine W_seq ?_; refine W_region rfl ?_; refine Wo rfl (opv_move (v := .slice _ _ _) rfl) ?_; refine Wo rfl (opv_move (v := .int _ _) rfl) ?_
            refine Wo_rowAt Try.underlying50 Try.sizeOf23 Try.isAgg23 rfl (fun _ => rfl) rfl ⟨_, _, rfl⟩ rfl hR (by first | omega | (simp <;> omega)) ?_; rintro _; refine Wo rfl (opv_move (v := .int _ _) rfl) ?_
            refine Wo rfl (opv_indexAddr Try.underlying23 Try.sizeOf3 rfl rfl (by omega)) ?_; refine Wo_gset rfl Try.sizeOf3 rfl rfl hO2.toB hR (by first | omega | (simp <;> omega)) (by first | omega | (simp <;> omega)) ?_
            rintro w10 hO2 hR On1 K2 hz2; have E11 := On1.ext1 (((E5.trans E6').trans E9).trans E9') (by omega); have E12 := On1.ext1 (((E6.trans E6').trans E9).trans E9') (by omega); have szE12 := E12.size
            have E13 := On1.ext1 (((E7.trans E6').trans E9).trans E9') (by omega); have szE13 := E13.size; have E14 := On1.ext1 (((E8.trans E6').trans E9).trans E9') (by omega); have szE14 := E14.size
            have E15 := On1.ext1 ((E6'.trans E9).trans E9') (by omega); have szE15 := E15.size; have E16 := On1.ext1 (E9.trans E9') (by omega); have szE16 := E16.size; have E17 := On1.ext1 E9' (by omega); have szE17 := E17.size
            have hO1 := (hO1.toB.ext (((E8.trans E6').trans E9).trans E9')).wrote K2 (by omega); have hQ1 := (hQ1.toB.ext (((E8.trans E6').trans E9).trans E9')).wrote K2 (by omega)
            have hB2 := (hB2.ext ((E6'.trans E9).trans E9')).of_heap (K2 _ (by omega)); have hB1 := (hB1.ext ((E6'.trans E9).trans E9')).of_heap (K2 _ (by omega)); have hO := (hO.toB.ext (E9.trans E9')).wrote K2 (by omega); have hs7 := On1.size
            refine Wo_nil ?_; refine W_seq ?_; refine W_region rfl ?_; refine Wo rfl (opv_move (v := .int _ _) rfl) ?_; refine Wo rfl (opv_eql rfl rfl) ?_; refine Wo_nil ?_; refine W_cond_dec rfl (fun h8 => ?_) (fun h8 => ?_)
            refine W_region rfl ?_; refine Wo rfl (opv_move (v := .slice _ _ _) rfl) ?_; refine Wo rfl (opv_move (v := .int _ _) rfl) ?_
            refine Wo_rowAt Try.underlying50 Try.sizeOf23 Try.isAgg23 rfl (fun _ => rfl) rfl ⟨_, _, rfl⟩ rfl hR (by first | omega | (simp <;> omega)) ?_; rintro _; refine Wo rfl (opv_move (v := .int _ _) rfl) ?_
            refine Wo rfl (opv_indexAddr Try.underlying23 Try.sizeOf3 rfl rfl (by omega)) ?_; refine Wo_gset rfl Try.sizeOf3 rfl rfl hO2.toB hR (by first | omega | (simp <;> omega)) (by first | omega | (simp <;> omega)) ?_
            rintro w11 hO2 hR On2 K3 hz3; have E18 := On2.ext1 E11 (by omega); have E19 := On2.ext1 E12 (by omega); have szE19 := E19.size; have E20 := On2.ext1 E13 (by omega); have szE20 := E20.size; have E21 := On2.ext1 E14 (by omega)
            have szE21 := E21.size; have E22 := On2.ext1 E15 (by omega); have szE22 := E22.size; have E23 := On2.ext1 E16 (by omega); have szE23 := E23.size; have E24 := On2.ext1 E17 (by omega); have szE24 := E24.size
            have hO1 := hO1.wrote K3 (by omega); have hQ1 := hQ1.wrote K3 (by omega); have hB2 := hB2.of_heap (K3 _ (by omega)); have hB1 := hB1.of_heap (K3 _ (by omega)); have hO := hO.wrote K3 (by omega); have hs8 := On2.size
            refine Wo_nil ?_; refine W_region rfl ?_; refine Wo rfl (opv_add rfl rfl (by omega)) ?_; refine Wo rfl (opv_move (v := .int _ _) rfl) ?_; refine Wo_nil ?_; rotate_left; refine W_skip ?_; refine W_region rfl ?_
            refine Wo rfl (opv_add rfl rfl (by omega)) ?_; refine Wo rfl (opv_move (v := .int _ _) rfl) ?_; refine Wo_nil ?_; rotate_left; refine W_skip ?_; refine W_seq ?_; refine W_region rfl ?_
            refine Wo rfl (opv_move (v := .slice _ _ _) rfl) ?_; refine Wo rfl (opv_move (v := .int _ _) rfl) ?_
            refine Wo_rowAt Try.underlying50 Try.sizeOf23 Try.isAgg23 rfl (fun _ => rfl) rfl ⟨_, _, rfl⟩ rfl hR (by first | omega | (simp <;> omega)) ?_; rintro _; refine Wo rfl (opv_move (v := .int _ _) rfl) ?_
            refine Wo rfl (opv_indexAddr_z Try.underlying23 Try.sizeOf3 rfl rfl (by omega)) ?_; refine Wo_gset rfl Try.sizeOf3 rfl rfl hO2.toB hR (by first | omega | (simp <;> omega)) (by first | omega | (simp <;> omega)) ?_
            rintro w10 hO2 hR On1 K2 hz2; have E11 := On1.ext1 (((E5.trans E6').trans E9).trans E9') (by omega); have E12 := On1.ext1 (((E6.trans E6').trans E9).trans E9') (by omega); have szE12 := E12.size
            have E13 := On1.ext1 (((E7.trans E6').trans E9).trans E9') (by omega); have szE13 := E13.size; have E14 := On1.ext1 (((E8.trans E6').trans E9).trans E9') (by omega); have szE14 := E14.size
            have E15 := On1.ext1 ((E6'.trans E9).trans E9') (by omega); have szE15 := E15.size; have E16 := On1.ext1 (E9.trans E9') (by omega); have szE16 := E16.size; have E17 := On1.ext1 E9' (by omega); have szE17 := E17.size
            have hO1 := (hO1.toB.ext (((E8.trans E6').trans E9).trans E9')).wrote K2 (by omega); have hQ1 := (hQ1.toB.ext (((E8.trans E6').trans E9).trans E9')).wrote K2 (by omega)
            have hB2 := (hB2.ext ((E6'.trans E9).trans E9')).of_heap (K2 _ (by omega)); have hB1 := (hB1.ext ((E6'.trans E9).trans E9')).of_heap (K2 _ (by omega)); have hO := (hO.toB.ext (E9.trans E9')).wrote K2 (by omega); have hs7 := On1.size
            refine Wo_nil ?_; refine W_seq ?_; refine W_region rfl ?_; refine Wo rfl (opv_move (v := .int _ _) rfl) ?_; refine Wo rfl (opv_eql rfl rfl) ?_; refine Wo_nil ?_; refine W_cond_dec rfl (fun h8 => ?_) (fun h8 => ?_)
            refine W_region rfl ?_; refine Wo rfl (opv_move (v := .slice _ _ _) rfl) ?_; refine Wo rfl (opv_move (v := .int _ _) rfl) ?_
            refine Wo_rowAt Try.underlying50 Try.sizeOf23 Try.isAgg23 rfl (fun _ => rfl) rfl ⟨_, _, rfl⟩ rfl hR (by first | omega | (simp <;> omega)) ?_; rintro _; refine Wo rfl (opv_move (v := .int _ _) rfl) ?_
            refine Wo rfl (opv_indexAddr Try.underlying23 Try.sizeOf3 rfl rfl (by omega)) ?_; refine Wo_gset rfl Try.sizeOf3 rfl rfl hO2.toB hR (by first | omega | (simp <;> omega)) (by first | omega | (simp <;> omega)) ?_
            rintro w11 hO2 hR On2 K3 hz3; have E18 := On2.ext1 E11 (by omega); have E19 := On2.ext1 E12 (by omega); have szE19 := E19.size; have E20 := On2.ext1 E13 (by omega); have szE20 := E20.size; have E21 := On2.ext1 E14 (by omega)
            have szE21 := E21.size; have E22 := On2.ext1 E15 (by omega); have szE22 := E22.size; have E23 := On2.ext1 E16 (by omega); have szE23 := E23.size; have E24 := On2.ext1 E17 (by omega); have szE24 := E24.size
            have hO1 := hO1.wrote K3 (by omega); have hQ1 := hQ1.wrote K3 (by omega); have hB2 := hB2.of_heap (K3 _ (by omega)); have hB1 := hB1.of_heap (K3 _ (by omega)); have hO := hO.wrote K3 (by omega); have hs8 := On2.size
            refine Wo_nil ?_; refine W_region rfl ?_; refine Wo rfl (opv_add rfl rfl (by omega)) ?_; refine Wo rfl (opv_move (v := .int _ _) rfl) ?_; refine Wo_nil ?_; rotate_left; refine W_skip ?_; refine W_region rfl ?_
            refine Wo rfl (opv_add rfl rfl (by omega)) ?_; refine Wo rfl (opv_move (v := .int _ _) rfl) ?_; refine Wo_nil ?_; rotate_left; (exfalso; omega)
          all_goals refine ⟨i + 1, ⟨rfl, trivial⟩, by repeat (first | with_reducible exact Same.refl | refine Same.upd rfl ?_ | refine Same.upds rfl ?_ | refine Same.mix rfl ?_), ⟨by assumption, by omega, (congrArg (Owned _ _ _ _) ?_).mp hO2⟩, by omega⟩
          all_goals first
            | exact sdQ_stepB (by omega) (by rw [List.length_set]; omega) (by unfold sdNext; split <;> omega) (by omega) (by omega)
            | exact sdQ_stepA (by omega) (by unfold sdNext; split <;> omega) (by omega)
        · obtain rfl : i = X.length + Y.length := by omega
          focus
            have szE9' := E9'.size; have szE10 := E10.size; have szE9 := E9.size; have szE6' := E6'.size; have szE8 := E8.size; have szE7 := E7.size; have szE6 := E6.size; have szE5 := E5.size; have szE4 := E4.size; have szE3 := E3.size
            have szE2 := E2.size; have szE1 := E1.size; refine W_seq ?_; refine W_region rfl ?_; refine Wo rfl (opv_lss rfl rfl) ?_; refine Wo_nil ?_; refine W_seq ?_; refine W_cond_dec rfl (fun h6 => ?_) (fun h6 => ?_); (exfalso; omega)
            refine W_exit ?_; refine exitX_same ?_; refine W_seq ?_; refine W_region rfl ?_; refine Wo rfl (opv_move (v := .slice _ _ _) rfl) ?_; refine Wo rfl (opv_assign (v := .slice _ _ _) rfl) ?_
            refine Wo rfl (opv_assign (v := .bool _) rfl) ?_; refine Wo_nil ?_; refine W_ret ?_; refine at_ret (v := .tuple #[.slice _ _ _, .bool _]) rfl ?_; exact ⟨_, rfl, (((E5.trans E6').trans E9).trans E9'), hO2.toB.o.mono (by omega)⟩
      · rw [if_neg h11] at hM
        have hc1 := hc false (decide_eq_false (by simpa using h11))
        focus
          have szE6' := E6'.size; have szE8 := E8.size; have szE7 := E7.size; have szE6 := E6.size; have szE5 := E5.size; have szE4 := E4.size; have szE3 := E3.size; have szE2 := E2.size; have szE1 := E1.size; refine W_seq ?_; refine W_seq ?_
          refine W_region rfl ?_; refine Wo rfl (opv_move (v := v) rfl) ?_; refine Wo rfl (opv_len Try.underlying23 rfl (Owned.read hO)) ?_; refine Wo rfl (opv_gtr rfl rfl) ?_; refine Wo_nil ?_
          refine W_cond_dec rfl (fun h5 => ?_) (fun h5 => ?_); (exfalso; omega); refine W_skip ?_; refine W_seq ?_; refine W_region rfl ?_; refine Wo rfl (opv_move (v := v) rfl) ?_
          refine Wo rfl (opv_len Try.underlying23 rfl (Owned.read hO)) ?_; refine Wo rfl (opv_assign (v := .int _ _) rfl) ?_; refine Wo_nil ?_; refine W_seq ?_; refine W_region rfl ?_; refine Wo rfl (opv_move (v := .int _ _) rfl) ?_
          refine Wo rfl (opv_assign (v := .int _ _) rfl) ?_; refine Wo_nil ?_; refine W_seq ?_; refine W_seq ?_; refine W_region rfl ?_; refine Wo rfl (opv_move (v := v) rfl) ?_
          refine Wo_call rfl (opc2 (a := v) (b := .int _ _) Try.call73 rfl rfl) (hc1 _ _ ((Owned.read hO))) ?_; rintro _ w7 ⟨rfl, E9⟩; have hs5 := E9.size; refine Wo_nil ?_; refine W_cond_false rfl ?_; refine W_skip ?_; refine W_seq ?_
          refine W_region rfl ?_; refine Wo rfl (opv_move (v := .int _ _) rfl) ?_; refine Wo_call rfl (opc1 (a := .int _ _) Try.call74 rfl) (hem _ (by omega) _) ?_; rintro u4 w8 ⟨E10, hO2⟩; have hs6 := E10.size
          refine Wo rfl (opv_assign (v := u4) rfl) ?_; refine Wo_nil ?_; refine W_seq ?_; refine W_seq ?_
        clear stop12 hc hc1 hem
        have hq0 := sdQ_len (A := X) (B := Y) (i := 0)
        obtain ⟨ub, uc, rfl, _⟩ := hO2.lit (by omega)
        focus
          have szE10 := E10.size; have szE9 := E9.size; have szE6' := E6'.size; have szE8 := E8.size; have szE7 := E7.size; have szE6 := E6.size; have szE5 := E5.size; have szE4 := E4.size; have szE3 := E3.size; have szE2 := E2.size
          have szE1 := E1.size; refine W_region rfl ?_; refine Wo rfl (opv_move (v := v) rfl) ?_; refine Wo rfl (opv_len Try.underlying23 rfl (Owned.read hO)) ?_; refine Wo rfl (opv_move (v := .int _ _) rfl) ?_; refine Wo_nil ?_
          refine W_block ?_
        refine W_loop [9, 10, 11, 38, 39, 40, 41, 42, 43, 44, 45, 46, 47, 48, 49, 50, 51, 52, 53, 54, 55, 56, 57, 58, 59, 60, 61, 62, 63, 64, 65] (fun (i : Nat) => [(38, .int .i64 (i : Int))]) (fun i w' => Ext w7 w' ∧ i ≤ X.length + Y.length ∧ Owned w7.heap.size XR w' (.slice (some ⟨ub, 0, none⟩) (sdQ X Y 0).length uc) (sdQ X Y i)) (fun x => X.length + Y.length - x) 0 (by repeat (first | exact trivial | refine And.intro rfl ?_)) ?_ ?_
        · exact ⟨by assumption, Nat.zero_le _, hO2⟩
        clear hO2
        rintro i ρj w9 ⟨E9', hi, hO2⟩
        by_cases hin : i < X.length + Y.length
        · have hqi := sdQ_len (A := X) (B := Y) (i := i)
          have hri := sdQ_row (A := X) (B := Y) (i := i) (k := i) (by omega)
          obtain ⟨br, cr, hR, _, _⟩ := hO2.rowAt (i := i) (by omega) (by omega)
          have hb2 := hO2.lt_own (k := ub) rfl
          have hbl : i < (([] ++ X) ++ Y).length := by omega
          have hbi : (([] ++ X) ++ Y)[i] = (X ++ Y).getD i 0 := by rw [getD_lt (by simpa using hin)]; simp
          have hbn : ¬ (([] ++ X) ++ Y)[i] = 1 := fun e => h11 (by
            have := List.getElem_mem hbl
            rw [e] at this
            simpa using this)
          focus
            have szE9' := E9'.size; have szE10 := E10.size; have szE9 := E9.size; have szE6' := E6'.size; have szE8 := E8.size; have szE7 := E7.size; have szE6 := E6.size; have szE5 := E5.size; have szE4 := E4.size; have szE3 := E3.size
            have szE2 := E2.size; have szE1 := E1.size; refine W_seq ?_; refine W_region rfl ?_; refine Wo rfl (opv_lss rfl rfl) ?_; refine Wo_nil ?_; refine W_seq ?_; refine W_cond_dec rfl (fun h6 => ?_) (fun h6 => ?_); refine W_skip ?_
            refine W_seq ?_; refine W_block ?_; refine W_seq ?_; refine W_region rfl ?_; refine Wo rfl (opv_move (v := .int _ _) rfl) ?_
            refine Wo_get Try.underlying23 Try.sizeOf3 Try.isAgg3 rfl (fun _ => rfl) rfl (Owned.read hO) (E9.trans E9') rfl (by first | omega | (simp <;> omega)) ?_; rintro _ _ rfl; refine Wo rfl (opv_assign (v := .int _ _) rfl) ?_
            refine Wo rfl (opv_assign (v := .int _ _) rfl) ?_; refine Wo_nil ?_; refine W_seq ?_; refine W_region rfl ?_; refine Wo rfl (opv_move (v := .int _ _) rfl) ?_; refine Wo rfl (opv_add rfl rfl (by omega)) ?_
            refine Wo rfl (opv_assign (v := .int _ _) rfl) ?_; refine Wo_nil ?_; refine W_seq ?_; refine W_seq ?_; refine W_region rfl ?_; refine Wo rfl (opv_move (v := .int _ _) rfl) ?_; refine Wo rfl (opv_move (v := .int _ _) rfl) ?_
            refine Wo rfl (opv_eql rfl rfl) ?_; refine Wo_nil ?_; refine W_cond_dec rfl (fun h7 => ?_) (fun h7 => ?_); refine W_region rfl ?_; refine Wo rfl (opv_fieldAddr Try.underlying25 rfl rfl Try.sizeOf23 rfl) ?_
            refine Wo (v := u3) rfl (opv_load Try.isAgg23 rfl ((hB2.ext ((E6'.trans E9).trans E9')).cell rfl)) ?_; refine Wo rfl (opv_len Try.underlying23 rfl (Owned.read hO1)) ?_; refine Wo rfl (opv_assign (v := .int _ _) rfl) ?_
            refine Wo_nil ?_; refine W_seq ?_; refine W_region rfl ?_; refine Wo rfl (opv_move (v := .slice _ _ _) rfl) ?_; refine Wo rfl (opv_move (v := .int _ _) rfl) ?_
            refine Wo_rowAt Try.underlying50 Try.sizeOf23 Try.isAgg23 rfl (fun _ => rfl) rfl ⟨_, _, rfl⟩ rfl hR (by first | omega | (simp <;> omega)) ?_; rintro _; refine Wo rfl (opv_move (v := .int _ _) rfl) ?_
            refine Wo rfl (opv_indexAddr Try.underlying23 Try.sizeOf3 rfl rfl (by omega)) ?_; refine Wo_gset rfl Try.sizeOf3 rfl rfl hO2.toB hR (by first | omega | (simp <;> omega)) (by first | omega | (simp <;> omega)) ?_
            rintro w10 hO2 hR On1 K2 hz2; have E11 := On1.ext1 (((E5.trans E6').trans E9).trans E9') (by omega); have E12 := On1.ext1 (((E6.trans E6').trans E9).trans E9') (by omega); have szE12 := E12.size
            have E13 := On1.ext1 (((E7.trans E6').trans E9).trans E9') (by omega); have szE13 := E13.size; have E14 := On1.ext1 (((E8.trans E6').trans E9).trans E9') (by omega); have szE14 := E14.size
            have E15 := On1.ext1 ((E6'.trans E9).trans E9') (by omega); have szE15 := E15.size; have E16 := On1.ext1 (E9.trans E9') (by omega); have szE16 := E16.size; have E17 := On1.ext1 E9' (by omega); have szE17 := E17.size
            have hO1 := (hO1.toB.ext (((E8.trans E6').trans E9).trans E9')).wrote K2 (by omega); have hQ1 := (hQ1.toB.ext (((E8.trans E6').trans E9).trans E9')).wrote K2 (by omega)
            have hB2 := (hB2.ext ((E6'.trans E9).trans E9')).of_heap (K2 _ (by omega)); have hB1 := (hB1.ext ((E6'.trans E9).trans E9')).of_heap (K2 _ (by omega)); have hO := (hO.toB.ext (E9.trans E9')).wrote K2 (by omega); have hs7 := On1.size
            refine Wo_nil ?_; refine W_seq ?_; refine W_region rfl ?_; refine Wo rfl (opv_move (v := .int _ _) rfl) ?_; refine Wo rfl (opv_eql rfl rfl) ?_; refine Wo_nil ?_; refine W_cond_dec rfl (fun h8 => ?_) (fun h8 => ?_); contradiction
            refine W_skip ?_; refine W_region rfl ?_; refine Wo rfl (opv_add rfl rfl (by omega)) ?_; refine Wo rfl (opv_move (v := .int _ _) rfl) ?_; refine Wo_nil ?_; rotate_left; refine W_skip ?_; refine W_seq ?_; refine W_region rfl ?_
            refine Wo rfl (opv_move (v := .slice _ _ _) rfl) ?_; refine Wo rfl (opv_move (v := .int _ _) rfl) ?_
            refine Wo_rowAt Try.underlying50 Try.sizeOf23 Try.isAgg23 rfl (fun _ => rfl) rfl ⟨_, _, rfl⟩ rfl hR (by first | omega | (simp <;> omega)) ?_; rintro _; refine Wo rfl (opv_move (v := .int _ _) rfl) ?_
            refine Wo rfl (opv_indexAddr_z Try.underlying23 Try.sizeOf3 rfl rfl (by omega)) ?_; refine Wo_gset rfl Try.sizeOf3 rfl rfl hO2.toB hR (by first | omega | (simp <;> omega)) (by first | omega | (simp <;> omega)) ?_
            rintro w10 hO2 hR On1 K2 hz2; have E11 := On1.ext1 (((E5.trans E6').trans E9).trans E9') (by omega); have E12 := On1.ext1 (((E6.trans E6').trans E9).trans E9') (by omega); have szE12 := E12.size
            have E13 := On1.ext1 (((E7.trans E6').trans E9).trans E9') (by omega); have szE13 := E13.size; have E14 := On1.ext1 (((E8.trans E6').trans E9).trans E9') (by omega); have szE14 := E14.size
            have E15 := On1.ext1 ((E6'.trans E9).trans E9') (by omega); have szE15 := E15.size; have E16 := On1.ext1 (E9.trans E9') (by omega); have szE16 := E16.size; have E17 := On1.ext1 E9' (by omega); have szE17 := E17.size
            have hO1 := (hO1.toB.ext (((E8.trans E6').trans E9).trans E9')).wrote K2 (by omega); have hQ1 := (hQ1.toB.ext (((E8.trans E6').trans E9).trans E9')).wrote K2 (by omega)
            have hB2 := (hB2.ext ((E6'.trans E9).trans E9')).of_heap (K2 _ (by omega)); have hB1 := (hB1.ext ((E6'.trans E9).trans E9')).of_heap (K2 _ (by omega)); have hO := (hO.toB.ext (E9.trans E9')).wrote K2 (by omega); have hs7 := On1.size
            refine Wo_nil ?_; refine W_seq ?_; refine W_region rfl ?_; refine Wo rfl (opv_move (v := .int _ _) rfl) ?_; refine Wo rfl (opv_eql rfl rfl) ?_; refine Wo_nil ?_; refine W_cond_dec rfl (fun h8 => ?_) (fun h8 => ?_); contradiction
            refine W_skip ?_; refine W_region rfl ?_; refine Wo rfl (opv_add rfl rfl (by omega)) ?_; refine Wo rfl (opv_move (v := .int _ _) rfl) ?_; refine Wo_nil ?_; rotate_left; (exfalso; omega)
          all_goals refine ⟨i + 1, ⟨rfl, trivial⟩, by repeat (first | with_reducible exact Same.refl | refine Same.upd rfl ?_ | refine Same.upds rfl ?_ | refine Same.mix rfl ?_), ⟨by assumption, by omega, (congrArg (Owned _ _ _ _) ?_).mp hO2⟩, by omega⟩
          all_goals first
            | exact sdQ_stepB (by omega) (by rw [List.length_set]; omega) (by unfold sdNext; split <;> omega) (by omega) (by omega)
            | exact sdQ_stepA (by omega) (by unfold sdNext; split <;> omega) (by omega)
        · obtain rfl : i = X.length + Y.length := by omega
          focus
            have szE9' := E9'.size; have szE10 := E10.size; have szE9 := E9.size; have szE6' := E6'.size; have szE8 := E8.size; have szE7 := E7.size; have szE6 := E6.size; have szE5 := E5.size; have szE4 := E4.size; have szE3 := E3.size
            have szE2 := E2.size; have szE1 := E1.size; refine W_seq ?_; refine W_region rfl ?_; refine Wo rfl (opv_lss rfl rfl) ?_; refine Wo_nil ?_; refine W_seq ?_; refine W_cond_dec rfl (fun h6 => ?_) (fun h6 => ?_); (exfalso; omega)
            refine W_exit ?_; refine exitX_same ?_; refine W_seq ?_; refine W_region rfl ?_; refine Wo rfl (opv_move (v := .slice _ _ _) rfl) ?_; refine Wo rfl (opv_assign (v := .slice _ _ _) rfl) ?_
            refine Wo rfl (opv_assign (v := .bool _) rfl) ?_; refine Wo_nil ?_; refine W_ret ?_; refine at_ret (v := .tuple #[.slice _ _ _, .bool _]) rfl ?_; exact ⟨_, rfl, (((E5.trans E6').trans E9).trans E9'), hO2.toB.o.mono (by omega)⟩
    · rw [if_neg h4]
      focus
        have szE6' := E6'.size; have szE8 := E8.size; have szE7 := E7.size; have szE6 := E6.size; have szE5 := E5.size; have szE4 := E4.size; have szE3 := E3.size; have szE2 := E2.size; have szE1 := E1.size; refine W_seq ?_; refine W_seq ?_
        refine W_region rfl ?_; refine Wo rfl (opv_move (v := v) rfl) ?_; refine Wo rfl (opv_len Try.underlying23 rfl (Owned.read hO)) ?_; refine Wo rfl (opv_gtr rfl rfl) ?_; refine Wo_nil ?_
        refine W_cond_dec rfl (fun h5 => ?_) (fun h5 => ?_); refine W_seq ?_; refine W_region rfl ?_; refine Wo rfl (opv_assign (v := .slice _ _ _) rfl) ?_; refine Wo rfl (opv_assign (v := .bool _) rfl) ?_; refine Wo_nil ?_; refine W_ret ?_
        refine at_ret (v := .tuple #[.slice _ _ _, .bool _]) rfl ?_; exact ⟨_, rfl, (E5.trans E6'), Owned.nil⟩; (exfalso; omega)
  · have k1 := hok false (decide_eq_false hs)
    have eV : sdV A B = ([], false) := if_neg (fun h => hs h.1)
    rw [eV]
    refine fn_of_W2 Try.func41 rfl Try.results41 Try.ntmps41 rfl ?_
    focus
      refine W_seq ?_; refine W_region rfl ?_; refine Wo_box rfl rfl rfl ?_; rintro b1 w1 hb1 E1 hB1; have hlb1 := hB1.lt; have hs1 := E1.size; refine Wo rfl (opv_assign (v := .slice _ _ _) rfl) ?_
      refine Wo rfl (opv_assign (v := .bool _) rfl) ?_; refine Wo_nil ?_; refine W_seq ?_; refine W_seq ?_; refine W_region rfl ?_; refine Wo (v := .agg _) rfl (opv_load2 Try.isAgg25 Try.sizeOf25 rfl hB1) ?_
      refine Wo_call rfl (opc1 (a := .agg _) Try.call54 rfl) (k1 _ _ _ ((Mono.mono E1 h1)) ((Mono.mono E1 h2))) ?_; rintro _ w2 ⟨rfl, E2⟩; have hs2 := E2.size; refine Wo rfl (opv_not rfl) ?_; refine Wo_nil ?_
      refine W_cond rfl (fun h3 => ?_) (fun h3 => ?_); refine W_seq ?_; refine W_region rfl ?_; refine Wo rfl (opv_assign (v := .slice _ _ _) rfl) ?_; refine Wo rfl (opv_assign (v := .bool _) rfl) ?_; refine Wo_nil ?_; refine W_ret ?_
      refine at_ret (v := .tuple #[.slice _ _ _, .bool _]) rfl ?_; exact ⟨_, rfl, (E1.trans E2), Owned.nil⟩; contradiction

end Go.Proofs.Ytlalfmialbolhaa
