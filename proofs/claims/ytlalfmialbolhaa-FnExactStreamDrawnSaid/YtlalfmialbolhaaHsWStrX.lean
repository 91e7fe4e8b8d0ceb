/- Walks: streams drawn, by the clever side. -/
import Derived.Test.YtlalfmialbolhaaHsWStrI
import Derived.Test.YtlalfmialbolhaaHsStr2
import Derived.Test.YtlalfmialbolhaaHsWIdx
import Derived.Test.YtlalfmialbolhaaHsSdr
namespace Go.Proofs.Ytlalfmialbolhaa
open Go.Hs
set_option maxRecDepth 10000
set_option maxHeartbeats 4000000
set_option linter.unusedVariables false
set_option linter.unusedSimpArgs false
def sdOkP (A B : List Int) : Prop := Stm A B ∧ (shL (bat A B)).length + (shR (bat A B)).length ≤ 4
open Classical in
noncomputable def sdV (A B : List Int) : List (List Int) × Bool := if sdOkP A B then (sdP (shL (bat A B)) (shR (bat A B)), true) else ([], false)
/-- the rows ahead of i are drawn -/
def sdQ (A B : List Int) (i : Nat) : List (List Int) := (List.range (sdM A B)).map fun k => if k < i then sdRow A B k (sdM A B) else List.replicate (sdM A B) 0
theorem sdQ_len {A B : List Int} {i : Nat} : (sdQ A B i).length = sdM A B := by simp [sdQ]
theorem sdQ_zero {A B : List Int} : sdQ A B 0 = List.replicate (sdM A B) (List.replicate (sdM A B) 0) := by
  refine List.ext_getElem (by simp [sdQ]) fun k h1 h2 => ?_
  simp [sdQ]
theorem sdQ_full {A B : List Int} : sdQ A B (A.length + B.length) = sdP A B := rfl
theorem sdQ_at {A B : List Int} {i k : Nat} (h : k < (sdQ A B i).length) : (sdQ A B i)[k] = if k < i then sdRow A B k (sdM A B) else List.replicate (sdM A B) 0 := by simp [sdQ]
theorem sdQ_row {A B : List Int} {i k : Nat} (h : k < (sdQ A B i).length) : (sdQ A B i)[k].length = sdM A B := by
  rw [sdQ_at]; split <;> simp [sdRow]
theorem row0 {A B : List Int} {i : Nat} (hb : (A ++ B).getD i 0 ≠ 1) : (List.replicate (sdM A B) (0 : Int)).set (sdNext A B i) 1 = sdRow A B i (sdM A B) := by
  refine List.ext_getElem (by simp [sdRow]) fun k h1 h2 => ?_
  simp only [sdRow, List.getElem_set, List.getElem_replicate, List.getElem_map, List.getElem_range, decide_eq_false hb, Bool.and_false, Bool.or_false]
  unfold b01
  by_cases e : sdNext A B i = k
  · rw [if_pos e, if_pos (decide_eq_true e.symm)]
  · rw [if_neg e, if_neg (by simpa using fun h : k = sdNext A B i => e h.symm)]
theorem row1 {A B : List Int} {i : Nat} (hb : (A ++ B).getD i 0 = 1) : ((List.replicate (sdM A B) (0 : Int)).set (sdNext A B i) 1).set (A.length + B.length) 1 = sdRow A B i (sdM A B) := by
  refine List.ext_getElem (by simp [sdRow]) fun k h1 h2 => ?_
  simp only [sdRow, List.getElem_set, List.getElem_replicate, List.getElem_map, List.getElem_range, decide_eq_true hb, Bool.and_true]
  unfold b01
  by_cases e2 : A.length + B.length = k
  · rw [if_pos e2, if_pos (by simp [e2])]
  · rw [if_neg e2]
    by_cases e : sdNext A B i = k
    · rw [if_pos e, if_pos (by simp [e])]
    · rw [if_neg e, if_neg (by
        simp only [Bool.or_eq_true, decide_eq_true_eq, not_or]
        exact ⟨fun h => e h.symm, fun h => e2 h.symm⟩)]
theorem sdQ_set {A B : List Int} {i : Nat} (hi : i < sdM A B) : (sdQ A B i).set i (sdRow A B i (sdM A B)) = sdQ A B (i + 1) := by
  refine List.ext_getElem (by simp [sdQ]) fun k h1 h2 => ?_
  rw [List.getElem_set]
  by_cases e : i = k
  · subst e
    rw [if_pos rfl, sdQ_at, if_pos (by omega)]
  · rw [if_neg e, sdQ_at, sdQ_at]
    by_cases h3 : k < i
    · rw [if_pos h3, if_pos (by omega)]
    · rw [if_neg h3, if_neg (by omega)]
theorem sdQ_step0 {A B : List Int} {i : Nat} (hi : i < (sdQ A B i).length) (hb : (A ++ B).getD i 0 ≠ 1) : (sdQ A B i).set i ((sdQ A B i)[i].set (sdNext A B i) 1) = sdQ A B (i + 1) := by
  rw [sdQ_at, if_neg (by omega), row0 hb]
  exact sdQ_set (by rw [sdQ_len] at hi; exact hi)
theorem sdQ_step1 {A B : List Int} {i : Nat} (hi : i < (sdQ A B i).length) (hb : (A ++ B).getD i 0 = 1) : (sdQ A B i).set i (((sdQ A B i)[i].set (sdNext A B i) 1).set (A.length + B.length) 1) = sdQ A B (i + 1) := by
  rw [sdQ_at, if_neg (by omega), row1 hb]
  exact sdQ_set (by rw [sdQ_len] at hi; exact hi)
theorem sdQ_stepA {A B : List Int} {i nx : Nat} (hi : i < (sdQ A B i).length) (hn : nx = sdNext A B i) (hb : (A ++ B).getD i 0 ≠ 1) : (sdQ A B i).set i ((sdQ A B i)[i].set nx 1) = sdQ A B (i + 1) := by
  subst hn
  exact sdQ_step0 hi hb
theorem sdQ_stepB {A B : List Int} {i nx m : Nat} (hi : i < (sdQ A B i).length) (hi2 : i < ((sdQ A B i).set i ((sdQ A B i)[i].set nx 1)).length) (hn : nx = sdNext A B i) (hm : m = A.length + B.length) (hb : (A ++ B).getD i 0 = 1) :
    ((sdQ A B i).set i ((sdQ A B i)[i].set nx 1)).set i (((sdQ A B i).set i ((sdQ A B i)[i].set nx 1))[i].set m 1) = sdQ A B (i + 1) := by
  subst hn hm
  rw [List.getElem_set_self, List.set_set]
  exact sdQ_step1 hi hb

theorem impl_StreamDrawn_ok (w : World) (u1 u2 : Value) (A B : List Int) (h1 : Ints w u1 A) (h2 : Ints w u2 B) (hA : A.length ≤ 4000000) (hB : B.length ≤ 4000000) : Does Try.prog 41 [.agg #[u1, u2]] w (RetOB w XR (sdV A B).1 (sdV A B).2) := by
  have hok : ∀ (x : Bool), decide (Stm A B) = x → ∀ (w : World) (u1 u2 : Value), Ints w u1 A → Ints w u2 B → Does Try.prog 54 [.agg #[u1, u2]] w (Ret w (.bool x)) := fun x e w u1 u2 h1 h2 => e ▸ isStream_ok w u1 u2 A B h1 h2 hA hB
  by_cases hs : Stm A B
  · have k1 := hok true (decide_eq_true hs)
    have hsl := hs.2.2
    have k2 : ∀ (w : World) (u1 u2 : Value), Ints w u1 A → Ints w u2 B → Does Try.prog 55 [.agg #[u1, u2]] w (RetS2 w 3 (shL (bat A B)) (shR (bat A B))) := fun w u1 u2 h1 h2 => shortOf_ok w u1 u2 A B h1 h2 (by omega) (by omega) (by omega)
    have hst := hs.short_stm
    have eV : sdV A B = if (shL (bat A B)).length + (shR (bat A B)).length ≤ 4 then (sdP (shL (bat A B)) (shR (bat A B)), true) else ([], false) := by
      unfold sdV
      by_cases h4 : (shL (bat A B)).length + (shR (bat A B)).length ≤ 4
      · rw [if_pos ⟨hs, h4⟩, if_pos h4]
      · rw [if_neg (fun h => h4 h.2), if_neg h4]
    rw [eV]
    clear eV hok hs
    generalize shL (bat A B) = X at *
    generalize shR (bat A B) = Y at *
    have hXY := hst.2.2
    have litown : True := trivial
    refine fn_of_W2 Try.func41 rfl Try.results41 Try.ntmps41 rfl ?_
    have stop4 : True := trivial
    focus
      refine W_seq ?_; refine W_region rfl ?_; refine Wo_box rfl rfl rfl ?_; rintro b1 w1 hb1 E1 hB1; have hlb1 := hB1.lt; have hs1 := E1.size; refine Wo rfl (opv_assign (v := .slice _ _ _) rfl) ?_
      refine Wo rfl (opv_assign (v := .bool _) rfl) ?_; refine Wo_nil ?_; refine W_seq ?_; refine W_seq ?_; refine W_region rfl ?_; refine Wo (v := .agg _) rfl (opv_load2 Try.isAgg25 Try.sizeOf25 rfl hB1) ?_
      refine Wo_call rfl (opc1 (a := .agg _) Try.call54 rfl) (k1 _ _ _ ((Mono.mono E1 h1)) ((Mono.mono E1 h2))) ?_; rintro _ w2 ⟨rfl, E2⟩; have hs2 := E2.size; refine Wo rfl (opv_not rfl) ?_; refine Wo_nil ?_
      refine W_cond rfl (fun h3 => ?_) (fun h3 => ?_); contradiction; refine W_skip ?_; refine W_seq ?_; refine W_region rfl ?_; refine Wo (v := .agg _) rfl (opv_load2 Try.isAgg25 Try.sizeOf25 rfl (hB1.ext E2)) ?_
      refine Wo_call rfl (opc1 (a := .agg _) Try.call55 rfl) (k2 _ _ _ ((Mono.mono (E1.trans E2) h1)) ((Mono.mono (E1.trans E2) h2))) ?_; rintro _ w3 ⟨u3, q1, rfl, E3, hO1, hQ1, hd1⟩; have icu3 := OwnedB.isC (Owned.toB hO1)
      have cpu3 := OwnedB.capOk (Owned.toB hO1); have icq1 := OwnedB.isC (Owned.toB hQ1); have cpq1 := OwnedB.capOk (Owned.toB hQ1); have hs3 := E3.size; refine Wo_alloc2 rfl flat25 ?_; rintro b2 w4 hb2 E4 hB2; have hlb2 := hB2.lt
      have hs4 := E4.size; refine Wo_st2 rfl Try.sizeOf25 rfl rfl (by first | rfl | assumption) (by first | rfl | assumption) hB2 (by omega) (((E1.trans E2).trans E3).trans E4) ?_; rintro w5 E5 hB2 K1 hz1
      have E6 := ((E2.trans E3).trans E4).wroteAt (((E1.trans E2).trans E3).trans E4) E5 K1 hz1 (by omega); have szE6 := E6.size; have E7 := (E3.trans E4).wroteAt (((E1.trans E2).trans E3).trans E4) E5 K1 hz1 (by omega)
      have szE7 := E7.size; have E8 := E4.wroteAt (((E1.trans E2).trans E3).trans E4) E5 K1 hz1 (by omega); have szE8 := E8.size; have hB1 := (hB1.ext ((E2.trans E3).trans E4)).of_heap (K1 _ (by omega))
      have hO1 := (hO1.toB.ext E4).wrote K1 (by omega); have hQ1 := (hQ1.toB.ext E4).wrote K1 (by omega); refine Wo_nil ?_; refine W_seq ?_
    clear stop4
    have heldS : w5 = w5 := rfl
    refine W_mid [17, 18, 19, 20, 21, 22, 23, 5] (fun (v : Value) => [(5, v)]) (fun v w' => Ext w5 w' ∧ Owned w5.heap.size XI w' v (([] ++ X) ++ Y)) ?_ ?_
    · focus
        have szE8 := E8.size; have szE7 := E7.size; have szE6 := E6.size; have szE5 := E5.size; have szE4 := E4.size; have szE3 := E3.size; have szE2 := E2.size; have szE1 := E1.size
        refine W_held (fun w' => Ext w5 w') mixed rfl (by kernel_rfl) ?_; intro w6 E9 K2 hz2; have hs5 := E9.size
        refine Wh_take 1 rfl (by kernel_rfl) (by kernel_rfl) rfl (fun _ _ => opv_fieldAddr Try.underlying25 rfl rfl Try.sizeOf23 rfl) E9 ?_
        refine Wh_take (v := u3) 2 rfl (by kernel_rfl) (by kernel_rfl) rfl (fun w' hw' => opv_load Try.isAgg23 rfl ((hB2.ext hw').cell rfl)) E9 ?_
        refine Wh_take 4 rfl (by kernel_rfl) (by kernel_rfl) rfl (fun _ _ => opv_fieldAddr Try.underlying25 rfl rfl Try.sizeOf23 rfl) E9 ?_
        refine Wh_take (v := q1) 5 rfl (by kernel_rfl) (by kernel_rfl) rfl (fun w' hw' => opv_load Try.isAgg23 rfl ((hB2.ext hw').cell rfl)) E9 ?_; refine Wh_all (rs := [0]) (by kernel_rfl) rfl ?_; refine WhAll_cons rfl ?_ ?_
        refine Wo_lit0 XInt rfl el23 Try.sizeOf3 ?_; rintro b3 w7 hb3 b3lt E10 hO2; have hs6 := E10.size; refine Wo_nil ?_; refine ⟨(E9.trans E10), ?_⟩; refine Wh_all (rs := [3]) (by kernel_rfl) rfl ?_; refine WhAll_cons rfl ?_ ?_
        refine Wo_appS rfl el23 rfl rfl (Mono.mono (E9.trans E10) (OwnedB.read hO1)) hO2.toB (by first | omega | (simp <;> omega)) (by omega) (by omega) ((E5.trans E9).trans E10) (by omega) ?_; have hT1 := hO2.toB; rintro v1 w8 hO2 E11 M1
        have E12 := M1.ext hT1 ((E6.trans E9).trans E10) (by omega); have szE12 := E12.size; have E13 := M1.ext hT1 ((E7.trans E9).trans E10) (by omega); have szE13 := E13.size; have E14 := M1.ext hT1 ((E8.trans E9).trans E10) (by omega)
        have szE14 := E14.size; have E15 := M1.ext hT1 (E9.trans E10) (by omega); have szE15 := E15.size; have E16 := M1.ext hT1 E10 (by omega); have szE16 := E16.size; have hB2 := (hB2.ext (E9.trans E10)).moves M1 hT1 (by omega)
        have hB1 := (hB1.ext (E9.trans E10)).moves M1 hT1 (by omega); have hO1 := (hO1.ext (E9.trans E10)).moves M1 hT1 (by omega); have hQ1 := (hQ1.ext (E9.trans E10)).moves M1 hT1 (by omega); have hs7 := E11.size; have szM1 := M1.1.size
        have icv1 := OwnedB.isC (Owned.toB hO2); refine Wo_nil ?_; refine ⟨E15, ?_⟩; refine Wh_all (rs := [6]) (by kernel_rfl) rfl ?_; refine WhAll_cons rfl ?_ ?_
        refine Wo_appS rfl el23 rfl rfl (OwnedB.read hQ1) hO2.toB (by first | omega | (simp <;> omega)) (by omega) (by omega) E11 (by omega) ?_; have hT2 := hO2.toB; rintro v2 w9 hO2 E17 M2; have E18 := M2.ext hT2 E12 (by omega)
        have szE18 := E18.size; have E19 := M2.ext hT2 E13 (by omega); have szE19 := E19.size; have E20 := M2.ext hT2 E14 (by omega); have szE20 := E20.size; have E21 := M2.ext hT2 E15 (by omega); have szE21 := E21.size
        have E22 := M2.ext hT2 E16 (by omega); have szE22 := E22.size; have hB2 := hB2.moves M2 hT2 (by omega); have hB1 := hB1.moves M2 hT2 (by omega); have hO1 := hO1.moves M2 hT2 (by omega); have hQ1 := hQ1.moves M2 hT2 (by omega)
        have hs8 := E17.size; have szM2 := M2.1.size; have icv2 := OwnedB.isC (Owned.toB hO2); refine Wo_nil ?_; refine ⟨E21, ?_⟩; refine Wh_take 7 rfl (by kernel_rfl) (by kernel_rfl) rfl (fun _ _ => opv_assign (v := v2) rfl) E21 ?_
        refine Wh_done (by kernel_rfl) ?_; rotate_left; exact WhAll_nil; exact WhAll_nil; exact WhAll_nil
      all_goals exact ⟨v2, ⟨rfl, trivial⟩, by repeat (first | with_reducible exact Same.refl | refine Same.upd rfl ?_ | refine Same.upds rfl ?_ | refine Same.mix rfl ?_), by assumption, by first | exact hO2.mono (by omega) | exact hO3.mono (by omega)⟩
    clear heldS hO1 hQ1
    rintro v ρ6 w6 ⟨E6', hO⟩
    have hl : (([] ++ X) ++ Y).length = X.length + Y.length := by simp
    by_cases h4 : X.length + Y.length ≤ 4
    · rw [if_pos h4]
      have hc : ∀ x, decide ((1 : Int) ∈ ([] ++ X) ++ Y) = x → ∀ (w : World) (u : Value), Ints w u (([] ++ X) ++ Y) → Does Try.prog 73 [u, .int .i64 1] w (Ret w (.bool x)) := fun x e w u h => by
        subst e; exact Cont_ok w u _ h 1
      have hem : ∀ (z : Int), z = (sdM X Y : Int) → ∀ w, Does Try.prog 74 [.int .i64 z] w (RetO w XR (sdQ X Y 0)) := fun z e w => by
        subst e
        rw [sdQ_zero]
        exact emptyPicture_ok w (sdM X Y) (by unfold sdM; split <;> omega)
      have hM : sdM X Y = X.length + Y.length + if (1 : Int) ∈ X ++ Y then 1 else 0 := rfl
      have stop12 : True := trivial
      by_cases h11 : (1 : Int) ∈ X ++ Y
      · rw [if_pos h11] at hM
        have hc1 := hc true (decide_eq_true (by simpa using h11))
        focus
          have szE6' := E6'.size; have szE8 := E8.size; have szE7 := E7.size; have szE6 := E6.size; have szE5 := E5.size; have szE4 := E4.size; have szE3 := E3.size; have szE2 := E2.size; have szE1 := E1.size; refine W_seq ?_; refine W_seq ?_
          refine W_region rfl ?_; refine Wo rfl (opv_move (v := v) rfl) ?_; refine Wo rfl (opv_len Try.underlying23 rfl (Owned.read hO)) ?_; refine Wo rfl (opv_gtr rfl rfl) ?_; refine Wo_nil ?_
          refine W_cond_dec rfl (fun h5 => ?_) (fun h5 => ?_); (exfalso; omega); refine W_skip ?_; refine W_seq ?_; refine W_region rfl ?_; refine Wo rfl (opv_move (v := v) rfl) ?_
          refine Wo rfl (opv_len Try.underlying23 rfl (Owned.read hO)) ?_; refine Wo rfl (opv_assign (v := .int _ _) rfl) ?_; refine Wo_nil ?_; refine W_seq ?_; refine W_region rfl ?_; refine Wo rfl (opv_move (v := .int _ _) rfl) ?_
          refine Wo rfl (opv_assign (v := .int _ _) rfl) ?_; refine Wo_nil ?_; refine W_seq ?_; refine W_seq ?_; refine W_region rfl ?_; refine Wo rfl (opv_move (v := v) rfl) ?_
          refine Wo_call rfl (opc2 (a := v) (b := .int _ _) Try.call73 rfl rfl) (hc1 _ _ ((Owned.read hO))) ?_; rintro _ w7 ⟨rfl, E9⟩; have hs5 := E9.size; refine Wo_nil ?_; refine W_cond_true rfl ?_; refine W_region rfl ?_
          refine Wo rfl (opv_move (v := .int _ _) rfl) ?_; refine Wo rfl (opv_add rfl rfl (by omega)) ?_; refine Wo rfl (opv_assign (v := .int _ _) rfl) ?_; refine Wo_nil ?_; refine W_seq ?_; refine W_region rfl ?_
          refine Wo rfl (opv_move (v := .int _ _) rfl) ?_; refine Wo_call rfl (opc1 (a := .int _ _) Try.call74 rfl) (hem _ (by omega) _) ?_; rintro u4 w8 ⟨E10, hO2⟩; have hs6 := E10.size; refine Wo rfl (opv_assign (v := u4) rfl) ?_
          refine Wo_nil ?_; refine W_seq ?_; refine W_seq ?_
        clear stop12 hc hc1 hem
        have hq0 := sdQ_len (A := X) (B := Y) (i := 0)
        obtain ⟨ub, uc, rfl, _⟩ := hO2.lit (by omega)
        focus
          have szE10 := E10.size; have szE9 := E9.size; have szE6' := E6'.size; have szE8 := E8.size; have szE7 := E7.size; have szE6 := E6.size; have szE5 := E5.size; have szE4 := E4.size; have szE3 := E3.size; have szE2 := E2.size
          have szE1 := E1.size; refine W_region rfl ?_; refine Wo rfl (opv_move (v := v) rfl) ?_; refine Wo rfl (opv_len Try.underlying23 rfl (Owned.read hO)) ?_; refine Wo rfl (opv_move (v := .int _ _) rfl) ?_; refine Wo_nil ?_
          refine W_block ?_
        refine W_loop [9, 10, 11, 38, 39, 40, 41, 42, 43, 44, 45, 46, 47, 48, 49, 50, 51, 52, 53, 54, 55, 56, 57, 58, 59, 60, 61, 62, 63, 64, 65] (fun (i : Nat) => [(38, .int .i64 (i : Int))]) (fun i w' => Ext w7 w' ∧ i ≤ X.length + Y.length ∧ Owned w7.heap.size XR w' (.slice (some ⟨ub, 0, none⟩) (sdQ X Y 0).length uc) (sdQ X Y i)) (fun x => X.length + Y.length - x) 0 (by repeat (first | exact trivial | refine And.intro rfl ?_)) ?_ ?_
        · exact ⟨by assumption, Nat.zero_le _, hO2⟩
        clear hO2
        rintro i ρj w9 ⟨E9', hi, hO2⟩
        by_cases hin : i < X.length + Y.length
        · have hqi := sdQ_len (A := X) (B := Y) (i := i)
          have hri := sdQ_row (A := X) (B := Y) (i := i) (k := i) (by omega)
          obtain ⟨br, cr, hR, _, _⟩ := hO2.rowAt (i := i) (by omega) (by omega)
          have hb2 := hO2.lt_own (k := ub) rfl
          have hbl : i < (([] ++ X) ++ Y).length := by omega
          have hbi : (([] ++ X) ++ Y)[i] = (X ++ Y).getD i 0 := by rw [getD_lt (by simpa using hin)]; simp
          focus
            have szE9' := E9'.size; have szE10 := E10.size; have szE9 := E9.size; have szE6' := E6'.size; have szE8 := E8.size; have szE7 := E7.size; have szE6 := E6.size; have szE5 := E5.size; have szE4 := E4.size; have szE3 := E3.size
            have szE2 := E2.size; have szE1 := E1.size; refine W_seq ?_; refine W_region rfl ?_; refine Wo rfl (opv_lss rfl rfl) ?_; refine Wo_nil ?_; refine W_seq ?_; refine W_cond_dec rfl (fun h6 => ?_) (fun h6 => ?_); refine W_skip ?_
            refine W_seq ?_; refine W_block ?_; refine W_seq ?_; refine W_region rfl ?_; refine Wo rfl (opv_move (v := .int _ _) rfl) ?_
            refine Wo_get Try.underlying23 Try.sizeOf3 Try.isAgg3 rfl (fun _ => rfl) rfl (Owned.read hO) (E9.trans E9') rfl (by first | omega | (simp <;> omega)) ?_; rintro _ _ rfl; refine Wo rfl (opv_assign (v := .int _ _) rfl) ?_
            refine Wo rfl (opv_assign (v := .int _ _) rfl) ?_; refine Wo_nil ?_; refine W_seq ?_; refine W_region rfl ?_; refine Wo rfl (opv_move (v := .int _ _) rfl) ?_; refine Wo rfl (opv_add rfl rfl (by omega)) ?_
            refine Wo rfl (opv_assign (v := .int _ _) rfl) ?_; refine Wo_nil ?_; refine W_seq ?_; refine W_seq ?_; refine W_region rfl ?_; refine Wo rfl (opv_move (v := .int _ _) rfl) ?_; refine Wo rfl (opv_move (v := .int _ _) rfl) ?_
            refine Wo rfl (opv_eql rfl rfl) ?_; refine Wo_nil ?_; refine W_cond_dec rfl (fun h7 => ?_) (fun h7 => ?_); refine W_region rfl ?_; refine Wo rfl (opv_fieldAddr Try.underlying25 rfl rfl Try.sizeOf23 rfl) ?_
            refine Wo (v := u3) rfl (opv_load Try.isAgg23 rfl ((hB2.ext ((E6'.trans E9).trans E9')).cell rfl)) ?_; refine Wo rfl (opv_len Try.underlying23 rfl (Owned.read hO1)) ?_; refine Wo rfl (opv_assign (v := .int _ _) rfl) ?_
            refine Wo_nil ?_; refine W_seq ?_; refine W_region rfl ?_; refine Wo rfl (opv_move (v := .slice _ _ _) rfl) ?_; refine Wo rfl (opv_move (v := .int _ _) rfl) ?_
            refine Wo_rowAt Try.underlying50 Try.sizeOf23 Try.isAgg23 rfl (fun _ => rfl) rfl ⟨_, _, rfl⟩ rfl hR (by first | omega | (simp <;> omega)) ?_; rintro _; refine Wo rfl (opv_move (v := .int _ _) rfl) ?_
            refine Wo rfl (opv_indexAddr Try.underlying23 Try.sizeOf3 rfl rfl (by omega)) ?_; refine Wo_gset rfl Try.sizeOf3 rfl rfl hO2.toB hR (by first | omega | (simp <;> omega)) (by first | omega | (simp <;> omega)) ?_
            rintro w10 hO2 hR On1 K2 hz2; have E11 := On1.ext1 (((E5.trans E6').trans E9).trans E9') (by omega); have E12 := On1.ext1 (((E6.trans E6').trans E9).trans E9') (by omega); have szE12 := E12.size
            have E13 := On1.ext1 (((E7.trans E6').trans E9).trans E9') (by omega); have szE13 := E13.size; have E14 := On1.ext1 (((E8.trans E6').trans E9).trans E9') (by omega); have szE14 := E14.size
            have E15 := On1.ext1 ((E6'.trans E9).trans E9') (by omega); have szE15 := E15.size; have E16 := On1.ext1 (E9.trans E9') (by omega); have szE16 := E16.size; have E17 := On1.ext1 E9' (by omega); have szE17 := E17.size
            have hO1 := (hO1.toB.ext (((E8.trans E6').trans E9).trans E9')).wrote K2 (by omega); have hQ1 := (hQ1.toB.ext (((E8.trans E6').trans E9).trans E9')).wrote K2 (by omega)
            have hB2 := (hB2.ext ((E6'.trans E9).trans E9')).of_heap (K2 _ (by omega)); have hB1 := (hB1.ext ((E6'.trans E9).trans E9')).of_heap (K2 _ (by omega)); have hO := (hO.toB.ext (E9.trans E9')).wrote K2 (by omega); have hs7 := On1.size
            refine Wo_nil ?_; refine W_seq ?_; refine W_region rfl ?_; refine Wo rfl (opv_move (v := .int _ _) rfl) ?_; refine Wo rfl (opv_eql rfl rfl) ?_; refine Wo_nil ?_; refine W_cond_dec rfl (fun h8 => ?_) (fun h8 => ?_)
            refine W_region rfl ?_; refine Wo rfl (opv_move (v := .slice _ _ _) rfl) ?_; refine Wo rfl (opv_move (v := .int _ _) rfl) ?_
            refine Wo_rowAt Try.underlying50 Try.sizeOf23 Try.isAgg23 rfl (fun _ => rfl) rfl ⟨_, _, rfl⟩ rfl hR (by first | omega | (simp <;> omega)) ?_; rintro _; refine Wo rfl (opv_move (v := .int _ _) rfl) ?_
            refine Wo rfl (opv_indexAddr Try.underlying23 Try.sizeOf3 rfl rfl (by omega)) ?_; refine Wo_gset rfl Try.sizeOf3 rfl rfl hO2.toB hR (by first | omega | (simp <;> omega)) (by first | omega | (simp <;> omega)) ?_
            rintro w11 hO2 hR On2 K3 hz3; have E18 := On2.ext1 E11 (by omega); have E19 := On2.ext1 E12 (by omega); have szE19 := E19.size; have E20 := On2.ext1 E13 (by omega); have szE20 := E20.size; have E21 := On2.ext1 E14 (by omega)
            have szE21 := E21.size; have E22 := On2.ext1 E15 (by omega); have szE22 := E22.size; have E23 := On2.ext1 E16 (by omega); have szE23 := E23.size; have E24 := On2.ext1 E17 (by omega); have szE24 := E24.size
            have hO1 := hO1.wrote K3 (by omega); have hQ1 := hQ1.wrote K3 (by omega); have hB2 := hB2.of_heap (K3 _ (by omega)); have hB1 := hB1.of_heap (K3 _ (by omega)); have hO := hO.wrote K3 (by omega); have hs8 := On2.size
            refine Wo_nil ?_; refine W_region rfl ?_; refine Wo rfl (opv_add rfl rfl (by omega)) ?_; refine Wo rfl (opv_move (v := .int _ _) rfl) ?_; refine Wo_nil ?_; rotate_left; refine W_skip ?_; refine W_region rfl ?_
            refine Wo rfl (opv_add rfl rfl (by omega)) ?_; refine Wo rfl (opv_move (v := .int _ _) rfl) ?_; refine Wo_nil ?_; rotate_left; refine W_skip ?_; refine W_seq ?_; refine W_region rfl ?_
            refine Wo rfl (opv_move (v := .slice _ _ _) rfl) ?_; refine Wo rfl (opv_move (v := .int _ _) rfl) ?_
            refine Wo_rowAt Try.underlying50 Try.sizeOf23 Try.isAgg23 rfl (fun _ => rfl) rfl ⟨_, _, rfl⟩ rfl hR (by first | omega | (simp <;> omega)) ?_; rintro _; refine Wo rfl (opv_move (v := .int _ _) rfl) ?_
            refine Wo rfl (opv_indexAddr_z Try.underlying23 Try.sizeOf3 rfl rfl (by omega)) ?_; refine Wo_gset rfl Try.sizeOf3 rfl rfl hO2.toB hR (by first | omega | (simp <;> omega)) (by first | omega | (simp <;> omega)) ?_
            rintro w10 hO2 hR On1 K2 hz2; have E11 := On1.ext1 (((E5.trans E6').trans E9).trans E9') (by omega); have E12 := On1.ext1 (((E6.trans E6').trans E9).trans E9') (by omega); have szE12 := E12.size
            have E13 := On1.ext1 (((E7.trans E6').trans E9).trans E9') (by omega); have szE13 := E13.size; have E14 := On1.ext1 (((E8.trans E6').trans E9).trans E9') (by omega); have szE14 := E14.size
            have E15 := On1.ext1 ((E6'.trans E9).trans E9') (by omega); have szE15 := E15.size; have E16 := On1.ext1 (E9.trans E9') (by omega); have szE16 := E16.size; have E17 := On1.ext1 E9' (by omega); have szE17 := E17.size
            have hO1 := (hO1.toB.ext (((E8.trans E6').trans E9).trans E9')).wrote K2 (by omega); have hQ1 := (hQ1.toB.ext (((E8.trans E6').trans E9).trans E9')).wrote K2 (by omega)
            have hB2 := (hB2.ext ((E6'.trans E9).trans E9')).of_heap (K2 _ (by omega)); have hB1 := (hB1.ext ((E6'.trans E9).trans E9')).of_heap (K2 _ (by omega)); have hO := (hO.toB.ext (E9.trans E9')).wrote K2 (by omega); have hs7 := On1.size
            refine Wo_nil ?_; refine W_seq ?_; refine W_region rfl ?_; refine Wo rfl (opv_move (v := .int _ _) rfl) ?_; refine Wo rfl (opv_eql rfl rfl) ?_; refine Wo_nil ?_; refine W_cond_dec rfl (fun h8 => ?_) (fun h8 => ?_)
            refine W_region rfl ?_; refine Wo rfl (opv_move (v := .slice _ _ _) rfl) ?_; refine Wo rfl (opv_move (v := .int _ _) rfl) ?_
            refine Wo_rowAt Try.underlying50 Try.sizeOf23 Try.isAgg23 rfl (fun _ => rfl) rfl ⟨_, _, rfl⟩ rfl hR (by first | omega | (simp <;> omega)) ?_; rintro _; refine Wo rfl (opv_move (v := .int _ _) rfl) ?_
            refine Wo rfl (opv_indexAddr Try.underlying23 Try.sizeOf3 rfl rfl (by omega)) ?_; refine Wo_gset rfl Try.sizeOf3 rfl rfl hO2.toB hR (by first | omega | (simp <;> omega)) (by first | omega | (simp <;> omega)) ?_
            rintro w11 hO2 hR On2 K3 hz3; have E18 := On2.ext1 E11 (by omega); have E19 := On2.ext1 E12 (by omega); have szE19 := E19.size; have E20 := On2.ext1 E13 (by omega); have szE20 := E20.size; have E21 := On2.ext1 E14 (by omega)
            have szE21 := E21.size; have E22 := On2.ext1 E15 (by omega); have szE22 := E22.size; have E23 := On2.ext1 E16 (by omega); have szE23 := E23.size; have E24 := On2.ext1 E17 (by omega); have szE24 := E24.size
            have hO1 := hO1.wrote K3 (by omega); have hQ1 := hQ1.wrote K3 (by omega); have hB2 := hB2.of_heap (K3 _ (by omega)); have hB1 := hB1.of_heap (K3 _ (by omega)); have hO := hO.wrote K3 (by omega); have hs8 := On2.size
            refine Wo_nil ?_; refine W_region rfl ?_; refine Wo rfl (opv_add rfl rfl (by omega)) ?_; refine Wo rfl (opv_move (v := .int _ _) rfl) ?_; refine Wo_nil ?_; rotate_left; refine W_skip ?_; refine W_region rfl ?_
            refine Wo rfl (opv_add rfl rfl (by omega)) ?_; refine Wo rfl (opv_move (v := .int _ _) rfl) ?_; refine Wo_nil ?_; rotate_left; (exfalso; omega)
          all_goals refine ⟨i + 1, ⟨rfl, trivial⟩, by repeat (first | with_reducible exact Same.refl | refine Same.upd rfl ?_ | refine Same.upds rfl ?_ | refine Same.mix rfl ?_), ⟨by assumption, by omega, (congrArg (Owned _ _ _ _) ?_).mp hO2⟩, by omega⟩
          all_goals first
            | exact sdQ_stepB (by omega) (by rw [List.length_set]; omega) (by unfold sdNext; split <;> omega) (by omega) (by omega)
            | exact sdQ_stepA (by omega) (by unfold sdNext; split <;> omega) (by omega)
        · obtain rfl : i = X.length + Y.length := by omega
          focus
            have szE9' := E9'.size; have szE10 := E10.size; have szE9 := E9.size; have szE6' := E6'.size; have szE8 := E8.size; have szE7 := E7.size; have szE6 := E6.size; have szE5 := E5.size; have szE4 := E4.size; have szE3 := E3.size
            have szE2 := E2.size; have szE1 := E1.size; refine W_seq ?_; refine W_region rfl ?_; refine Wo rfl (opv_lss rfl rfl) ?_; refine Wo_nil ?_; refine W_seq ?_; refine W_cond_dec rfl (fun h6 => ?_) (fun h6 => ?_); (exfalso; omega)
            refine W_exit ?_; refine exitX_same ?_; refine W_seq ?_; refine W_region rfl ?_; refine Wo rfl (opv_move (v := .slice _ _ _) rfl) ?_; refine Wo rfl (opv_assign (v := .slice _ _ _) rfl) ?_
            refine Wo rfl (opv_assign (v := .bool _) rfl) ?_; refine Wo_nil ?_; refine W_ret ?_; refine at_ret (v := .tuple #[.slice _ _ _, .bool _]) rfl ?_; exact ⟨_, rfl, (((E5.trans E6').trans E9).trans E9'), hO2.toB.o.mono (by omega)⟩
      · rw [if_neg h11] at hM
        have hc1 := hc false (decide_eq_false (by simpa using h11))
        focus
          have szE6' := E6'.size; have szE8 := E8.size; have szE7 := E7.size; have szE6 := E6.size; have szE5 := E5.size; have szE4 := E4.size; have szE3 := E3.size; have szE2 := E2.size; have szE1 := E1.size; refine W_seq ?_; refine W_seq ?_
          refine W_region rfl ?_; refine Wo rfl (opv_move (v := v) rfl) ?_; refine Wo rfl (opv_len Try.underlying23 rfl (Owned.read hO)) ?_; refine Wo rfl (opv_gtr rfl rfl) ?_; refine Wo_nil ?_
          refine W_cond_dec rfl (fun h5 => ?_) (fun h5 => ?_); (exfalso; omega); refine W_skip ?_; refine W_seq ?_; refine W_region rfl ?_; refine Wo rfl (opv_move (v := v) rfl) ?_
          refine Wo rfl (opv_len Try.underlying23 rfl (Owned.read hO)) ?_; refine Wo rfl (opv_assign (v := .int _ _) rfl) ?_; refine Wo_nil ?_; refine W_seq ?_; refine W_region rfl ?_; refine Wo rfl (opv_move (v := .int _ _) rfl) ?_
          refine Wo rfl (opv_assign (v := .int _ _) rfl) ?_; refine Wo_nil ?_; refine W_seq ?_; refine W_seq ?_; refine W_region rfl ?_; refine Wo rfl (opv_move (v := v) rfl) ?_
          refine Wo_call rfl (opc2 (a := v) (b := .int _ _) Try.call73 rfl rfl) (hc1 _ _ ((Owned.read hO))) ?_; rintro _ w7 ⟨rfl, E9⟩; have hs5 := E9.size; refine Wo_nil ?_; refine W_cond_false rfl ?_; refine W_skip ?_; refine W_seq ?_
          refine W_region rfl ?_; refine Wo rfl (opv_move (v := .int _ _) rfl) ?_; refine Wo_call rfl (opc1 (a := .int _ _) Try.call74 rfl) (hem _ (by omega) _) ?_; rintro u4 w8 ⟨E10, hO2⟩; have hs6 := E10.size
          refine Wo rfl (opv_assign (v := u4) rfl) ?_; refine Wo_nil ?_; refine W_seq ?_; refine W_seq ?_
        clear stop12 hc hc1 hem
        have hq0 := sdQ_len (A := X) (B := Y) (i := 0)
        obtain ⟨ub, uc, rfl, _⟩ := hO2.lit (by omega)
        focus
          have szE10 := E10.size; have szE9 := E9.size; have szE6' := E6'.size; have szE8 := E8.size; have szE7 := E7.size; have szE6 := E6.size; have szE5 := E5.size; have szE4 := E4.size; have szE3 := E3.size; have szE2 := E2.size
          have szE1 := E1.size; refine W_region rfl ?_; refine Wo rfl (opv_move (v := v) rfl) ?_; refine Wo rfl (opv_len Try.underlying23 rfl (Owned.read hO)) ?_; refine Wo rfl (opv_move (v := .int _ _) rfl) ?_; refine Wo_nil ?_
          refine W_block ?_
        refine W_loop [9, 10, 11, 38, 39, 40, 41, 42, 43, 44, 45, 46, 47, 48, 49, 50, 51, 52, 53, 54, 55, 56, 57, 58, 59, 60, 61, 62, 63, 64, 65] (fun (i : Nat) => [(38, .int .i64 (i : Int))]) (fun i w' => Ext w7 w' ∧ i ≤ X.length + Y.length ∧ Owned w7.heap.size XR w' (.slice (some ⟨ub, 0, none⟩) (sdQ X Y 0).length uc) (sdQ X Y i)) (fun x => X.length + Y.length - x) 0 (by repeat (first | exact trivial | refine And.intro rfl ?_)) ?_ ?_
        · exact ⟨by assumption, Nat.zero_le _, hO2⟩
        clear hO2
        rintro i ρj w9 ⟨E9', hi, hO2⟩
        by_cases hin : i < X.length + Y.length
        · have hqi := sdQ_len (A := X) (B := Y) (i := i)
          have hri := sdQ_row (A := X) (B := Y) (i := i) (k := i) (by omega)
          obtain ⟨br, cr, hR, _, _⟩ := hO2.rowAt (i := i) (by omega) (by omega)
          have hb2 := hO2.lt_own (k := ub) rfl
          have hbl : i < (([] ++ X) ++ Y).length := by omega
          have hbi : (([] ++ X) ++ Y)[i] = (X ++ Y).getD i 0 := by rw [getD_lt (by simpa using hin)]; simp
          have hbn : ¬ (([] ++ X) ++ Y)[i] = 1 := fun e => h11 (by
            have := List.getElem_mem hbl
            rw [e] at this
            simpa using this)
          focus
            have szE9' := E9'.size; have szE10 := E10.size; have szE9 := E9.size; have szE6' := E6'.size; have szE8 := E8.size; have szE7 := E7.size; have szE6 := E6.size; have szE5 := E5.size; have szE4 := E4.size; have szE3 := E3.size
            have szE2 := E2.size; have szE1 := E1.size; refine W_seq ?_; refine W_region rfl ?_; refine Wo rfl (opv_lss rfl rfl) ?_; refine Wo_nil ?_; refine W_seq ?_; refine W_cond_dec rfl (fun h6 => ?_) (fun h6 => ?_); refine W_skip ?_
            refine W_seq ?_; refine W_block ?_; refine W_seq ?_; refine W_region rfl ?_; refine Wo rfl (opv_move (v := .int _ _) rfl) ?_
            refine Wo_get Try.underlying23 Try.sizeOf3 Try.isAgg3 rfl (fun _ => rfl) rfl (Owned.read hO) (E9.trans E9') rfl (by first | omega | (simp <;> omega)) ?_; rintro _ _ rfl; refine Wo rfl (opv_assign (v := .int _ _) rfl) ?_
            refine Wo rfl (opv_assign (v := .int _ _) rfl) ?_; refine Wo_nil ?_; refine W_seq ?_; refine W_region rfl ?_; refine Wo rfl (opv_move (v := .int _ _) rfl) ?_; refine Wo rfl (opv_add rfl rfl (by omega)) ?_
            refine Wo rfl (opv_assign (v := .int _ _) rfl) ?_; refine Wo_nil ?_; refine W_seq ?_; refine W_seq ?_; refine W_region rfl ?_; refine Wo rfl (opv_move (v := .int _ _) rfl) ?_; refine Wo rfl (opv_move (v := .int _ _) rfl) ?_
            refine Wo rfl (opv_eql rfl rfl) ?_; refine Wo_nil ?_; refine W_cond_dec rfl (fun h7 => ?_) (fun h7 => ?_); refine W_region rfl ?_; refine Wo rfl (opv_fieldAddr Try.underlying25 rfl rfl Try.sizeOf23 rfl) ?_
            refine Wo (v := u3) rfl (opv_load Try.isAgg23 rfl ((hB2.ext ((E6'.trans E9).trans E9')).cell rfl)) ?_; refine Wo rfl (opv_len Try.underlying23 rfl (Owned.read hO1)) ?_; refine Wo rfl (opv_assign (v := .int _ _) rfl) ?_
            refine Wo_nil ?_; refine W_seq ?_; refine W_region rfl ?_; refine Wo rfl (opv_move (v := .slice _ _ _) rfl) ?_; refine Wo rfl (opv_move (v := .int _ _) rfl) ?_
            refine Wo_rowAt Try.underlying50 Try.sizeOf23 Try.isAgg23 rfl (fun _ => rfl) rfl ⟨_, _, rfl⟩ rfl hR (by first | omega | (simp <;> omega)) ?_; rintro _; refine Wo rfl (opv_move (v := .int _ _) rfl) ?_
            refine Wo rfl (opv_indexAddr Try.underlying23 Try.sizeOf3 rfl rfl (by omega)) ?_; refine Wo_gset rfl Try.sizeOf3 rfl rfl hO2.toB hR (by first | omega | (simp <;> omega)) (by first | omega | (simp <;> omega)) ?_
            rintro w10 hO2 hR On1 K2 hz2; have E11 := On1.ext1 (((E5.trans E6').trans E9).trans E9') (by omega); have E12 := On1.ext1 (((E6.trans E6').trans E9).trans E9') (by omega); have szE12 := E12.size
            have E13 := On1.ext1 (((E7.trans E6').trans E9).trans E9') (by omega); have szE13 := E13.size; have E14 := On1.ext1 (((E8.trans E6').trans E9).trans E9') (by omega); have szE14 := E14.size
            have E15 := On1.ext1 ((E6'.trans E9).trans E9') (by omega); have szE15 := E15.size; have E16 := On1.ext1 (E9.trans E9') (by omega); have szE16 := E16.size; have E17 := On1.ext1 E9' (by omega); have szE17 := E17.size
            have hO1 := (hO1.toB.ext (((E8.trans E6').trans E9).trans E9')).wrote K2 (by omega); have hQ1 := (hQ1.toB.ext (((E8.trans E6').trans E9).trans E9')).wrote K2 (by omega)
            have hB2 := (hB2.ext ((E6'.trans E9).trans E9')).of_heap (K2 _ (by omega)); have hB1 := (hB1.ext ((E6'.trans E9).trans E9')).of_heap (K2 _ (by omega)); have hO := (hO.toB.ext (E9.trans E9')).wrote K2 (by omega); have hs7 := On1.size
            refine Wo_nil ?_; refine W_seq ?_; refine W_region rfl ?_; refine Wo rfl (opv_move (v := .int _ _) rfl) ?_; refine Wo rfl (opv_eql rfl rfl) ?_; refine Wo_nil ?_; refine W_cond_dec rfl (fun h8 => ?_) (fun h8 => ?_); contradiction
            refine W_skip ?_; refine W_region rfl ?_; refine Wo rfl (opv_add rfl rfl (by omega)) ?_; refine Wo rfl (opv_move (v := .int _ _) rfl) ?_; refine Wo_nil ?_; rotate_left; refine W_skip ?_; refine W_seq ?_; refine W_region rfl ?_
            refine Wo rfl (opv_move (v := .slice _ _ _) rfl) ?_; refine Wo rfl (opv_move (v := .int _ _) rfl) ?_
            refine Wo_rowAt Try.underlying50 Try.sizeOf23 Try.isAgg23 rfl (fun _ => rfl) rfl ⟨_, _, rfl⟩ rfl hR (by first | omega | (simp <;> omega)) ?_; rintro _; refine Wo rfl (opv_move (v := .int _ _) rfl) ?_
            refine Wo rfl (opv_indexAddr_z Try.underlying23 Try.sizeOf3 rfl rfl (by omega)) ?_; refine Wo_gset rfl Try.sizeOf3 rfl rfl hO2.toB hR (by first | omega | (simp <;> omega)) (by first | omega | (simp <;> omega)) ?_
            rintro w10 hO2 hR On1 K2 hz2; have E11 := On1.ext1 (((E5.trans E6').trans E9).trans E9') (by omega); have E12 := On1.ext1 (((E6.trans E6').trans E9).trans E9') (by omega); have szE12 := E12.size
            have E13 := On1.ext1 (((E7.trans E6').trans E9).trans E9') (by omega); have szE13 := E13.size; have E14 := On1.ext1 (((E8.trans E6').trans E9).trans E9') (by omega); have szE14 := E14.size
            have E15 := On1.ext1 ((E6'.trans E9).trans E9') (by omega); have szE15 := E15.size; have E16 := On1.ext1 (E9.trans E9') (by omega); have szE16 := E16.size; have E17 := On1.ext1 E9' (by omega); have szE17 := E17.size
            have hO1 := (hO1.toB.ext (((E8.trans E6').trans E9).trans E9')).wrote K2 (by omega); have hQ1 := (hQ1.toB.ext (((E8.trans E6').trans E9).trans E9')).wrote K2 (by omega)
            have hB2 := (hB2.ext ((E6'.trans E9).trans E9')).of_heap (K2 _ (by omega)); have hB1 := (hB1.ext ((E6'.trans E9).trans E9')).of_heap (K2 _ (by omega)); have hO := (hO.toB.ext (E9.trans E9')).wrote K2 (by omega); have hs7 := On1.size
            refine Wo_nil ?_; refine W_seq ?_; refine W_region rfl ?_; refine Wo rfl (opv_move (v := .int _ _) rfl) ?_; refine Wo rfl (opv_eql rfl rfl) ?_; refine Wo_nil ?_; refine W_cond_dec rfl (fun h8 => ?_) (fun h8 => ?_); contradiction
            refine W_skip ?_; refine W_region rfl ?_; refine Wo rfl (opv_add rfl rfl (by omega)) ?_; refine Wo rfl (opv_move (v := .int _ _) rfl) ?_; refine Wo_nil ?_; rotate_left; (exfalso; omega)
          all_goals refine ⟨i + 1, ⟨rfl, trivial⟩, by repeat (first | with_reducible exact Same.refl | refine Same.upd rfl ?_ | refine Same.upds rfl ?_ | refine Same.mix rfl ?_), ⟨by assumption, by omega, (congrArg (Owned _ _ _ _) ?_).mp hO2⟩, by omega⟩
          all_goals first
            | exact sdQ_stepB (by omega) (by rw [List.length_set]; omega) (by unfold sdNext; split <;> omega) (by omega) (by omega)
            | exact sdQ_stepA (by omega) (by unfold sdNext; split <;> omega) (by omega)
        · obtain rfl : i = X.length + Y.length := by omega
          focus
            have szE9' := E9'.size; have szE10 := E10.size; have szE9 := E9.size; have szE6' := E6'.size; have szE8 := E8.size; have szE7 := E7.size; have szE6 := E6.size; have szE5 := E5.size; have szE4 := E4.size; have szE3 := E3.size
            have szE2 := E2.size; have szE1 := E1.size; refine W_seq ?_; refine W_region rfl ?_; refine Wo rfl (opv_lss rfl rfl) ?_; refine Wo_nil ?_; refine W_seq ?_; refine W_cond_dec rfl (fun h6 => ?_) (fun h6 => ?_); (exfalso; omega)
            refine W_exit ?_; refine exitX_same ?_; refine W_seq ?_; refine W_region rfl ?_; refine Wo rfl (opv_move (v := .slice _ _ _) rfl) ?_; refine Wo rfl (opv_assign (v := .slice _ _ _) rfl) ?_
            refine Wo rfl (opv_assign (v := .bool _) rfl) ?_; refine Wo_nil ?_; refine W_ret ?_; refine at_ret (v := .tuple #[.slice _ _ _, .bool _]) rfl ?_; exact ⟨_, rfl, (((E5.trans E6').trans E9).trans E9'), hO2.toB.o.mono (by omega)⟩
    · rw [if_neg h4]
      focus
        have szE6' := E6'.size; have szE8 := E8.size; have szE7 := E7.size; have szE6 := E6.size; have szE5 := E5.size; have szE4 := E4.size; have szE3 := E3.size; have szE2 := E2.size; have szE1 := E1.size; refine W_seq ?_; refine W_seq ?_
        refine W_region rfl ?_; refine Wo rfl (opv_move (v := v) rfl) ?_; refine Wo rfl (opv_len Try.underlying23 rfl (Owned.read hO)) ?_; refine Wo rfl (opv_gtr rfl rfl) ?_; refine Wo_nil ?_
        refine W_cond_dec rfl (fun h5 => ?_) (fun h5 => ?_); refine W_seq ?_; refine W_region rfl ?_; refine Wo rfl (opv_assign (v := .slice _ _ _) rfl) ?_; refine Wo rfl (opv_assign (v := .bool _) rfl) ?_; refine Wo_nil ?_; refine W_ret ?_
        refine at_ret (v := .tuple #[.slice _ _ _, .bool _]) rfl ?_; exact ⟨_, rfl, (E5.trans E6'), Owned.nil⟩; (exfalso; omega)
  · have k1 := hok false (decide_eq_false hs)
    have eV : sdV A B = ([], false) := if_neg (fun h => hs h.1)
    rw [eV]
    refine fn_of_W2 Try.func41 rfl Try.results41 Try.ntmps41 rfl ?_
    focus
      refine W_seq ?_; refine W_region rfl ?_; refine Wo_box rfl rfl rfl ?_; rintro b1 w1 hb1 E1 hB1; have hlb1 := hB1.lt; have hs1 := E1.size; refine Wo rfl (opv_assign (v := .slice _ _ _) rfl) ?_
      refine Wo rfl (opv_assign (v := .bool _) rfl) ?_; refine Wo_nil ?_; refine W_seq ?_; refine W_seq ?_; refine W_region rfl ?_; refine Wo (v := .agg _) rfl (opv_load2 Try.isAgg25 Try.sizeOf25 rfl hB1) ?_
      refine Wo_call rfl (opc1 (a := .agg _) Try.call54 rfl) (k1 _ _ _ ((Mono.mono E1 h1)) ((Mono.mono E1 h2))) ?_; rintro _ w2 ⟨rfl, E2⟩; have hs2 := E2.size; refine Wo rfl (opv_not rfl) ?_; refine Wo_nil ?_
      refine W_cond rfl (fun h3 => ?_) (fun h3 => ?_); refine W_seq ?_; refine W_region rfl ?_; refine Wo rfl (opv_assign (v := .slice _ _ _) rfl) ?_; refine Wo rfl (opv_assign (v := .bool _) rfl) ?_; refine Wo_nil ?_; refine W_ret ?_
      refine at_ret (v := .tuple #[.slice _ _ _, .bool _]) rfl ?_; exact ⟨_, rfl, (E1.trans E2), Owned.nil⟩; contradiction

end Go.Proofs.Ytlalfmialbolhaa
