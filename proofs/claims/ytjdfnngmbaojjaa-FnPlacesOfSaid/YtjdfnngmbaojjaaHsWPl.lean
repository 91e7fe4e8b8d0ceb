/- Walk of the law on PlacesOf. -/
import Derived.Test.YtjdfnngmbaojjaaHsWApL
namespace Go.Proofs.Ytjdfnngmbaojjaa
open Go.Hs
set_option maxRecDepth 10000
set_option maxHeartbeats 4000000
set_option linter.unusedVariables false
set_option linter.unusedSimpArgs false
theorem placesV_no {s : List UInt8} {p : List (List Int)} (h : theF s = none ∨ ¬Pic p) : placesV s p = [] := by
  unfold placesV
  rw [List.filter_eq_nil_iff]
  intro k hk
  unfold holdsV
  rcases h with h | h
  · rw [h]; simp
  · cases theF s with
    | none => simp
    | some f => simp [decide_eq_false (show ¬Nod p (k : Int) from fun hn => h hn.1)]
theorem placesV_mem {s : List UInt8} {p : List (List Int)} {f : Fm} (hf : theF s = some f) (hp : Pic p) {k : Nat} (hk : k < p.length) : decide ((k : Int) ∈ ints (placesV s p)) = f.holds p k := by
  have e : holdsV s p (k : Int) = f.holds p k := by unfold holdsV; rw [hf, decide_eq_true (show Nod p (k : Int) from ⟨hp, by omega, by omega⟩)]; rfl
  rw [← e]
  cases hh : holdsV s p (k : Int) with
  | true =>
    refine decide_eq_true ?_
    simp only [ints, List.mem_map]
    exact ⟨k, List.mem_filter.2 ⟨List.mem_range.2 hk, hh⟩, rfl⟩
  | false =>
    refine decide_eq_false fun hm => ?_
    simp only [ints, List.mem_map] at hm
    obtain ⟨j, hj, e⟩ := hm
    have := (List.mem_filter.1 hj).2
    rw [e, hh] at this; cases this
theorem ints_asc {l : List Nat} (h : l.Pairwise (· < ·)) : ∀ i (h : i + 1 < (ints l).length), (ints l)[i] < (ints l)[i + 1] := fun i hi => by
  have := List.pairwise_iff_getElem.1 h i (i + 1) (by rw [ints_len] at hi; omega) (by rw [ints_len] at hi; exact hi) (by omega)
  simp only [ints, List.getElem_map]; omega
theorem placesV_sorted (s : List UInt8) (p : List (List Int)) : (placesV s p).Pairwise (· < ·) := (List.pairwise_lt_range).filter _

theorem FnPlacesOf_walk (w : World) (v : Value) (xs : List UInt8) (h : Bytes w v xs) (hc : CapOk v) : Does Try.prog 13 [v] w (Ret w (.bool true)) := by
  have hle := h.le
  refine fn_of_W1 Try.func13 rfl Try.results13 Try.ntmps13 rfl ?_
  focus
    refine W_seq ?_; refine W_region rfl ?_; refine Wo rfl (opv_assign (v := .bool _) rfl) ?_; refine Wo_nil ?_; refine W_seq ?_; refine W_seq ?_; refine W_region rfl ?_; refine Wo rfl (opv_move (v := v) rfl) ?_
    refine Wo rfl (opv_len Try.underlying24 rfl h) ?_; refine Wo rfl (opv_gtr rfl rfl) ?_; refine Wo_nil ?_; refine W_cond_dec rfl (fun h1 => ?_) (fun h1 => ?_); refine W_seq ?_; refine W_region rfl ?_
    refine Wo rfl (opv_assign (v := .bool _) rfl) ?_; refine Wo_nil ?_; refine W_ret ?_; exact ⟨rfl, (Ext.refl _)⟩; refine W_skip ?_; refine W_seq ?_; refine W_region rfl ?_; refine Wo rfl (opv_move (v := v) rfl) ?_
    refine Wo_call rfl (opc1 (a := v) Try.call38 rfl) (DrawPlacesOf_ok _ _ _ (h) (by assumption)) ?_; rintro _ w1 ⟨s1, u1, x1, rfl, E1, hO1, hy1⟩; have hs1 := E1.size; refine Wo rfl (opv_move (v := .tuple _) rfl) ?_
    refine Wo rfl (opv_extract (v := .string _) rfl rfl) ?_; refine Wo rfl (opv_extract (v := u1) rfl rfl) ?_; refine Wo rfl (opv_assign (v := .string _) rfl) ?_; refine Wo rfl (opv_assign (v := u1) rfl) ?_; refine Wo_nil ?_
    refine W_seq ?_; refine W_region rfl ?_; refine Wo rfl (opv_move (v := .string _) rfl) ?_; refine Wo rfl (opv_move (v := u1) rfl) ?_
  have hI : ∀ l, ints (placesV s1 x1) = l → (∀ (w : World) (pv : Value), ESl Ints w pv x1 → Does Try.prog 32 [str s1, pv] w (RetO w XI l)) ∧ (∀ (w : World) (pv : Value), ESl Ints w pv x1 → Does Try.prog 31 [str s1, pv] w (RetO w XI l)) := fun l e => by
    subst e
    exact ⟨fun w pv h => impl_PlacesOf_ok s1 w pv x1 (by unfold lim; omega) h, fun w pv h => spec_PlacesOf_ok s1 w pv x1 (by unfold lim; omega) h (by omega)⟩
  have ho : ∀ b, okF s1 = b → ∀ w, Does Try.prog 15 [str s1] w (Ret w (.bool b)) := fun b e w => by
    subst e; exact spec_FormulaOk_ok s1 w (by unfold lim; omega)
  have hd : ∀ b, decide (Pic x1) = b → ∀ (w : World) (pv : Value), ESl Ints w pv x1 → Does Try.prog 39 [pv] w (Ret w (.bool b)) := fun b e w pv h => by
    subst e; exact PictureOk_ok w pv x1 h
  have hsame : ∀ l (w : World) (v u : Value), Ints w v l → Ints w u l → Does Try.prog 42 [v, u] w (Ret w (.bool true)) := fun l w v u h h' => by
    have := sameInts_ok w v u l l h h'
    rw [decide_eq_true rfl] at this; exact this
  cases hf : theF s1 with
  | none =>
    obtain ⟨k1, k2⟩ := hI [] (by rw [placesV_no (.inl hf)]; rfl)
    have k3 := ho false (by rw [okF, hf]; rfl)
    have h00 : ([] : List Int).length = 0 := rfl
    have k5 := hsame []
    clear hI ho hd hsame
    focus
      have szE1 := E1.size; refine Wo_call rfl (opc2 (a := .string _) (b := u1) Try.call32 rfl rfl) (k1 _ _ ((Owned.read hO1))) ?_; rintro u2 w2 ⟨E2, hO2⟩; have hs2 := E2.size; refine Wo rfl (opv_assign (v := u2) rfl) ?_; refine Wo_nil ?_
      refine W_seq ?_; refine W_seq ?_; refine W_region rfl ?_; refine Wo rfl (opv_move (v := u2) rfl) ?_; refine Wo rfl (opv_move (v := .string _) rfl) ?_; refine Wo rfl (opv_move (v := u1) rfl) ?_
      refine Wo_call rfl (opc2 (a := .string _) (b := u1) Try.call31 rfl rfl) (k2 _ _ ((Mono.mono E2 (Owned.read hO1)))) ?_; rintro u3 w3 ⟨E3, hO3⟩; have hs3 := E3.size
      refine Wo_call rfl (opc2 (a := u2) (b := u3) Try.call42 rfl rfl) (k5 _ _ _ ((Mono.mono E3 (Owned.read hO2))) ((Owned.read hO3))) ?_; rintro _ w4 ⟨rfl, E4⟩; have hs4 := E4.size; refine Wo rfl (opv_not rfl) ?_; refine Wo_nil ?_
      refine W_cond rfl (fun h2 => ?_) (fun h2 => ?_); contradiction; refine W_skip ?_; refine W_seq ?_; refine W_seq ?_; refine W_region rfl ?_; refine Wo rfl (opv_move (v := .string _) rfl) ?_
      refine Wo_call rfl (opc1 (a := .string _) Try.call15 rfl) (k3 _) ?_; rintro _ w5 ⟨rfl, E5⟩; have hs5 := E5.size; refine Wo rfl (opv_not rfl) ?_; refine Wo_split rfl (opv_move (v := .bool _) rfl) (fun h3 => ?_) (fun h3 => ?_)
      refine Wo_skip rfl ?_; refine Wo_skip rfl ?_; refine Wo_skip rfl ?_; refine Wo rfl (opv_pick_t (v := .bool _) rfl rfl) ?_; refine Wo_nil ?_; refine W_cond_true rfl ?_; refine W_seq ?_; refine W_region rfl ?_
      refine Wo rfl (opv_move (v := u2) rfl) ?_; refine Wo rfl (opv_len Try.underlying38 rfl (Owned.read hO2)) ?_; refine Wo rfl (opv_eql rfl rfl) ?_; refine Wo_split_dec rfl (opv_move (v := .bool _) rfl) (fun h4 => ?_) (fun h4 => ?_)
      refine Wo_call rfl (opc0 Try.call20) (alive_ok _) ?_; rintro _ w6 ⟨rfl, E6⟩; have hs6 := E6.size; refine Wo rfl (opv_pick_t (v := .bool _) rfl rfl) ?_; refine Wo rfl (opv_assign (v := .bool _) rfl) ?_; refine Wo_nil ?_
      refine W_ret ?_; exact ⟨rfl, (((((E1.trans E2).trans E3).trans E4).trans E5).trans E6)⟩; contradiction; contradiction
  | some f =>
    have k3 := ho true (by rw [okF, hf]; rfl)
    by_cases hp : Pic x1
    · have k4 := hd true (decide_eq_true hp)
      have hp5 := hp.2.1
      obtain ⟨k1, k2⟩ := hI _ rfl
      have k5 := hsame (ints (placesV s1 x1))
      have hf60 := (theF_some.1 hf).2
      have hdl := f.deep_lt
      have k6 : ∀ w, Does Try.prog 17 [str s1] w (Ret w (.int .i64 f.deep)) := fun w => by
        have := spec_FormulaDeep_ok s1 w (by unfold lim; omega)
        rw [deepV_some hf] at this; exact this
      have k7 : ∀ (w : World) (pv : Value) (z : Int), z = (min f.deep 30 : Nat) → ESl Ints w pv x1 → Does Try.prog 43 [pv, .int .i64 z] w (RetO w XR (matV x1 (bsm x1 (min f.deep 30)))) := fun w pv z e h => by
        subst e
        have := LeftAfter_ok w pv x1 h ((min f.deep 30 : Nat) : Int)
        rw [show leftV x1 ((min f.deep 30 : Nat) : Int) = matV x1 (bsm x1 (min f.deep 30)) from if_pos ⟨hp, by omega, by omega⟩] at this
        exact this
      have k8 : ∀ (w : World) (pv : Value) (k j : Nat) (x : Bool), k < x1.length → j < x1.length → bsm x1 x1.length k j = x → ESl Ints w pv x1 → Does Try.prog 45 [pv, .int .i64 (k : Int), .int .i64 (j : Int)] w (Ret w (.bool x)) := fun w pv k j x hk hj e h => by
        subst e
        have := impl_SameAt_ok w pv x1 h k j
        rw [show smV x1 k j = bsm x1 x1.length k j by unfold smV; rw [decide_eq_true (show Nod x1 (k : Int) from ⟨hp, by omega, by omega⟩), decide_eq_true (show Nod x1 (j : Int) from ⟨hp, by omega, by omega⟩)]; rfl] at this
        exact this
      have k9 : ∀ (w : World) (u : Value) (k : Nat) (x : Bool), k < x1.length → f.holds x1 k = x → Ints w u (ints (placesV s1 x1)) → Does Try.prog 44 [u, .int .i64 (k : Int)] w (Ret w (.bool x)) := fun w u k x hk e h => by
        subst e
        have := hasInt_ok w u _ h (k : Int)
        rw [placesV_mem hf hp hk] at this; exact this
      have hasc := ints_asc (placesV_sorted s1 x1)
      obtain ⟨L, hL⟩ : ∃ L, L = ints (placesV s1 x1) := ⟨_, rfl⟩
      have hLl := placesV_len s1 x1
      have hasc' : ∀ i (h : i + 1 < L.length), L[i] < L[i + 1] := by subst hL; exact hasc
      clear hasc
      rw [← hL] at k1 k2 k5 k9 hLl
      obtain ⟨M, hM⟩ : ∃ M, M = matV x1 (bsm x1 (min f.deep 30)) := ⟨_, rfl⟩
      have hML := matV_len (p := x1) (bsm x1 (min f.deep 30))
      rw [← hM] at k7 hML
      clear hI ho hd hsame hL
      focus
        have szE1 := E1.size; refine Wo_call rfl (opc2 (a := .string _) (b := u1) Try.call32 rfl rfl) (k1 _ _ ((Owned.read hO1))) ?_; rintro u2 w2 ⟨E2, hO2⟩; have hs2 := E2.size; refine Wo rfl (opv_assign (v := u2) rfl) ?_; refine Wo_nil ?_
        refine W_seq ?_; refine W_seq ?_; refine W_region rfl ?_; refine Wo rfl (opv_move (v := u2) rfl) ?_; refine Wo rfl (opv_move (v := .string _) rfl) ?_; refine Wo rfl (opv_move (v := u1) rfl) ?_
        refine Wo_call rfl (opc2 (a := .string _) (b := u1) Try.call31 rfl rfl) (k2 _ _ ((Mono.mono E2 (Owned.read hO1)))) ?_; rintro u3 w3 ⟨E3, hO3⟩; have hs3 := E3.size
        refine Wo_call rfl (opc2 (a := u2) (b := u3) Try.call42 rfl rfl) (k5 _ _ _ ((Mono.mono E3 (Owned.read hO2))) ((Owned.read hO3))) ?_; rintro _ w4 ⟨rfl, E4⟩; have hs4 := E4.size; refine Wo rfl (opv_not rfl) ?_; refine Wo_nil ?_
        refine W_cond rfl (fun h2 => ?_) (fun h2 => ?_); contradiction; refine W_skip ?_; refine W_seq ?_; refine W_seq ?_; refine W_region rfl ?_; refine Wo rfl (opv_move (v := .string _) rfl) ?_
        refine Wo_call rfl (opc1 (a := .string _) Try.call15 rfl) (k3 _) ?_; rintro _ w5 ⟨rfl, E5⟩; have hs5 := E5.size; refine Wo rfl (opv_not rfl) ?_; refine Wo_split rfl (opv_move (v := .bool _) rfl) (fun h3 => ?_) (fun h3 => ?_)
        contradiction; refine Wo rfl (opv_move (v := u1) rfl) ?_; refine Wo_call rfl (opc1 (a := u1) Try.call39 rfl) (k4 _ _ ((Mono.mono (((E2.trans E3).trans E4).trans E5) (Owned.read hO1)))) ?_; rintro _ w6 ⟨rfl, E6⟩; have hs6 := E6.size
        refine Wo rfl (opv_not rfl) ?_; refine Wo rfl (opv_pick_f (v := .bool _) rfl rfl) ?_; refine Wo_nil ?_; refine W_cond rfl (fun h4 => ?_) (fun h4 => ?_); contradiction; refine W_skip ?_; refine W_seq ?_; refine W_region rfl ?_
        refine Wo rfl (opv_move (v := u1) rfl) ?_; refine Wo rfl (opv_move (v := .string _) rfl) ?_; refine Wo_call rfl (opc1 (a := .string _) Try.call17 rfl) (k6 _) ?_; rintro _ w7 ⟨rfl, E7⟩; have hs7 := E7.size
        refine Wo rfl (opv_min rfl rfl) ?_; refine Wo_call rfl (opc2 (a := u1) (b := .int _ _) Try.call43 rfl rfl) (k7 _ _ _ (by omega) ((Mono.mono (((((E2.trans E3).trans E4).trans E5).trans E6).trans E7) (Owned.read hO1)))) ?_
        rintro u4 w8 ⟨E8, hO4⟩; have hs8 := E8.size; refine Wo rfl (opv_assign (v := u4) rfl) ?_; refine Wo_nil ?_; refine W_seq ?_; refine W_seq ?_; refine W_region rfl ?_; refine Wo rfl (opv_assign (v := .int _ _) rfl) ?_
        refine Wo_nil ?_; refine W_block ?_
      clear k1 k2 k3 k4 k5 k6 k7
      refine W_loop [2, 7, 8, 45, 46, 47, 48, 49, 50, 51, 52, 53, 54, 55, 56, 57, 58, 59, 60, 61, 62, 63, 64, 65, 66, 67, 68, 69, 70, 71, 72, 73, 74, 75, 76, 77, 78, 79, 80, 81, 82, 83, 84, 85, 86, 87, 88, 89, 90, 91, 92, 93] (fun (k : Nat) => [(7, .int .i64 (k : Nat))]) (fun k w' => Ext w8 w' ∧ k ≤ x1.length) (fun x => x1.length - x) 0 (by repeat (first | exact trivial | refine And.intro rfl ?_)) ?_ ?_
      · exact ⟨Ext.refl _, Nat.zero_le _⟩
      rintro k ρj w20 ⟨E20, hk⟩
      by_cases hkl : k < x1.length
      · focus
          have szE20 := E20.size; have szE8 := E8.size; have szE7 := E7.size; have szE6 := E6.size; have szE5 := E5.size; have szE4 := E4.size; have szE3 := E3.size; have szE2 := E2.size; have szE1 := E1.size; refine W_seq ?_; refine W_seq ?_
          refine W_region rfl ?_; refine Wo rfl (opv_move (v := .int _ _) rfl) ?_; refine Wo rfl (opv_move (v := u1) rfl) ?_; refine Wo rfl (opv_len Try.underlying30 rfl (Owned.read hO1)) ?_; refine Wo rfl (opv_lss rfl rfl) ?_
          refine Wo_nil ?_; refine W_cond_dec rfl (fun h5 => ?_) (fun h5 => ?_); refine W_skip ?_; refine W_seq ?_; refine W_block ?_; refine W_seq ?_; refine W_region rfl ?_; refine Wo rfl (opv_assign (v := .int _ _) rfl) ?_
          refine Wo_nil ?_; refine W_block ?_; rotate_left; (exfalso; omega)
        refine W_loop [2, 8, 51, 52, 53, 54, 55, 56, 57, 58, 59, 60, 61, 62, 63, 64, 65, 66, 67, 68, 69, 70, 71, 72, 73, 74, 75, 76, 77, 78, 79, 80, 81, 82, 83, 84, 85, 86, 87, 88, 89, 90, 91, 92, 93] (fun (j : Nat) => [(8, .int .i64 (j : Nat))]) (fun j w' => Ext w8 w' ∧ j ≤ x1.length) (fun x => x1.length - x) 0 (by repeat (first | exact trivial | refine And.intro rfl ?_)) ?_ ?_
        · exact ⟨E20, Nat.zero_le _⟩
        rintro j ρk w21 ⟨E21, hj⟩
        by_cases hjl : j < x1.length
        · have hMr : (M[k]'(by omega)).length = x1.length := by simp only [hM]; exact matV_rlen hkl
          have hMe : ∀ x, bsm x1 (min f.deep 30) k j = x → (M[k]'(by omega))[j]'(by omega) = b01 x := fun x e => by simp only [hM]; exact matV_one hkl hjl e
          have hS := fun w pv x e h => k8 w pv k j x hkl hjl e h
          have hK := fun w u x e h => k9 w u k x hkl e h
          have hJ := fun w u x e h => k9 w u j x hjl e h
          cases h1 : bsm x1 (min f.deep 30) k j with
          | true =>
            cases h2 : bsm x1 x1.length k j with
            | true =>
              cases h3 : f.holds x1 j with
              | true =>
                have kM : (M[k]'(by omega))[j]'(by omega) = 1 := hMe _ h1
                have kS : ∀ (w : World) (pv : Value), ESl Ints w pv x1 → Does Try.prog 45 [pv, .int .i64 (k : Int), .int .i64 (j : Int)] w (Ret w (.bool true)) := fun w pv h => hS w pv _ h2 h
                have kK : ∀ (w : World) (u : Value), Ints w u L → Does Try.prog 44 [u, .int .i64 (k : Int)] w (Ret w (.bool true)) := fun w u h => hK w u _ ((holds_left hp f hkl hjl h1).trans h3) h
                have kJ : ∀ (w : World) (u : Value), Ints w u L → Does Try.prog 44 [u, .int .i64 (j : Int)] w (Ret w (.bool true)) := fun w u h => hJ w u _ h3 h
                clear hS hK hJ hMe k8 k9
                focus
                  have szE21 := E21.size; have szE20 := E20.size; have szE8 := E8.size; have szE7 := E7.size; have szE6 := E6.size; have szE5 := E5.size; have szE4 := E4.size; have szE3 := E3.size; have szE2 := E2.size; have szE1 := E1.size
                  refine W_seq ?_; refine W_seq ?_; refine W_region rfl ?_; refine Wo rfl (opv_move (v := .int _ _) rfl) ?_; refine Wo rfl (opv_move (v := u1) rfl) ?_; refine Wo rfl (opv_len Try.underlying30 rfl (Owned.read hO1)) ?_
                  refine Wo rfl (opv_lss rfl rfl) ?_; refine Wo_nil ?_; refine W_cond_dec rfl (fun h6 => ?_) (fun h6 => ?_); refine W_skip ?_; refine W_seq ?_; refine W_block ?_; refine W_seq ?_; refine W_seq ?_; refine W_region rfl ?_
                  refine Wo rfl (opv_move (v := u4) rfl) ?_; refine Wo rfl (opv_len Try.underlying30 rfl (Owned.read hO4)) ?_; refine Wo rfl (opv_move (v := u1) rfl) ?_; refine Wo rfl (opv_len Try.underlying30 rfl (Owned.read hO1)) ?_
                  refine Wo rfl (opv_neq rfl rfl) ?_; refine Wo_split_ndec rfl (opv_move (v := .bool _) rfl) (fun h7 => ?_) (fun h7 => ?_); (exfalso; omega); refine Wo rfl (opv_move (v := u4) rfl) ?_; refine Wo rfl (opv_move (v := .int _ _) rfl) ?_
                  refine Wo_get Try.underlying30 Try.sizeOf38 Try.isAgg38 rfl (fun _ => rfl) rfl (Owned.read hO4) E21 rfl (by first | omega | (simp <;> omega)) ?_; rintro _ u5 hu1; refine Wo rfl (opv_move (v := .int _ _) rfl) ?_
                  refine Wo_get Try.underlying38 Try.sizeOf3 Try.isAgg3 rfl (fun _ => rfl) rfl hu1 E21 rfl (by first | omega | (simp <;> omega)) ?_; rintro _ _ rfl; refine Wo rfl (opv_eql rfl rfl) ?_
                  refine Wo_split_dec rfl (opv_move (v := .bool _) rfl) (fun h8 => ?_) (fun h8 => ?_); refine Wo rfl (opv_move (v := u2) rfl) ?_; refine Wo rfl (opv_move (v := .int _ _) rfl) ?_
                  refine Wo_call rfl (opc2 (a := u2) (b := .int _ _) Try.call44 rfl rfl) (kK _ _ ((Mono.mono ((((((E3.trans E4).trans E5).trans E6).trans E7).trans E8).trans E21) (Owned.read hO2)))) ?_; rintro _ w9 ⟨rfl, E9⟩; have hs9 := E9.size
                  refine Wo rfl (opv_move (v := u2) rfl) ?_; refine Wo rfl (opv_move (v := .int _ _) rfl) ?_
                  refine Wo_call rfl (opc2 (a := u2) (b := .int _ _) Try.call44 rfl rfl) (kJ _ _ ((Mono.mono (((((((E3.trans E4).trans E5).trans E6).trans E7).trans E8).trans E21).trans E9) (Owned.read hO2)))) ?_; rintro _ w10 ⟨rfl, E10⟩
                  have hs10 := E10.size; refine Wo rfl (opv_neq_bool Try.underlying4 rfl rfl) ?_; refine Wo rfl (opv_pick_t (v := .bool _) rfl rfl) ?_; refine Wo rfl (opv_pick_f (v := .bool _) rfl rfl) ?_; refine Wo_nil ?_
                  refine W_cond_ndec rfl (fun h9 => ?_) (fun h9 => ?_); contradiction; refine W_skip ?_; refine W_seq ?_; refine W_region rfl ?_; refine Wo rfl (opv_move (v := u1) rfl) ?_; refine Wo rfl (opv_move (v := .int _ _) rfl) ?_
                  refine Wo rfl (opv_move (v := .int _ _) rfl) ?_
                  refine Wo_call rfl (opc3 (a := u1) (b := .int _ _) (c := .int _ _) Try.call45 rfl rfl rfl) (kS _ _ ((Mono.mono (((((((((E2.trans E3).trans E4).trans E5).trans E6).trans E7).trans E8).trans E21).trans E9).trans E10) (Owned.read hO1)))) ?_
                  rintro _ w11 ⟨rfl, E11⟩; have hs11 := E11.size; refine Wo rfl (opv_move (v := .bool _) rfl) ?_; refine Wo rfl (opv_move (v := u2) rfl) ?_; refine Wo rfl (opv_move (v := .int _ _) rfl) ?_
                  refine Wo_call rfl (opc2 (a := u2) (b := .int _ _) Try.call44 rfl rfl) (kK _ _ ((Mono.mono (((((((((E3.trans E4).trans E5).trans E6).trans E7).trans E8).trans E21).trans E9).trans E10).trans E11) (Owned.read hO2)))) ?_
                  rintro _ w12 ⟨rfl, E12⟩; have hs12 := E12.size; refine Wo rfl (opv_move (v := u2) rfl) ?_; refine Wo rfl (opv_move (v := .int _ _) rfl) ?_
                  refine Wo_call rfl (opc2 (a := u2) (b := .int _ _) Try.call44 rfl rfl) (kJ _ _ ((Mono.mono ((((((((((E3.trans E4).trans E5).trans E6).trans E7).trans E8).trans E21).trans E9).trans E10).trans E11).trans E12) (Owned.read hO2)))) ?_
                  rintro _ w13 ⟨rfl, E13⟩; have hs13 := E13.size; refine Wo rfl (opv_neq_bool Try.underlying4 rfl rfl) ?_; refine Wo rfl (opv_pick_t (v := .bool _) rfl rfl) ?_; refine Wo_nil ?_; refine W_cond_ndec rfl (fun h10 => ?_) (fun h10 => ?_)
                  contradiction; refine W_skip ?_; refine W_region rfl ?_; refine Wo rfl (opv_move (v := .int _ _) rfl) ?_; refine Wo rfl (opv_add rfl rfl (by omega)) ?_; refine Wo rfl (opv_assign (v := .int _ _) rfl) ?_; refine Wo_nil ?_
                  rotate_left; contradiction; (exfalso; omega)
                refine ⟨(j + 1), by repeat (first | exact trivial | refine And.intro rfl ?_), by repeat (first | with_reducible exact Same.refl | refine Same.upd rfl ?_ | refine Same.upds rfl ?_ | refine Same.mix rfl ?_), ?_, ?_⟩
                · exact ⟨E21.trans (E9.trans (E10.trans (E11.trans (E12.trans E13)))), by omega⟩
                · omega
              | false =>
                have kM : (M[k]'(by omega))[j]'(by omega) = 1 := hMe _ h1
                have kS : ∀ (w : World) (pv : Value), ESl Ints w pv x1 → Does Try.prog 45 [pv, .int .i64 (k : Int), .int .i64 (j : Int)] w (Ret w (.bool true)) := fun w pv h => hS w pv _ h2 h
                have kK : ∀ (w : World) (u : Value), Ints w u L → Does Try.prog 44 [u, .int .i64 (k : Int)] w (Ret w (.bool false)) := fun w u h => hK w u _ ((holds_left hp f hkl hjl h1).trans h3) h
                have kJ : ∀ (w : World) (u : Value), Ints w u L → Does Try.prog 44 [u, .int .i64 (j : Int)] w (Ret w (.bool false)) := fun w u h => hJ w u _ h3 h
                clear hS hK hJ hMe k8 k9
                focus
                  have szE21 := E21.size; have szE20 := E20.size; have szE8 := E8.size; have szE7 := E7.size; have szE6 := E6.size; have szE5 := E5.size; have szE4 := E4.size; have szE3 := E3.size; have szE2 := E2.size; have szE1 := E1.size
                  refine W_seq ?_; refine W_seq ?_; refine W_region rfl ?_; refine Wo rfl (opv_move (v := .int _ _) rfl) ?_; refine Wo rfl (opv_move (v := u1) rfl) ?_; refine Wo rfl (opv_len Try.underlying30 rfl (Owned.read hO1)) ?_
                  refine Wo rfl (opv_lss rfl rfl) ?_; refine Wo_nil ?_; refine W_cond_dec rfl (fun h6 => ?_) (fun h6 => ?_); refine W_skip ?_; refine W_seq ?_; refine W_block ?_; refine W_seq ?_; refine W_seq ?_; refine W_region rfl ?_
                  refine Wo rfl (opv_move (v := u4) rfl) ?_; refine Wo rfl (opv_len Try.underlying30 rfl (Owned.read hO4)) ?_; refine Wo rfl (opv_move (v := u1) rfl) ?_; refine Wo rfl (opv_len Try.underlying30 rfl (Owned.read hO1)) ?_
                  refine Wo rfl (opv_neq rfl rfl) ?_; refine Wo_split_ndec rfl (opv_move (v := .bool _) rfl) (fun h7 => ?_) (fun h7 => ?_); (exfalso; omega); refine Wo rfl (opv_move (v := u4) rfl) ?_; refine Wo rfl (opv_move (v := .int _ _) rfl) ?_
                  refine Wo_get Try.underlying30 Try.sizeOf38 Try.isAgg38 rfl (fun _ => rfl) rfl (Owned.read hO4) E21 rfl (by first | omega | (simp <;> omega)) ?_; rintro _ u5 hu1; refine Wo rfl (opv_move (v := .int _ _) rfl) ?_
                  refine Wo_get Try.underlying38 Try.sizeOf3 Try.isAgg3 rfl (fun _ => rfl) rfl hu1 E21 rfl (by first | omega | (simp <;> omega)) ?_; rintro _ _ rfl; refine Wo rfl (opv_eql rfl rfl) ?_
                  refine Wo_split_dec rfl (opv_move (v := .bool _) rfl) (fun h8 => ?_) (fun h8 => ?_); refine Wo rfl (opv_move (v := u2) rfl) ?_; refine Wo rfl (opv_move (v := .int _ _) rfl) ?_
                  refine Wo_call rfl (opc2 (a := u2) (b := .int _ _) Try.call44 rfl rfl) (kK _ _ ((Mono.mono ((((((E3.trans E4).trans E5).trans E6).trans E7).trans E8).trans E21) (Owned.read hO2)))) ?_; rintro _ w9 ⟨rfl, E9⟩; have hs9 := E9.size
                  refine Wo rfl (opv_move (v := u2) rfl) ?_; refine Wo rfl (opv_move (v := .int _ _) rfl) ?_
                  refine Wo_call rfl (opc2 (a := u2) (b := .int _ _) Try.call44 rfl rfl) (kJ _ _ ((Mono.mono (((((((E3.trans E4).trans E5).trans E6).trans E7).trans E8).trans E21).trans E9) (Owned.read hO2)))) ?_; rintro _ w10 ⟨rfl, E10⟩
                  have hs10 := E10.size; refine Wo rfl (opv_neq_bool Try.underlying4 rfl rfl) ?_; refine Wo rfl (opv_pick_t (v := .bool _) rfl rfl) ?_; refine Wo rfl (opv_pick_f (v := .bool _) rfl rfl) ?_; refine Wo_nil ?_
                  refine W_cond_ndec rfl (fun h9 => ?_) (fun h9 => ?_); contradiction; refine W_skip ?_; refine W_seq ?_; refine W_region rfl ?_; refine Wo rfl (opv_move (v := u1) rfl) ?_; refine Wo rfl (opv_move (v := .int _ _) rfl) ?_
                  refine Wo rfl (opv_move (v := .int _ _) rfl) ?_
                  refine Wo_call rfl (opc3 (a := u1) (b := .int _ _) (c := .int _ _) Try.call45 rfl rfl rfl) (kS _ _ ((Mono.mono (((((((((E2.trans E3).trans E4).trans E5).trans E6).trans E7).trans E8).trans E21).trans E9).trans E10) (Owned.read hO1)))) ?_
                  rintro _ w11 ⟨rfl, E11⟩; have hs11 := E11.size; refine Wo rfl (opv_move (v := .bool _) rfl) ?_; refine Wo rfl (opv_move (v := u2) rfl) ?_; refine Wo rfl (opv_move (v := .int _ _) rfl) ?_
                  refine Wo_call rfl (opc2 (a := u2) (b := .int _ _) Try.call44 rfl rfl) (kK _ _ ((Mono.mono (((((((((E3.trans E4).trans E5).trans E6).trans E7).trans E8).trans E21).trans E9).trans E10).trans E11) (Owned.read hO2)))) ?_
                  rintro _ w12 ⟨rfl, E12⟩; have hs12 := E12.size; refine Wo rfl (opv_move (v := u2) rfl) ?_; refine Wo rfl (opv_move (v := .int _ _) rfl) ?_
                  refine Wo_call rfl (opc2 (a := u2) (b := .int _ _) Try.call44 rfl rfl) (kJ _ _ ((Mono.mono ((((((((((E3.trans E4).trans E5).trans E6).trans E7).trans E8).trans E21).trans E9).trans E10).trans E11).trans E12) (Owned.read hO2)))) ?_
                  rintro _ w13 ⟨rfl, E13⟩; have hs13 := E13.size; refine Wo rfl (opv_neq_bool Try.underlying4 rfl rfl) ?_; refine Wo rfl (opv_pick_t (v := .bool _) rfl rfl) ?_; refine Wo_nil ?_; refine W_cond_ndec rfl (fun h10 => ?_) (fun h10 => ?_)
                  contradiction; refine W_skip ?_; refine W_region rfl ?_; refine Wo rfl (opv_move (v := .int _ _) rfl) ?_; refine Wo rfl (opv_add rfl rfl (by omega)) ?_; refine Wo rfl (opv_assign (v := .int _ _) rfl) ?_; refine Wo_nil ?_
                  rotate_left; contradiction; (exfalso; omega)
                refine ⟨(j + 1), by repeat (first | exact trivial | refine And.intro rfl ?_), by repeat (first | with_reducible exact Same.refl | refine Same.upd rfl ?_ | refine Same.upds rfl ?_ | refine Same.mix rfl ?_), ?_, ?_⟩
                · exact ⟨E21.trans (E9.trans (E10.trans (E11.trans (E12.trans E13)))), by omega⟩
                · omega
            | false =>
              cases h3 : f.holds x1 j with
              | true =>
                have kM : (M[k]'(by omega))[j]'(by omega) = 1 := hMe _ h1
                have kS : ∀ (w : World) (pv : Value), ESl Ints w pv x1 → Does Try.prog 45 [pv, .int .i64 (k : Int), .int .i64 (j : Int)] w (Ret w (.bool false)) := fun w pv h => hS w pv _ h2 h
                have kK : ∀ (w : World) (u : Value), Ints w u L → Does Try.prog 44 [u, .int .i64 (k : Int)] w (Ret w (.bool true)) := fun w u h => hK w u _ ((holds_left hp f hkl hjl h1).trans h3) h
                have kJ : ∀ (w : World) (u : Value), Ints w u L → Does Try.prog 44 [u, .int .i64 (j : Int)] w (Ret w (.bool true)) := fun w u h => hJ w u _ h3 h
                clear hS hK hJ hMe k8 k9
                focus
                  have szE21 := E21.size; have szE20 := E20.size; have szE8 := E8.size; have szE7 := E7.size; have szE6 := E6.size; have szE5 := E5.size; have szE4 := E4.size; have szE3 := E3.size; have szE2 := E2.size; have szE1 := E1.size
                  refine W_seq ?_; refine W_seq ?_; refine W_region rfl ?_; refine Wo rfl (opv_move (v := .int _ _) rfl) ?_; refine Wo rfl (opv_move (v := u1) rfl) ?_; refine Wo rfl (opv_len Try.underlying30 rfl (Owned.read hO1)) ?_
                  refine Wo rfl (opv_lss rfl rfl) ?_; refine Wo_nil ?_; refine W_cond_dec rfl (fun h6 => ?_) (fun h6 => ?_); refine W_skip ?_; refine W_seq ?_; refine W_block ?_; refine W_seq ?_; refine W_seq ?_; refine W_region rfl ?_
                  refine Wo rfl (opv_move (v := u4) rfl) ?_; refine Wo rfl (opv_len Try.underlying30 rfl (Owned.read hO4)) ?_; refine Wo rfl (opv_move (v := u1) rfl) ?_; refine Wo rfl (opv_len Try.underlying30 rfl (Owned.read hO1)) ?_
                  refine Wo rfl (opv_neq rfl rfl) ?_; refine Wo_split_ndec rfl (opv_move (v := .bool _) rfl) (fun h7 => ?_) (fun h7 => ?_); (exfalso; omega); refine Wo rfl (opv_move (v := u4) rfl) ?_; refine Wo rfl (opv_move (v := .int _ _) rfl) ?_
                  refine Wo_get Try.underlying30 Try.sizeOf38 Try.isAgg38 rfl (fun _ => rfl) rfl (Owned.read hO4) E21 rfl (by first | omega | (simp <;> omega)) ?_; rintro _ u5 hu1; refine Wo rfl (opv_move (v := .int _ _) rfl) ?_
                  refine Wo_get Try.underlying38 Try.sizeOf3 Try.isAgg3 rfl (fun _ => rfl) rfl hu1 E21 rfl (by first | omega | (simp <;> omega)) ?_; rintro _ _ rfl; refine Wo rfl (opv_eql rfl rfl) ?_
                  refine Wo_split_dec rfl (opv_move (v := .bool _) rfl) (fun h8 => ?_) (fun h8 => ?_); refine Wo rfl (opv_move (v := u2) rfl) ?_; refine Wo rfl (opv_move (v := .int _ _) rfl) ?_
                  refine Wo_call rfl (opc2 (a := u2) (b := .int _ _) Try.call44 rfl rfl) (kK _ _ ((Mono.mono ((((((E3.trans E4).trans E5).trans E6).trans E7).trans E8).trans E21) (Owned.read hO2)))) ?_; rintro _ w9 ⟨rfl, E9⟩; have hs9 := E9.size
                  refine Wo rfl (opv_move (v := u2) rfl) ?_; refine Wo rfl (opv_move (v := .int _ _) rfl) ?_
                  refine Wo_call rfl (opc2 (a := u2) (b := .int _ _) Try.call44 rfl rfl) (kJ _ _ ((Mono.mono (((((((E3.trans E4).trans E5).trans E6).trans E7).trans E8).trans E21).trans E9) (Owned.read hO2)))) ?_; rintro _ w10 ⟨rfl, E10⟩
                  have hs10 := E10.size; refine Wo rfl (opv_neq_bool Try.underlying4 rfl rfl) ?_; refine Wo rfl (opv_pick_t (v := .bool _) rfl rfl) ?_; refine Wo rfl (opv_pick_f (v := .bool _) rfl rfl) ?_; refine Wo_nil ?_
                  refine W_cond_ndec rfl (fun h9 => ?_) (fun h9 => ?_); contradiction; refine W_skip ?_; refine W_seq ?_; refine W_region rfl ?_; refine Wo rfl (opv_move (v := u1) rfl) ?_; refine Wo rfl (opv_move (v := .int _ _) rfl) ?_
                  refine Wo rfl (opv_move (v := .int _ _) rfl) ?_
                  refine Wo_call rfl (opc3 (a := u1) (b := .int _ _) (c := .int _ _) Try.call45 rfl rfl rfl) (kS _ _ ((Mono.mono (((((((((E2.trans E3).trans E4).trans E5).trans E6).trans E7).trans E8).trans E21).trans E9).trans E10) (Owned.read hO1)))) ?_
                  rintro _ w11 ⟨rfl, E11⟩; have hs11 := E11.size; refine Wo rfl (opv_move (v := .bool _) rfl) ?_; refine Wo_skip rfl ?_; refine Wo_skip rfl ?_; refine Wo_skip rfl ?_; refine Wo_skip rfl ?_; refine Wo_skip rfl ?_; refine Wo_skip rfl ?_
                  refine Wo_skip rfl ?_; refine Wo rfl (opv_pick_f (v := .bool _) rfl rfl) ?_; refine Wo_nil ?_; refine W_cond_false rfl ?_; refine W_skip ?_; refine W_region rfl ?_; refine Wo rfl (opv_move (v := .int _ _) rfl) ?_
                  refine Wo rfl (opv_add rfl rfl (by omega)) ?_; refine Wo rfl (opv_assign (v := .int _ _) rfl) ?_; refine Wo_nil ?_; rotate_left; contradiction; (exfalso; omega)
                refine ⟨(j + 1), by repeat (first | exact trivial | refine And.intro rfl ?_), by repeat (first | with_reducible exact Same.refl | refine Same.upd rfl ?_ | refine Same.upds rfl ?_ | refine Same.mix rfl ?_), ?_, ?_⟩
                · exact ⟨E21.trans (E9.trans (E10.trans E11)), by omega⟩
                · omega
              | false =>
                have kM : (M[k]'(by omega))[j]'(by omega) = 1 := hMe _ h1
                have kS : ∀ (w : World) (pv : Value), ESl Ints w pv x1 → Does Try.prog 45 [pv, .int .i64 (k : Int), .int .i64 (j : Int)] w (Ret w (.bool false)) := fun w pv h => hS w pv _ h2 h
                have kK : ∀ (w : World) (u : Value), Ints w u L → Does Try.prog 44 [u, .int .i64 (k : Int)] w (Ret w (.bool false)) := fun w u h => hK w u _ ((holds_left hp f hkl hjl h1).trans h3) h
                have kJ : ∀ (w : World) (u : Value), Ints w u L → Does Try.prog 44 [u, .int .i64 (j : Int)] w (Ret w (.bool false)) := fun w u h => hJ w u _ h3 h
                clear hS hK hJ hMe k8 k9
                focus
                  have szE21 := E21.size; have szE20 := E20.size; have szE8 := E8.size; have szE7 := E7.size; have szE6 := E6.size; have szE5 := E5.size; have szE4 := E4.size; have szE3 := E3.size; have szE2 := E2.size; have szE1 := E1.size
                  refine W_seq ?_; refine W_seq ?_; refine W_region rfl ?_; refine Wo rfl (opv_move (v := .int _ _) rfl) ?_; refine Wo rfl (opv_move (v := u1) rfl) ?_; refine Wo rfl (opv_len Try.underlying30 rfl (Owned.read hO1)) ?_
                  refine Wo rfl (opv_lss rfl rfl) ?_; refine Wo_nil ?_; refine W_cond_dec rfl (fun h6 => ?_) (fun h6 => ?_); refine W_skip ?_; refine W_seq ?_; refine W_block ?_; refine W_seq ?_; refine W_seq ?_; refine W_region rfl ?_
                  refine Wo rfl (opv_move (v := u4) rfl) ?_; refine Wo rfl (opv_len Try.underlying30 rfl (Owned.read hO4)) ?_; refine Wo rfl (opv_move (v := u1) rfl) ?_; refine Wo rfl (opv_len Try.underlying30 rfl (Owned.read hO1)) ?_
                  refine Wo rfl (opv_neq rfl rfl) ?_; refine Wo_split_ndec rfl (opv_move (v := .bool _) rfl) (fun h7 => ?_) (fun h7 => ?_); (exfalso; omega); refine Wo rfl (opv_move (v := u4) rfl) ?_; refine Wo rfl (opv_move (v := .int _ _) rfl) ?_
                  refine Wo_get Try.underlying30 Try.sizeOf38 Try.isAgg38 rfl (fun _ => rfl) rfl (Owned.read hO4) E21 rfl (by first | omega | (simp <;> omega)) ?_; rintro _ u5 hu1; refine Wo rfl (opv_move (v := .int _ _) rfl) ?_
                  refine Wo_get Try.underlying38 Try.sizeOf3 Try.isAgg3 rfl (fun _ => rfl) rfl hu1 E21 rfl (by first | omega | (simp <;> omega)) ?_; rintro _ _ rfl; refine Wo rfl (opv_eql rfl rfl) ?_
                  refine Wo_split_dec rfl (opv_move (v := .bool _) rfl) (fun h8 => ?_) (fun h8 => ?_); refine Wo rfl (opv_move (v := u2) rfl) ?_; refine Wo rfl (opv_move (v := .int _ _) rfl) ?_
                  refine Wo_call rfl (opc2 (a := u2) (b := .int _ _) Try.call44 rfl rfl) (kK _ _ ((Mono.mono ((((((E3.trans E4).trans E5).trans E6).trans E7).trans E8).trans E21) (Owned.read hO2)))) ?_; rintro _ w9 ⟨rfl, E9⟩; have hs9 := E9.size
                  refine Wo rfl (opv_move (v := u2) rfl) ?_; refine Wo rfl (opv_move (v := .int _ _) rfl) ?_
                  refine Wo_call rfl (opc2 (a := u2) (b := .int _ _) Try.call44 rfl rfl) (kJ _ _ ((Mono.mono (((((((E3.trans E4).trans E5).trans E6).trans E7).trans E8).trans E21).trans E9) (Owned.read hO2)))) ?_; rintro _ w10 ⟨rfl, E10⟩
                  have hs10 := E10.size; refine Wo rfl (opv_neq_bool Try.underlying4 rfl rfl) ?_; refine Wo rfl (opv_pick_t (v := .bool _) rfl rfl) ?_; refine Wo rfl (opv_pick_f (v := .bool _) rfl rfl) ?_; refine Wo_nil ?_
                  refine W_cond_ndec rfl (fun h9 => ?_) (fun h9 => ?_); contradiction; refine W_skip ?_; refine W_seq ?_; refine W_region rfl ?_; refine Wo rfl (opv_move (v := u1) rfl) ?_; refine Wo rfl (opv_move (v := .int _ _) rfl) ?_
                  refine Wo rfl (opv_move (v := .int _ _) rfl) ?_
                  refine Wo_call rfl (opc3 (a := u1) (b := .int _ _) (c := .int _ _) Try.call45 rfl rfl rfl) (kS _ _ ((Mono.mono (((((((((E2.trans E3).trans E4).trans E5).trans E6).trans E7).trans E8).trans E21).trans E9).trans E10) (Owned.read hO1)))) ?_
                  rintro _ w11 ⟨rfl, E11⟩; have hs11 := E11.size; refine Wo rfl (opv_move (v := .bool _) rfl) ?_; refine Wo_skip rfl ?_; refine Wo_skip rfl ?_; refine Wo_skip rfl ?_; refine Wo_skip rfl ?_; refine Wo_skip rfl ?_; refine Wo_skip rfl ?_
                  refine Wo_skip rfl ?_; refine Wo rfl (opv_pick_f (v := .bool _) rfl rfl) ?_; refine Wo_nil ?_; refine W_cond_false rfl ?_; refine W_skip ?_; refine W_region rfl ?_; refine Wo rfl (opv_move (v := .int _ _) rfl) ?_
                  refine Wo rfl (opv_add rfl rfl (by omega)) ?_; refine Wo rfl (opv_assign (v := .int _ _) rfl) ?_; refine Wo_nil ?_; rotate_left; contradiction; (exfalso; omega)
                refine ⟨(j + 1), by repeat (first | exact trivial | refine And.intro rfl ?_), by repeat (first | with_reducible exact Same.refl | refine Same.upd rfl ?_ | refine Same.upds rfl ?_ | refine Same.mix rfl ?_), ?_, ?_⟩
                · exact ⟨E21.trans (E9.trans (E10.trans E11)), by omega⟩
                · omega
          | false =>
            cases h2 : bsm x1 x1.length k j with
            | true =>
              cases h3 : f.holds x1 j with
              | true =>
                have kM : (M[k]'(by omega))[j]'(by omega) = 0 := hMe _ h1
                have kS : ∀ (w : World) (pv : Value), ESl Ints w pv x1 → Does Try.prog 45 [pv, .int .i64 (k : Int), .int .i64 (j : Int)] w (Ret w (.bool true)) := fun w pv h => hS w pv _ h2 h
                have kK : ∀ (w : World) (u : Value), Ints w u L → Does Try.prog 44 [u, .int .i64 (k : Int)] w (Ret w (.bool true)) := fun w u h => hK w u _ ((holds_same hp f hkl hjl h2).trans h3) h
                have kJ : ∀ (w : World) (u : Value), Ints w u L → Does Try.prog 44 [u, .int .i64 (j : Int)] w (Ret w (.bool true)) := fun w u h => hJ w u _ h3 h
                clear hS hK hJ hMe k8 k9
                focus
                  have szE21 := E21.size; have szE20 := E20.size; have szE8 := E8.size; have szE7 := E7.size; have szE6 := E6.size; have szE5 := E5.size; have szE4 := E4.size; have szE3 := E3.size; have szE2 := E2.size; have szE1 := E1.size
                  refine W_seq ?_; refine W_seq ?_; refine W_region rfl ?_; refine Wo rfl (opv_move (v := .int _ _) rfl) ?_; refine Wo rfl (opv_move (v := u1) rfl) ?_; refine Wo rfl (opv_len Try.underlying30 rfl (Owned.read hO1)) ?_
                  refine Wo rfl (opv_lss rfl rfl) ?_; refine Wo_nil ?_; refine W_cond_dec rfl (fun h6 => ?_) (fun h6 => ?_); refine W_skip ?_; refine W_seq ?_; refine W_block ?_; refine W_seq ?_; refine W_seq ?_; refine W_region rfl ?_
                  refine Wo rfl (opv_move (v := u4) rfl) ?_; refine Wo rfl (opv_len Try.underlying30 rfl (Owned.read hO4)) ?_; refine Wo rfl (opv_move (v := u1) rfl) ?_; refine Wo rfl (opv_len Try.underlying30 rfl (Owned.read hO1)) ?_
                  refine Wo rfl (opv_neq rfl rfl) ?_; refine Wo_split_ndec rfl (opv_move (v := .bool _) rfl) (fun h7 => ?_) (fun h7 => ?_); (exfalso; omega); refine Wo rfl (opv_move (v := u4) rfl) ?_; refine Wo rfl (opv_move (v := .int _ _) rfl) ?_
                  refine Wo_get Try.underlying30 Try.sizeOf38 Try.isAgg38 rfl (fun _ => rfl) rfl (Owned.read hO4) E21 rfl (by first | omega | (simp <;> omega)) ?_; rintro _ u5 hu1; refine Wo rfl (opv_move (v := .int _ _) rfl) ?_
                  refine Wo_get Try.underlying38 Try.sizeOf3 Try.isAgg3 rfl (fun _ => rfl) rfl hu1 E21 rfl (by first | omega | (simp <;> omega)) ?_; rintro _ _ rfl; refine Wo rfl (opv_eql rfl rfl) ?_
                  refine Wo_split_dec rfl (opv_move (v := .bool _) rfl) (fun h8 => ?_) (fun h8 => ?_); (exfalso; omega); refine Wo_skip rfl ?_; refine Wo_skip rfl ?_; refine Wo_skip rfl ?_; refine Wo_skip rfl ?_; refine Wo_skip rfl ?_
                  refine Wo_skip rfl ?_; refine Wo_skip rfl ?_; refine Wo rfl (opv_pick_f (v := .bool _) rfl rfl) ?_; refine Wo rfl (opv_pick_f (v := .bool _) rfl rfl) ?_; refine Wo_nil ?_; refine W_cond_false rfl ?_; refine W_skip ?_
                  refine W_seq ?_; refine W_region rfl ?_; refine Wo rfl (opv_move (v := u1) rfl) ?_; refine Wo rfl (opv_move (v := .int _ _) rfl) ?_; refine Wo rfl (opv_move (v := .int _ _) rfl) ?_
                  refine Wo_call rfl (opc3 (a := u1) (b := .int _ _) (c := .int _ _) Try.call45 rfl rfl rfl) (kS _ _ ((Mono.mono (((((((E2.trans E3).trans E4).trans E5).trans E6).trans E7).trans E8).trans E21) (Owned.read hO1)))) ?_
                  rintro _ w9 ⟨rfl, E9⟩; have hs9 := E9.size; refine Wo rfl (opv_move (v := .bool _) rfl) ?_; refine Wo rfl (opv_move (v := u2) rfl) ?_; refine Wo rfl (opv_move (v := .int _ _) rfl) ?_
                  refine Wo_call rfl (opc2 (a := u2) (b := .int _ _) Try.call44 rfl rfl) (kK _ _ ((Mono.mono (((((((E3.trans E4).trans E5).trans E6).trans E7).trans E8).trans E21).trans E9) (Owned.read hO2)))) ?_; rintro _ w10 ⟨rfl, E10⟩
                  have hs10 := E10.size; refine Wo rfl (opv_move (v := u2) rfl) ?_; refine Wo rfl (opv_move (v := .int _ _) rfl) ?_
                  refine Wo_call rfl (opc2 (a := u2) (b := .int _ _) Try.call44 rfl rfl) (kJ _ _ ((Mono.mono ((((((((E3.trans E4).trans E5).trans E6).trans E7).trans E8).trans E21).trans E9).trans E10) (Owned.read hO2)))) ?_; rintro _ w11 ⟨rfl, E11⟩
                  have hs11 := E11.size; refine Wo rfl (opv_neq_bool Try.underlying4 rfl rfl) ?_; refine Wo rfl (opv_pick_t (v := .bool _) rfl rfl) ?_; refine Wo_nil ?_; refine W_cond_ndec rfl (fun h9 => ?_) (fun h9 => ?_); contradiction
                  refine W_skip ?_; refine W_region rfl ?_; refine Wo rfl (opv_move (v := .int _ _) rfl) ?_; refine Wo rfl (opv_add rfl rfl (by omega)) ?_; refine Wo rfl (opv_assign (v := .int _ _) rfl) ?_; refine Wo_nil ?_; rotate_left
                  (exfalso; omega)
                refine ⟨(j + 1), by repeat (first | exact trivial | refine And.intro rfl ?_), by repeat (first | with_reducible exact Same.refl | refine Same.upd rfl ?_ | refine Same.upds rfl ?_ | refine Same.mix rfl ?_), ?_, ?_⟩
                · exact ⟨E21.trans (E9.trans (E10.trans E11)), by omega⟩
                · omega
              | false =>
                have kM : (M[k]'(by omega))[j]'(by omega) = 0 := hMe _ h1
                have kS : ∀ (w : World) (pv : Value), ESl Ints w pv x1 → Does Try.prog 45 [pv, .int .i64 (k : Int), .int .i64 (j : Int)] w (Ret w (.bool true)) := fun w pv h => hS w pv _ h2 h
                have kK : ∀ (w : World) (u : Value), Ints w u L → Does Try.prog 44 [u, .int .i64 (k : Int)] w (Ret w (.bool false)) := fun w u h => hK w u _ ((holds_same hp f hkl hjl h2).trans h3) h
                have kJ : ∀ (w : World) (u : Value), Ints w u L → Does Try.prog 44 [u, .int .i64 (j : Int)] w (Ret w (.bool false)) := fun w u h => hJ w u _ h3 h
                clear hS hK hJ hMe k8 k9
                focus
                  have szE21 := E21.size; have szE20 := E20.size; have szE8 := E8.size; have szE7 := E7.size; have szE6 := E6.size; have szE5 := E5.size; have szE4 := E4.size; have szE3 := E3.size; have szE2 := E2.size; have szE1 := E1.size
                  refine W_seq ?_; refine W_seq ?_; refine W_region rfl ?_; refine Wo rfl (opv_move (v := .int _ _) rfl) ?_; refine Wo rfl (opv_move (v := u1) rfl) ?_; refine Wo rfl (opv_len Try.underlying30 rfl (Owned.read hO1)) ?_
                  refine Wo rfl (opv_lss rfl rfl) ?_; refine Wo_nil ?_; refine W_cond_dec rfl (fun h6 => ?_) (fun h6 => ?_); refine W_skip ?_; refine W_seq ?_; refine W_block ?_; refine W_seq ?_; refine W_seq ?_; refine W_region rfl ?_
                  refine Wo rfl (opv_move (v := u4) rfl) ?_; refine Wo rfl (opv_len Try.underlying30 rfl (Owned.read hO4)) ?_; refine Wo rfl (opv_move (v := u1) rfl) ?_; refine Wo rfl (opv_len Try.underlying30 rfl (Owned.read hO1)) ?_
                  refine Wo rfl (opv_neq rfl rfl) ?_; refine Wo_split_ndec rfl (opv_move (v := .bool _) rfl) (fun h7 => ?_) (fun h7 => ?_); (exfalso; omega); refine Wo rfl (opv_move (v := u4) rfl) ?_; refine Wo rfl (opv_move (v := .int _ _) rfl) ?_
                  refine Wo_get Try.underlying30 Try.sizeOf38 Try.isAgg38 rfl (fun _ => rfl) rfl (Owned.read hO4) E21 rfl (by first | omega | (simp <;> omega)) ?_; rintro _ u5 hu1; refine Wo rfl (opv_move (v := .int _ _) rfl) ?_
                  refine Wo_get Try.underlying38 Try.sizeOf3 Try.isAgg3 rfl (fun _ => rfl) rfl hu1 E21 rfl (by first | omega | (simp <;> omega)) ?_; rintro _ _ rfl; refine Wo rfl (opv_eql rfl rfl) ?_
                  refine Wo_split_dec rfl (opv_move (v := .bool _) rfl) (fun h8 => ?_) (fun h8 => ?_); (exfalso; omega); refine Wo_skip rfl ?_; refine Wo_skip rfl ?_; refine Wo_skip rfl ?_; refine Wo_skip rfl ?_; refine Wo_skip rfl ?_
                  refine Wo_skip rfl ?_; refine Wo_skip rfl ?_; refine Wo rfl (opv_pick_f (v := .bool _) rfl rfl) ?_; refine Wo rfl (opv_pick_f (v := .bool _) rfl rfl) ?_; refine Wo_nil ?_; refine W_cond_false rfl ?_; refine W_skip ?_
                  refine W_seq ?_; refine W_region rfl ?_; refine Wo rfl (opv_move (v := u1) rfl) ?_; refine Wo rfl (opv_move (v := .int _ _) rfl) ?_; refine Wo rfl (opv_move (v := .int _ _) rfl) ?_
                  refine Wo_call rfl (opc3 (a := u1) (b := .int _ _) (c := .int _ _) Try.call45 rfl rfl rfl) (kS _ _ ((Mono.mono (((((((E2.trans E3).trans E4).trans E5).trans E6).trans E7).trans E8).trans E21) (Owned.read hO1)))) ?_
                  rintro _ w9 ⟨rfl, E9⟩; have hs9 := E9.size; refine Wo rfl (opv_move (v := .bool _) rfl) ?_; refine Wo rfl (opv_move (v := u2) rfl) ?_; refine Wo rfl (opv_move (v := .int _ _) rfl) ?_
                  refine Wo_call rfl (opc2 (a := u2) (b := .int _ _) Try.call44 rfl rfl) (kK _ _ ((Mono.mono (((((((E3.trans E4).trans E5).trans E6).trans E7).trans E8).trans E21).trans E9) (Owned.read hO2)))) ?_; rintro _ w10 ⟨rfl, E10⟩
                  have hs10 := E10.size; refine Wo rfl (opv_move (v := u2) rfl) ?_; refine Wo rfl (opv_move (v := .int _ _) rfl) ?_
                  refine Wo_call rfl (opc2 (a := u2) (b := .int _ _) Try.call44 rfl rfl) (kJ _ _ ((Mono.mono ((((((((E3.trans E4).trans E5).trans E6).trans E7).trans E8).trans E21).trans E9).trans E10) (Owned.read hO2)))) ?_; rintro _ w11 ⟨rfl, E11⟩
                  have hs11 := E11.size; refine Wo rfl (opv_neq_bool Try.underlying4 rfl rfl) ?_; refine Wo rfl (opv_pick_t (v := .bool _) rfl rfl) ?_; refine Wo_nil ?_; refine W_cond_ndec rfl (fun h9 => ?_) (fun h9 => ?_); contradiction
                  refine W_skip ?_; refine W_region rfl ?_; refine Wo rfl (opv_move (v := .int _ _) rfl) ?_; refine Wo rfl (opv_add rfl rfl (by omega)) ?_; refine Wo rfl (opv_assign (v := .int _ _) rfl) ?_; refine Wo_nil ?_; rotate_left
                  (exfalso; omega)
                refine ⟨(j + 1), by repeat (first | exact trivial | refine And.intro rfl ?_), by repeat (first | with_reducible exact Same.refl | refine Same.upd rfl ?_ | refine Same.upds rfl ?_ | refine Same.mix rfl ?_), ?_, ?_⟩
                · exact ⟨E21.trans (E9.trans (E10.trans E11)), by omega⟩
                · omega
            | false =>
              have kM : (M[k]'(by omega))[j]'(by omega) = 0 := hMe _ h1
              have kS : ∀ (w : World) (pv : Value), ESl Ints w pv x1 → Does Try.prog 45 [pv, .int .i64 (k : Int), .int .i64 (j : Int)] w (Ret w (.bool false)) := fun w pv h => hS w pv _ h2 h
              clear hS hK hJ hMe k8 k9
              focus
                have szE21 := E21.size; have szE20 := E20.size; have szE8 := E8.size; have szE7 := E7.size; have szE6 := E6.size; have szE5 := E5.size; have szE4 := E4.size; have szE3 := E3.size; have szE2 := E2.size; have szE1 := E1.size
                refine W_seq ?_; refine W_seq ?_; refine W_region rfl ?_; refine Wo rfl (opv_move (v := .int _ _) rfl) ?_; refine Wo rfl (opv_move (v := u1) rfl) ?_; refine Wo rfl (opv_len Try.underlying30 rfl (Owned.read hO1)) ?_
                refine Wo rfl (opv_lss rfl rfl) ?_; refine Wo_nil ?_; refine W_cond_dec rfl (fun h6 => ?_) (fun h6 => ?_); refine W_skip ?_; refine W_seq ?_; refine W_block ?_; refine W_seq ?_; refine W_seq ?_; refine W_region rfl ?_
                refine Wo rfl (opv_move (v := u4) rfl) ?_; refine Wo rfl (opv_len Try.underlying30 rfl (Owned.read hO4)) ?_; refine Wo rfl (opv_move (v := u1) rfl) ?_; refine Wo rfl (opv_len Try.underlying30 rfl (Owned.read hO1)) ?_
                refine Wo rfl (opv_neq rfl rfl) ?_; refine Wo_split_ndec rfl (opv_move (v := .bool _) rfl) (fun h7 => ?_) (fun h7 => ?_); (exfalso; omega); refine Wo rfl (opv_move (v := u4) rfl) ?_; refine Wo rfl (opv_move (v := .int _ _) rfl) ?_
                refine Wo_get Try.underlying30 Try.sizeOf38 Try.isAgg38 rfl (fun _ => rfl) rfl (Owned.read hO4) E21 rfl (by first | omega | (simp <;> omega)) ?_; rintro _ u5 hu1; refine Wo rfl (opv_move (v := .int _ _) rfl) ?_
                refine Wo_get Try.underlying38 Try.sizeOf3 Try.isAgg3 rfl (fun _ => rfl) rfl hu1 E21 rfl (by first | omega | (simp <;> omega)) ?_; rintro _ _ rfl; refine Wo rfl (opv_eql rfl rfl) ?_
                refine Wo_split_dec rfl (opv_move (v := .bool _) rfl) (fun h8 => ?_) (fun h8 => ?_); (exfalso; omega); refine Wo_skip rfl ?_; refine Wo_skip rfl ?_; refine Wo_skip rfl ?_; refine Wo_skip rfl ?_; refine Wo_skip rfl ?_
                refine Wo_skip rfl ?_; refine Wo_skip rfl ?_; refine Wo rfl (opv_pick_f (v := .bool _) rfl rfl) ?_; refine Wo rfl (opv_pick_f (v := .bool _) rfl rfl) ?_; refine Wo_nil ?_; refine W_cond_false rfl ?_; refine W_skip ?_
                refine W_seq ?_; refine W_region rfl ?_; refine Wo rfl (opv_move (v := u1) rfl) ?_; refine Wo rfl (opv_move (v := .int _ _) rfl) ?_; refine Wo rfl (opv_move (v := .int _ _) rfl) ?_
                refine Wo_call rfl (opc3 (a := u1) (b := .int _ _) (c := .int _ _) Try.call45 rfl rfl rfl) (kS _ _ ((Mono.mono (((((((E2.trans E3).trans E4).trans E5).trans E6).trans E7).trans E8).trans E21) (Owned.read hO1)))) ?_
                rintro _ w9 ⟨rfl, E9⟩; have hs9 := E9.size; refine Wo rfl (opv_move (v := .bool _) rfl) ?_; refine Wo_skip rfl ?_; refine Wo_skip rfl ?_; refine Wo_skip rfl ?_; refine Wo_skip rfl ?_; refine Wo_skip rfl ?_; refine Wo_skip rfl ?_
                refine Wo_skip rfl ?_; refine Wo rfl (opv_pick_f (v := .bool _) rfl rfl) ?_; refine Wo_nil ?_; refine W_cond_false rfl ?_; refine W_skip ?_; refine W_region rfl ?_; refine Wo rfl (opv_move (v := .int _ _) rfl) ?_
                refine Wo rfl (opv_add rfl rfl (by omega)) ?_; refine Wo rfl (opv_assign (v := .int _ _) rfl) ?_; refine Wo_nil ?_; rotate_left; (exfalso; omega)
              refine ⟨(j + 1), by repeat (first | exact trivial | refine And.intro rfl ?_), by repeat (first | with_reducible exact Same.refl | refine Same.upd rfl ?_ | refine Same.upds rfl ?_ | refine Same.mix rfl ?_), ?_, ?_⟩
              · exact ⟨E21.trans E9, by omega⟩
              · omega
        · focus
            have szE21 := E21.size; have szE20 := E20.size; have szE8 := E8.size; have szE7 := E7.size; have szE6 := E6.size; have szE5 := E5.size; have szE4 := E4.size; have szE3 := E3.size; have szE2 := E2.size; have szE1 := E1.size
            refine W_seq ?_; refine W_seq ?_; refine W_region rfl ?_; refine Wo rfl (opv_move (v := .int _ _) rfl) ?_; refine Wo rfl (opv_move (v := u1) rfl) ?_; refine Wo rfl (opv_len Try.underlying30 rfl (Owned.read hO1)) ?_
            refine Wo rfl (opv_lss rfl rfl) ?_; refine Wo_nil ?_; refine W_cond_dec rfl (fun h6 => ?_) (fun h6 => ?_); (exfalso; omega); refine W_exit ?_; refine exitX_same ?_; refine W_region rfl ?_
            refine Wo rfl (opv_move (v := .int _ _) rfl) ?_; refine Wo rfl (opv_add rfl rfl (by omega)) ?_; refine Wo rfl (opv_assign (v := .int _ _) rfl) ?_; refine Wo_nil ?_
          refine ⟨(k + 1), by repeat (first | exact trivial | refine And.intro rfl ?_), by repeat (first | with_reducible exact Same.refl | refine Same.upd rfl ?_ | refine Same.upds rfl ?_ | refine Same.mix rfl ?_), ?_, ?_⟩
          · exact ⟨E21, by omega⟩
          · omega
      · focus
          have szE20 := E20.size; have szE8 := E8.size; have szE7 := E7.size; have szE6 := E6.size; have szE5 := E5.size; have szE4 := E4.size; have szE3 := E3.size; have szE2 := E2.size; have szE1 := E1.size; refine W_seq ?_; refine W_seq ?_
          refine W_region rfl ?_; refine Wo rfl (opv_move (v := .int _ _) rfl) ?_; refine Wo rfl (opv_move (v := u1) rfl) ?_; refine Wo rfl (opv_len Try.underlying30 rfl (Owned.read hO1)) ?_; refine Wo rfl (opv_lss rfl rfl) ?_
          refine Wo_nil ?_; refine W_cond_dec rfl (fun h5 => ?_) (fun h5 => ?_); (exfalso; omega); refine W_exit ?_; refine exitX_same ?_; refine W_seq ?_; refine W_region rfl ?_; refine Wo rfl (opv_move (v := u2) rfl) ?_
          refine Wo_call rfl (opc1 (a := u2) Try.call46 rfl) (ascend_ok _ _ _ ((Mono.mono ((((((E3.trans E4).trans E5).trans E6).trans E7).trans E8).trans E20) (Owned.read hO2)))) ?_; rintro _ w9 ⟨E9, y1, rfl, hy2⟩; have hs9 := E9.size
          refine Wo_split rfl (opv_move (v := .bool _) rfl) (fun h6 => ?_) (fun h6 => ?_); refine Wo_call rfl (opc0 Try.call20) (alive_ok _) ?_; rintro _ w10 ⟨rfl, E10⟩; have hs10 := E10.size
          refine Wo rfl (opv_pick_t (v := .bool _) rfl rfl) ?_; refine Wo rfl (opv_assign (v := .bool _) rfl) ?_; refine Wo_nil ?_; refine W_ret ?_
          exact ⟨rfl, ((((((((((E1.trans E2).trans E3).trans E4).trans E5).trans E6).trans E7).trans E8).trans E20).trans E9).trans E10)⟩; refine Wo_skip rfl ?_; refine Wo rfl (opv_pick_f (v := .bool _) rfl rfl) ?_
          refine Wo rfl (opv_assign (v := .bool _) rfl) ?_; refine Wo_nil ?_; refine W_ret ?_; refine at_ret (v := .bool _) rfl ?_
          refine ⟨congrArg Value.bool ?_, (((((((((E1.trans E2).trans E3).trans E4).trans E5).trans E6).trans E7).trans E8).trans E20).trans E9)⟩
        have := hy2 hasc'
        simp_all
    · obtain ⟨k1, k2⟩ := hI [] (by rw [placesV_no (.inr hp)]; rfl)
      have k4 := hd false (decide_eq_false hp)
      have h00 : ([] : List Int).length = 0 := rfl
      have k5 := hsame []
      clear hI ho hd hsame
      focus
        have szE1 := E1.size; refine Wo_call rfl (opc2 (a := .string _) (b := u1) Try.call32 rfl rfl) (k1 _ _ ((Owned.read hO1))) ?_; rintro u2 w2 ⟨E2, hO2⟩; have hs2 := E2.size; refine Wo rfl (opv_assign (v := u2) rfl) ?_; refine Wo_nil ?_
        refine W_seq ?_; refine W_seq ?_; refine W_region rfl ?_; refine Wo rfl (opv_move (v := u2) rfl) ?_; refine Wo rfl (opv_move (v := .string _) rfl) ?_; refine Wo rfl (opv_move (v := u1) rfl) ?_
        refine Wo_call rfl (opc2 (a := .string _) (b := u1) Try.call31 rfl rfl) (k2 _ _ ((Mono.mono E2 (Owned.read hO1)))) ?_; rintro u3 w3 ⟨E3, hO3⟩; have hs3 := E3.size
        refine Wo_call rfl (opc2 (a := u2) (b := u3) Try.call42 rfl rfl) (k5 _ _ _ ((Mono.mono E3 (Owned.read hO2))) ((Owned.read hO3))) ?_; rintro _ w4 ⟨rfl, E4⟩; have hs4 := E4.size; refine Wo rfl (opv_not rfl) ?_; refine Wo_nil ?_
        refine W_cond rfl (fun h2 => ?_) (fun h2 => ?_); contradiction; refine W_skip ?_; refine W_seq ?_; refine W_seq ?_; refine W_region rfl ?_; refine Wo rfl (opv_move (v := .string _) rfl) ?_
        refine Wo_call rfl (opc1 (a := .string _) Try.call15 rfl) (k3 _) ?_; rintro _ w5 ⟨rfl, E5⟩; have hs5 := E5.size; refine Wo rfl (opv_not rfl) ?_; refine Wo_split rfl (opv_move (v := .bool _) rfl) (fun h3 => ?_) (fun h3 => ?_)
        contradiction; refine Wo rfl (opv_move (v := u1) rfl) ?_; refine Wo_call rfl (opc1 (a := u1) Try.call39 rfl) (k4 _ _ ((Mono.mono (((E2.trans E3).trans E4).trans E5) (Owned.read hO1)))) ?_; rintro _ w6 ⟨rfl, E6⟩; have hs6 := E6.size
        refine Wo rfl (opv_not rfl) ?_; refine Wo rfl (opv_pick_f (v := .bool _) rfl rfl) ?_; refine Wo_nil ?_; refine W_cond rfl (fun h4 => ?_) (fun h4 => ?_); refine W_seq ?_; refine W_region rfl ?_
        refine Wo rfl (opv_move (v := u2) rfl) ?_; refine Wo rfl (opv_len Try.underlying38 rfl (Owned.read hO2)) ?_; refine Wo rfl (opv_eql rfl rfl) ?_; refine Wo_split_dec rfl (opv_move (v := .bool _) rfl) (fun h5 => ?_) (fun h5 => ?_)
        refine Wo_call rfl (opc0 Try.call20) (alive_ok _) ?_; rintro _ w7 ⟨rfl, E7⟩; have hs7 := E7.size; refine Wo rfl (opv_pick_t (v := .bool _) rfl rfl) ?_; refine Wo rfl (opv_assign (v := .bool _) rfl) ?_; refine Wo_nil ?_
        refine W_ret ?_; exact ⟨rfl, ((((((E1.trans E2).trans E3).trans E4).trans E5).trans E6).trans E7)⟩; contradiction; contradiction

end Go.Proofs.Ytjdfnngmbaojjaa
