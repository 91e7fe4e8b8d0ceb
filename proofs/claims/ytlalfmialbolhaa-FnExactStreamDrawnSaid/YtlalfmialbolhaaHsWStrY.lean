/- Walks: streams drawn, by the reference. -/
import Derived.Test.YtlalfmialbolhaaHsWStrX
namespace Go.Proofs.Ytlalfmialbolhaa
open Go.Hs
set_option maxRecDepth 10000
set_option maxHeartbeats 4000000
set_option linter.unusedVariables false
set_option linter.unusedSimpArgs false
def someV (l : List Int) (k : Nat) : Int := if (1 : Int) ∈ l.take k then 1 else 0
theorem someV_succ {l : List Int} (hb : ∀ k, l.getD k 0 = 0 ∨ l.getD k 0 = 1) {k : Nat} (hk : k < l.length) : max (someV l k) (l.getD k 0) = someV l (k + 1) := by
  unfold someV
  rw [take_snoc _ _ hk, getD_lt hk]
  have := hb k
  rw [getD_lt hk] at this
  by_cases h1 : (1 : Int) ∈ l.take k
  · rw [if_pos h1, if_pos (List.mem_append_left _ h1)]
    omega
  · rw [if_neg h1]
    rcases this with h | h
    · rw [h, if_neg (by simp [h1])]; omega
    · rw [h, if_pos (by simp)]; omega
def rowsV (X Y : List Int) (k : Nat) : List (List Int) := (List.range k).map fun i => sdRow X Y i (sdM X Y)
theorem rowsV_len {X Y : List Int} {k : Nat} : (rowsV X Y k).length = k := by simp [rowsV]
theorem rowsV_succ {X Y : List Int} {k : Nat} : rowsV X Y (k + 1) = rowsV X Y k ++ [sdRow X Y k (sdM X Y)] := by unfold rowsV; rw [List.range_succ]; simp
theorem rowsV_end1 {X Y : List Int} (h : (1 : Int) ∈ X ++ Y) : rowsV X Y (X.length + Y.length) ++ [List.replicate (sdM X Y) 0] = sdP X Y := by
  have hM : sdM X Y = X.length + Y.length + 1 := by unfold sdM; rw [if_pos h]
  unfold sdP rowsV
  rw [hM, List.range_succ, List.map_append]
  congr 1
  · exact List.map_congr_left fun i hi => by rw [if_pos (List.mem_range.1 hi)]
  · simp
theorem rowsV_end0 {X Y : List Int} (h : ¬ (1 : Int) ∈ X ++ Y) : rowsV X Y (X.length + Y.length) = sdP X Y := by
  have hM : sdM X Y = X.length + Y.length := by unfold sdM; rw [if_neg h]; rfl
  unfold sdP rowsV
  rw [hM]
  exact List.map_congr_left fun i hi => by rw [if_pos (List.mem_range.1 hi)]
theorem rowsV_A {X Y : List Int} {k m nx : Nat} (hm : m = sdM X Y) (hn : nx = sdNext X Y k) (hb : (X ++ Y).getD k 0 ≠ 1) : rowsV X Y k ++ [(List.replicate m (0 : Int)).set nx 1] = rowsV X Y (k + 1) := by
  subst hm hn
  rw [row0 hb, rowsV_succ]
theorem rowsV_B {X Y : List Int} {k m nx n : Nat} (hm : m = sdM X Y) (hn : nx = sdNext X Y k) (hl : n = X.length + Y.length) (hb : (X ++ Y).getD k 0 = 1) : rowsV X Y k ++ [((List.replicate m (0 : Int)).set nx 1).set n 1] = rowsV X Y (k + 1) := by
  subst hm hn hl
  rw [row1 hb, rowsV_succ]
theorem noone {l : List Int} (h : ¬ (1 : Int) ∈ l) (k : Nat) : ¬ l.getD k 0 = 1 := by
  by_cases hk : k < l.length
  · rw [getD_lt hk]
    intro e; exact h (e ▸ List.getElem_mem hk)
  · rw [List.getD_eq_getElem?_getD, List.getElem?_eq_none (by omega)]; simp

theorem spec_StreamDrawn_ok (w : World) (u1 u2 : Value) (A B : List Int) (h1 : Ints w u1 A) (h2 : Ints w u2 B) (hA : A.length ≤ 4000000) (hB : B.length ≤ 4000000) : Does Try.prog 40 [.agg #[u1, u2]] w (RetOB w XR (sdV A B).1 (sdV A B).2) := by
  have hok : ∀ (x : Bool), decide (Stm A B) = x → ∀ (w : World) (u1 u2 : Value), Ints w u1 A → Ints w u2 B → Does Try.prog 16 [.agg #[u1, u2]] w (Ret w (.bool x)) := fun x e w u1 u2 h1 h2 => e ▸ StreamOk_ok w u1 u2 A B h1 h2 hA hB
  have k2 : ∀ (w : World) (u1 u2 : Value), Ints w u1 A → Ints w u2 B → Does Try.prog 53 [.agg #[u1, u2]] w (RetS2 w 3 (shV A B).1 (shV A B).2) := fun w u1 u2 h1 h2 => spec_ShortOf_ok w u1 u2 A B h1 h2 hA hB
  by_cases hs : Stm A B
  · have k1 := hok true (decide_eq_true hs)
    have hsl := hs.2.2
    rw [show shV A B = (shL (bat A B), shR (bat A B)) from if_pos hs] at k2
    have hst := hs.short_stm
    have hsb := hs.short_bat
    have eV : sdV A B = if (shL (bat A B)).length + (shR (bat A B)).length ≤ 4 then (sdP (shL (bat A B)) (shR (bat A B)), true) else ([], false) := by
      unfold sdV
      by_cases h4 : (shL (bat A B)).length + (shR (bat A B)).length ≤ 4
      · rw [if_pos ⟨hs, h4⟩, if_pos h4]
      · rw [if_neg (fun h => h4 h.2), if_neg h4]
    rw [eV]
    clear eV hok hs hsb
    simp only at k2
    generalize shL (bat A B) = X at *
    generalize shR (bat A B) = Y at *
    have hXY := hst.2.2
    have litown : True := trivial
    have hb : ∀ (k : Nat), k < X.length + Y.length → ∀ (w : World) (u1 u2 : Value), Ints w u1 X → Ints w u2 Y → Does Try.prog 57 [.agg #[u1, u2], .int .i64 (k : Int)] w (Ret w (.int .i64 ((X ++ Y).getD k 0))) := fun k hk w u1 u2 h1 h2 => by
      have := spec_BitAt_ok w u1 u2 _ _ h1 h2 (by omega) (by omega) (k : Int)
      rw [show batV X Y (k : Int) = (X ++ Y).getD k 0 by
        unfold batV
        rw [if_pos ⟨hst, by omega, by omega⟩, Int.toNat_natCast, ← sdN_bit (A := X) (B := Y) hst.2.2.1 k]
        congr 1
        unfold sdN
        split
        · rfl
        · rw [Nat.mod_eq_of_lt (by omega)]; omega] at this
      exact this
    have hbits : ∀ k, (X ++ Y).getD k 0 = 0 ∨ (X ++ Y).getD k 0 = 1 := fun k => by
      by_cases hk : k < (X ++ Y).length
      · rw [getD_lt hk]
        rcases List.mem_append.1 (List.getElem_mem hk) with h | h
        · exact hst.1 _ h
        · exact hst.2.1 _ h
      · left
        rw [List.getD_eq_getElem?_getD, List.getElem?_eq_none (by omega)]; rfl
    refine fn_of_W2 Try.func40 rfl Try.results40 Try.ntmps40 rfl ?_
    by_cases h4 : X.length + Y.length ≤ 4
    · rw [if_pos h4]
      focus
        refine W_seq ?_; refine W_region rfl ?_; refine Wo_box rfl rfl rfl ?_; rintro b1 w1 hb1 E1 hB1; have hlb1 := hB1.lt; have hs1 := E1.size; refine Wo rfl (opv_assign (v := .slice _ _ _) rfl) ?_
        refine Wo rfl (opv_assign (v := .bool _) rfl) ?_; refine Wo_nil ?_; refine W_seq ?_; refine W_region rfl ?_; refine Wo (v := .agg _) rfl (opv_load2 Try.isAgg25 Try.sizeOf25 rfl hB1) ?_
        refine Wo_call rfl (opc1 (a := .agg _) Try.call53 rfl) (k2 _ _ _ ((Mono.mono E1 h1)) ((Mono.mono E1 h2))) ?_; rintro _ w2 ⟨u3, q1, rfl, E2, hO1, hQ1, hd1⟩; have icu3 := OwnedB.isC (Owned.toB hO1)
        have cpu3 := OwnedB.capOk (Owned.toB hO1); have icq1 := OwnedB.isC (Owned.toB hQ1); have cpq1 := OwnedB.capOk (Owned.toB hQ1); have hs2 := E2.size; refine Wo_alloc2 rfl flat25 ?_; rintro b2 w3 hb2 E3 hB2; have hlb2 := hB2.lt
        have hs3 := E3.size; refine Wo_st2 rfl Try.sizeOf25 rfl rfl (by first | rfl | assumption) (by first | rfl | assumption) hB2 (by omega) ((E1.trans E2).trans E3) ?_; rintro w4 E4 hB2 K1 hz1
        have E5 := (E2.trans E3).wroteAt ((E1.trans E2).trans E3) E4 K1 hz1 (by omega); have szE5 := E5.size; have E6 := E3.wroteAt ((E1.trans E2).trans E3) E4 K1 hz1 (by omega); have szE6 := E6.size
        have hB1 := (hB1.ext (E2.trans E3)).of_heap (K1 _ (by omega)); have hO1 := (hO1.toB.ext E3).wrote K1 (by omega); have hQ1 := (hQ1.toB.ext E3).wrote K1 (by omega); refine Wo_nil ?_; refine W_seq ?_; refine W_region rfl ?_
        refine Wo rfl (opv_fieldAddr Try.underlying25 rfl rfl Try.sizeOf23 rfl) ?_; refine Wo (v := u3) rfl (opv_load Try.isAgg23 rfl (hB2.cell rfl)) ?_; refine Wo rfl (opv_len Try.underlying23 rfl (OwnedB.read hO1)) ?_
        refine Wo rfl (opv_fieldAddr Try.underlying25 rfl rfl Try.sizeOf23 rfl) ?_; refine Wo (v := q1) rfl (opv_load Try.isAgg23 rfl (hB2.cell rfl)) ?_; refine Wo rfl (opv_len Try.underlying23 rfl (OwnedB.read hQ1)) ?_
        refine Wo rfl (opv_add rfl rfl (by omega)) ?_; refine Wo rfl (opv_assign (v := .int _ _) rfl) ?_; refine Wo_nil ?_; refine W_seq ?_; refine W_seq ?_; refine W_region rfl ?_
        refine Wo (v := .agg _) rfl (opv_load2 Try.isAgg25 Try.sizeOf25 rfl hB1) ?_; refine Wo_call rfl (opc1 (a := .agg _) Try.call16 rfl) (k1 _ _ _ ((Mono.mono E4 h1)) ((Mono.mono E4 h2))) ?_; rintro _ w5 ⟨rfl, E7⟩; have hs4 := E7.size
        refine Wo rfl (opv_not rfl) ?_; refine Wo_split rfl (opv_move (v := .bool _) rfl) (fun h3 => ?_) (fun h3 => ?_); contradiction; refine Wo rfl (opv_move (v := .int _ _) rfl) ?_; refine Wo rfl (opv_gtr rfl rfl) ?_
        refine Wo rfl (opv_pick_f (v := .bool _) rfl rfl) ?_; refine Wo_nil ?_; refine W_cond_dec rfl (fun h5 => ?_) (fun h5 => ?_); (exfalso; omega); refine W_skip ?_; refine W_seq ?_; refine W_region rfl ?_
        refine Wo rfl (opv_assign (v := .int _ _) rfl) ?_; refine Wo_nil ?_; refine W_seq ?_; refine W_seq ?_; refine W_region rfl ?_; refine Wo rfl (opv_assign (v := .int _ _) rfl) ?_; refine Wo_nil ?_; refine W_block ?_
      refine W_loop [6, 7, 29, 30, 31, 32, 33, 34, 35, 36, 37, 38] (fun (k : Nat) => [(7, .int .i64 (k : Int)), (6, .int .i64 (someV (X ++ Y) k))]) (fun k w' => Ext w5 w' ∧ k ≤ X.length + Y.length) (fun x => X.length + Y.length - x) 0 (by repeat (first | exact trivial | refine And.intro rfl ?_)) ?_ ?_
      · exact ⟨Ext.refl _, Nat.zero_le _⟩
      rintro k ρj w6 ⟨E5', hk⟩
      by_cases hkn : k < X.length + Y.length
      · have hb' := hb k hkn
        focus
          have szE5' := E5'.size; have szE7 := E7.size; have szE6 := E6.size; have szE5 := E5.size; have szE4 := E4.size; have szE3 := E3.size; have szE2 := E2.size; have szE1 := E1.size; refine W_seq ?_; refine W_seq ?_
          refine W_region rfl ?_; refine Wo rfl (opv_move (v := .int _ _) rfl) ?_; refine Wo rfl (opv_move (v := .int _ _) rfl) ?_; refine Wo rfl (opv_lss rfl rfl) ?_; refine Wo_nil ?_; refine W_cond_dec rfl (fun h6 => ?_) (fun h6 => ?_)
          refine W_skip ?_; refine W_seq ?_; refine W_block ?_; refine W_region rfl ?_; refine Wo rfl (opv_move (v := .int _ _) rfl) ?_; refine Wo (v := .agg _) rfl (opv_load2 Try.isAgg25 Try.sizeOf25 rfl (hB2.ext (E7.trans E5'))) ?_
          refine Wo rfl (opv_move (v := .int _ _) rfl) ?_; refine Wo_call rfl (opc2 (a := .agg _) (b := .int _ _) Try.call57 rfl rfl) (hb' _ _ _ ((Mono.mono (E7.trans E5') (OwnedB.read hO1))) ((Mono.mono (E7.trans E5') (OwnedB.read hQ1)))) ?_
          rintro _ w7 ⟨rfl, E8⟩; have hs5 := E8.size; refine Wo rfl (opv_max rfl rfl) ?_; refine Wo rfl (opv_assign (v := .int _ _) rfl) ?_; refine Wo_nil ?_; refine W_region rfl ?_; refine Wo rfl (opv_move (v := .int _ _) rfl) ?_
          refine Wo rfl (opv_add rfl rfl (by omega)) ?_; refine Wo rfl (opv_assign (v := .int _ _) rfl) ?_; refine Wo_nil ?_; rotate_left; (exfalso; omega)
        refine ⟨k + 1, ⟨rfl, congrArg (Value.int .i64) (someV_succ hbits (by simpa using hkn)), trivial⟩, by repeat (first | with_reducible exact Same.refl | refine Same.upd rfl ?_ | refine Same.upds rfl ?_ | refine Same.mix rfl ?_), ⟨E5'.trans (by assumption), by omega⟩, by omega⟩
      · obtain rfl : k = X.length + Y.length := by omega
        by_cases h11 : (1 : Int) ∈ X ++ Y
        · have hM : sdM X Y = X.length + Y.length + 1 := by unfold sdM; rw [if_pos h11]
          have hs1 : someV (X ++ Y) (X.length + Y.length) = 1 := by unfold someV; rw [List.take_of_length_le (by simp), if_pos h11]
          focus
            have szE5' := E5'.size; have szE7 := E7.size; have szE6 := E6.size; have szE5 := E5.size; have szE4 := E4.size; have szE3 := E3.size; have szE2 := E2.size; have szE1 := E1.size; refine W_seq ?_; refine W_seq ?_
            refine W_region rfl ?_; refine Wo rfl (opv_move (v := .int _ _) rfl) ?_; refine Wo rfl (opv_move (v := .int _ _) rfl) ?_; refine Wo rfl (opv_lss rfl rfl) ?_; refine Wo_nil ?_; refine W_cond_dec rfl (fun h6 => ?_) (fun h6 => ?_)
            (exfalso; omega); refine W_exit ?_; refine exitX_same ?_; refine W_seq ?_; refine W_region rfl ?_; refine Wo_lit0 (XSl 3 XInt) rfl el50 Try.sizeOf23 ?_; rintro b3 w7 hb3 b3lt E8 hO2; have hs5 := E8.size
            refine Wo rfl (opv_assign (v := .slice _ _ _) rfl) ?_; refine Wo_nil ?_; refine W_seq ?_; refine W_seq ?_; refine W_region rfl ?_; refine Wo rfl (opv_assign (v := .int _ _) rfl) ?_; refine Wo_nil ?_; refine W_block ?_
          refine W_loop [8, 9, 10, 11, 40, 41, 42, 43, 44, 45, 46, 47, 48, 49, 50, 51, 52, 53, 54, 55, 56, 57, 58, 59, 60, 61, 62, 63, 64, 65, 66, 67, 68, 69, 70] (fun ((k, u) : Nat × Value) => [(9, .int .i64 (k : Int)), (8, u)]) (fun (k, u) w' => Ext w6 w' ∧ k ≤ X.length + Y.length ∧ Owned w6.heap.size XR w' u (rowsV X Y k)) (fun x => X.length + Y.length - x.1) (0, .slice (some ⟨b3, 0, none⟩) 0 0) (by repeat (first | exact trivial | refine And.intro rfl ?_)) ?_ ?_
          · exact ⟨by assumption, Nat.zero_le _, hO2⟩
          clear hO2
          rintro ⟨k, u⟩ ρk w8 ⟨E7', hk, hO3⟩
          have hrl := rowsV_len (X := X) (Y := Y) (k := k)
          by_cases hkn : k < X.length + Y.length
          · have hb' := hb k hkn
            focus
              have szE7' := E7'.size; have szE8 := E8.size; have szE5' := E5'.size; have szE7 := E7.size; have szE6 := E6.size; have szE5 := E5.size; have szE4 := E4.size; have szE3 := E3.size; have szE2 := E2.size; have szE1 := E1.size
              refine W_seq ?_; refine W_seq ?_; refine W_region rfl ?_; refine Wo rfl (opv_move (v := .int _ _) rfl) ?_; refine Wo rfl (opv_move (v := .int _ _) rfl) ?_; refine Wo rfl (opv_lss rfl rfl) ?_; refine Wo_nil ?_
              refine W_cond_dec rfl (fun h7 => ?_) (fun h7 => ?_); refine W_skip ?_; refine W_seq ?_; refine W_block ?_; refine W_seq ?_; refine W_region rfl ?_; refine Wo rfl (opv_move (v := .int _ _) rfl) ?_
              refine Wo rfl (opv_move (v := .int _ _) rfl) ?_; refine Wo rfl (opv_add rfl rfl (by omega)) ?_; refine Wo_makeI rfl el23 (int_z (by omega) rfl) (by omega) ?_; rintro b4 w9 hb4 b4lt E9 hO2; have hs6 := E9.size
              refine Wo rfl (opv_assign (v := .slice _ _ _) rfl) ?_; refine Wo_nil ?_; refine W_seq ?_; refine W_region rfl ?_; refine Wo rfl (opv_move (v := .int _ _) rfl) ?_; refine Wo rfl (opv_add rfl rfl (by omega)) ?_
              refine Wo rfl (opv_assign (v := .int _ _) rfl) ?_; refine Wo_nil ?_; refine W_seq ?_; refine W_seq ?_; refine W_region rfl ?_; refine Wo rfl (opv_move (v := .int _ _) rfl) ?_; refine Wo rfl (opv_move (v := .int _ _) rfl) ?_
              refine Wo rfl (opv_eql rfl rfl) ?_; refine Wo_nil ?_; refine W_cond_dec rfl (fun h8 => ?_) (fun h8 => ?_); refine W_region rfl ?_; refine Wo rfl (opv_fieldAddr Try.underlying25 rfl rfl Try.sizeOf23 rfl) ?_
              refine Wo (v := u3) rfl (opv_load Try.isAgg23 rfl ((hB2.ext (((E7.trans E5').trans E7').trans E9)).cell rfl)) ?_; refine Wo rfl (opv_len Try.underlying23 rfl (OwnedB.read hO1)) ?_; refine Wo rfl (opv_assign (v := .int _ _) rfl) ?_
              refine Wo_nil ?_; refine W_seq ?_; refine W_region rfl ?_; refine Wo rfl (opv_move (v := .slice _ _ _) rfl) ?_; refine Wo rfl (opv_move (v := .int _ _) rfl) ?_
              refine Wo rfl (opv_indexAddr Try.underlying23 Try.sizeOf3 rfl rfl (by omega)) ?_; refine Wo_set rfl Try.sizeOf3 rfl rfl hO2.toB (by first | omega | (simp <;> omega)) Owned.int (Nat.le_refl _) (by omega) ?_; rintro w10 hO2 On1 K2 hz2
              have E10 := On1.ext1 ((((E4.trans E7).trans E5').trans E7').trans E9) (by omega); have E11 := On1.ext1 ((((E5.trans E7).trans E5').trans E7').trans E9) (by omega); have szE11 := E11.size
              have E12 := On1.ext1 ((((E6.trans E7).trans E5').trans E7').trans E9) (by omega); have szE12 := E12.size; have E13 := On1.ext1 (((E7.trans E5').trans E7').trans E9) (by omega); have szE13 := E13.size
              have E14 := On1.ext1 ((E5'.trans E7').trans E9) (by omega); have szE14 := E14.size; have E15 := On1.ext1 (E7'.trans E9) (by omega); have szE15 := E15.size; have E16 := On1.ext1 E9 (by omega); have szE16 := E16.size
              have hB2 := (hB2.ext (((E7.trans E5').trans E7').trans E9)).of_heap (K2 _ (by omega)); have hB1 := (hB1.ext (((E7.trans E5').trans E7').trans E9)).of_heap (K2 _ (by omega))
              have hO1 := (hO1.ext (((E7.trans E5').trans E7').trans E9)).wrote K2 (by omega); have hQ1 := (hQ1.ext (((E7.trans E5').trans E7').trans E9)).wrote K2 (by omega); have hO3 := (hO3.toB.ext E9).wrote K2 (by omega); have hs7 := On1.size
              refine Wo_nil ?_; refine W_seq ?_; refine W_seq ?_; refine W_region rfl ?_; refine Wo (v := .agg _) rfl (opv_load2 Try.isAgg25 Try.sizeOf25 rfl hB2) ?_; refine Wo rfl (opv_move (v := .int _ _) rfl) ?_
              refine Wo_call rfl (opc2 (a := .agg _) (b := .int _ _) Try.call57 rfl rfl) (hb' _ _ _ ((OwnedB.read hO1)) ((OwnedB.read hQ1))) ?_; rintro _ w11 ⟨rfl, E17⟩; have hs8 := E17.size; refine Wo rfl (opv_eql rfl rfl) ?_; refine Wo_nil ?_
              refine W_cond_dec rfl (fun h9 => ?_) (fun h9 => ?_); refine W_region rfl ?_; refine Wo rfl (opv_move (v := .slice _ _ _) rfl) ?_; refine Wo rfl (opv_move (v := .int _ _) rfl) ?_
              refine Wo rfl (opv_indexAddr Try.underlying23 Try.sizeOf3 rfl rfl (by omega)) ?_; refine Wo_set rfl Try.sizeOf3 rfl rfl (hO2.toB.ext E17) (by first | omega | (simp <;> omega)) Owned.int (Nat.le_refl _) (by omega) ?_
              rintro w12 hO2 On2 K3 hz3; have E18 := On2.ext1 (E10.trans E17) (by omega); have E19 := On2.ext1 (E11.trans E17) (by omega); have szE19 := E19.size; have E20 := On2.ext1 (E12.trans E17) (by omega); have szE20 := E20.size
              have E21 := On2.ext1 (E13.trans E17) (by omega); have szE21 := E21.size; have E22 := On2.ext1 (E14.trans E17) (by omega); have szE22 := E22.size; have E23 := On2.ext1 (E15.trans E17) (by omega); have szE23 := E23.size
              have E24 := On2.ext1 (E16.trans E17) (by omega); have szE24 := E24.size; have hB2 := (hB2.ext E17).of_heap (K3 _ (by omega)); have hB1 := (hB1.ext E17).of_heap (K3 _ (by omega)); have hO1 := (hO1.ext E17).wrote K3 (by omega)
              have hQ1 := (hQ1.ext E17).wrote K3 (by omega); have hO3 := (hO3.ext E17).wrote K3 (by omega); have hs9 := On2.size; refine Wo_nil ?_; refine W_region rfl ?_; refine Wo rfl (opv_move (v := u) rfl) ?_
              refine Wo rfl (opv_move (v := .slice _ _ _) rfl) ?_; refine Wo_buildSlice (ps := [(0, .slice _ _ _)]) (cs := [_]) rfl Try.underlying50 Try.sizeOf23 Try.zeroValue23 rfl rfl rfl rfl ?_; rintro b5 w13 hb5 E25 hB3; have hlb5 := hB3.lt
              have hs10 := E25.size; refine Wo_app1 rfl el50 rfl rfl hB3 (hO3.ext E25) (hO2.toB.ext E25).o (by omega) (by first | omega | (simp <;> omega)) (by omega) (by omega) (E18.trans E25) (by omega) ?_; have hT1 := (hO3.ext E25)
              rintro v1 w14 hO3 E26 M1; have E27 := M1.ext hT1 (E19.trans E25) (by omega); have szE27 := E27.size; have E28 := M1.ext hT1 (E20.trans E25) (by omega); have szE28 := E28.size; have E29 := M1.ext hT1 (E21.trans E25) (by omega)
              have szE29 := E29.size; have E30 := M1.ext hT1 (E22.trans E25) (by omega); have szE30 := E30.size; have E31 := M1.ext hT1 (E23.trans E25) (by omega); have szE31 := E31.size; have hO2 := (hO2.toB.ext E25).moves M1 hT1 (by omega)
              have hB2 := (hB2.ext E25).moves M1 hT1 (by omega); have hB1 := (hB1.ext E25).moves M1 hT1 (by omega); have hO1 := (hO1.ext E25).moves M1 hT1 (by omega); have hQ1 := (hQ1.ext E25).moves M1 hT1 (by omega)
              have hB3 := hB3.moves M1 hT1 (by omega); have hs11 := E26.size; have szM1 := M1.1.size; have icv1 := OwnedB.isC (Owned.toB hO3); refine Wo rfl (opv_assign (v := v1) rfl) ?_; refine Wo_nil ?_; refine W_region rfl ?_
              refine Wo rfl (opv_move (v := .int _ _) rfl) ?_; refine Wo rfl (opv_add rfl rfl (by omega)) ?_; refine Wo rfl (opv_assign (v := .int _ _) rfl) ?_; refine Wo_nil ?_; rotate_left; refine W_skip ?_; refine W_region rfl ?_
              refine Wo rfl (opv_move (v := u) rfl) ?_; refine Wo rfl (opv_move (v := .slice _ _ _) rfl) ?_; refine Wo_buildSlice (ps := [(0, .slice _ _ _)]) (cs := [_]) rfl Try.underlying50 Try.sizeOf23 Try.zeroValue23 rfl rfl rfl rfl ?_
              rintro b5 w12 hb5 E18 hB3; have hlb5 := hB3.lt; have hs9 := E18.size
              refine Wo_app1 rfl el50 rfl rfl hB3 (hO3.ext (E17.trans E18)) (hO2.toB.ext (E17.trans E18)).o (by omega) (by first | omega | (simp <;> omega)) (by omega) (by omega) ((E10.trans E17).trans E18) (by omega) ?_
              have hT1 := (hO3.ext (E17.trans E18)); rintro v1 w13 hO3 E19 M1; have E20 := M1.ext hT1 ((E11.trans E17).trans E18) (by omega); have szE20 := E20.size; have E21 := M1.ext hT1 ((E12.trans E17).trans E18) (by omega)
              have szE21 := E21.size; have E22 := M1.ext hT1 ((E13.trans E17).trans E18) (by omega); have szE22 := E22.size; have E23 := M1.ext hT1 ((E14.trans E17).trans E18) (by omega); have szE23 := E23.size
              have E24 := M1.ext hT1 ((E15.trans E17).trans E18) (by omega); have szE24 := E24.size; have hO2 := (hO2.toB.ext (E17.trans E18)).moves M1 hT1 (by omega); have hB2 := (hB2.ext (E17.trans E18)).moves M1 hT1 (by omega)
              have hB1 := (hB1.ext (E17.trans E18)).moves M1 hT1 (by omega); have hO1 := (hO1.ext (E17.trans E18)).moves M1 hT1 (by omega); have hQ1 := (hQ1.ext (E17.trans E18)).moves M1 hT1 (by omega); have hB3 := hB3.moves M1 hT1 (by omega)
              have hs10 := E19.size; have szM1 := M1.1.size; have icv1 := OwnedB.isC (Owned.toB hO3); refine Wo rfl (opv_assign (v := v1) rfl) ?_; refine Wo_nil ?_; refine W_region rfl ?_; refine Wo rfl (opv_move (v := .int _ _) rfl) ?_
              refine Wo rfl (opv_add rfl rfl (by omega)) ?_; refine Wo rfl (opv_assign (v := .int _ _) rfl) ?_; refine Wo_nil ?_; rotate_left; refine W_skip ?_; refine W_seq ?_; refine W_region rfl ?_
              refine Wo rfl (opv_move (v := .slice _ _ _) rfl) ?_; refine Wo rfl (opv_move (v := .int _ _) rfl) ?_; refine Wo rfl (opv_indexAddr_z Try.underlying23 Try.sizeOf3 rfl rfl (by omega)) ?_
              refine Wo_set rfl Try.sizeOf3 rfl rfl hO2.toB (by first | omega | (simp <;> omega)) Owned.int (Nat.le_refl _) (by omega) ?_; rintro w10 hO2 On1 K2 hz2; have E10 := On1.ext1 ((((E4.trans E7).trans E5').trans E7').trans E9) (by omega)
              have E11 := On1.ext1 ((((E5.trans E7).trans E5').trans E7').trans E9) (by omega); have szE11 := E11.size; have E12 := On1.ext1 ((((E6.trans E7).trans E5').trans E7').trans E9) (by omega); have szE12 := E12.size
              have E13 := On1.ext1 (((E7.trans E5').trans E7').trans E9) (by omega); have szE13 := E13.size; have E14 := On1.ext1 ((E5'.trans E7').trans E9) (by omega); have szE14 := E14.size; have E15 := On1.ext1 (E7'.trans E9) (by omega)
              have szE15 := E15.size; have E16 := On1.ext1 E9 (by omega); have szE16 := E16.size; have hB2 := (hB2.ext (((E7.trans E5').trans E7').trans E9)).of_heap (K2 _ (by omega))
              have hB1 := (hB1.ext (((E7.trans E5').trans E7').trans E9)).of_heap (K2 _ (by omega)); have hO1 := (hO1.ext (((E7.trans E5').trans E7').trans E9)).wrote K2 (by omega)
              have hQ1 := (hQ1.ext (((E7.trans E5').trans E7').trans E9)).wrote K2 (by omega); have hO3 := (hO3.toB.ext E9).wrote K2 (by omega); have hs7 := On1.size; refine Wo_nil ?_; refine W_seq ?_; refine W_seq ?_; refine W_region rfl ?_
              refine Wo (v := .agg _) rfl (opv_load2 Try.isAgg25 Try.sizeOf25 rfl hB2) ?_; refine Wo rfl (opv_move (v := .int _ _) rfl) ?_
              refine Wo_call rfl (opc2 (a := .agg _) (b := .int _ _) Try.call57 rfl rfl) (hb' _ _ _ ((OwnedB.read hO1)) ((OwnedB.read hQ1))) ?_; rintro _ w11 ⟨rfl, E17⟩; have hs8 := E17.size; refine Wo rfl (opv_eql rfl rfl) ?_; refine Wo_nil ?_
              refine W_cond_dec rfl (fun h9 => ?_) (fun h9 => ?_); refine W_region rfl ?_; refine Wo rfl (opv_move (v := .slice _ _ _) rfl) ?_; refine Wo rfl (opv_move (v := .int _ _) rfl) ?_
              refine Wo rfl (opv_indexAddr Try.underlying23 Try.sizeOf3 rfl rfl (by omega)) ?_; refine Wo_set rfl Try.sizeOf3 rfl rfl (hO2.toB.ext E17) (by first | omega | (simp <;> omega)) Owned.int (Nat.le_refl _) (by omega) ?_
              rintro w12 hO2 On2 K3 hz3; have E18 := On2.ext1 (E10.trans E17) (by omega); have E19 := On2.ext1 (E11.trans E17) (by omega); have szE19 := E19.size; have E20 := On2.ext1 (E12.trans E17) (by omega); have szE20 := E20.size
              have E21 := On2.ext1 (E13.trans E17) (by omega); have szE21 := E21.size; have E22 := On2.ext1 (E14.trans E17) (by omega); have szE22 := E22.size; have E23 := On2.ext1 (E15.trans E17) (by omega); have szE23 := E23.size
              have E24 := On2.ext1 (E16.trans E17) (by omega); have szE24 := E24.size; have hB2 := (hB2.ext E17).of_heap (K3 _ (by omega)); have hB1 := (hB1.ext E17).of_heap (K3 _ (by omega)); have hO1 := (hO1.ext E17).wrote K3 (by omega)
              have hQ1 := (hQ1.ext E17).wrote K3 (by omega); have hO3 := (hO3.ext E17).wrote K3 (by omega); have hs9 := On2.size; refine Wo_nil ?_; refine W_region rfl ?_; refine Wo rfl (opv_move (v := u) rfl) ?_
              refine Wo rfl (opv_move (v := .slice _ _ _) rfl) ?_; refine Wo_buildSlice (ps := [(0, .slice _ _ _)]) (cs := [_]) rfl Try.underlying50 Try.sizeOf23 Try.zeroValue23 rfl rfl rfl rfl ?_; rintro b5 w13 hb5 E25 hB3; have hlb5 := hB3.lt
              have hs10 := E25.size; refine Wo_app1 rfl el50 rfl rfl hB3 (hO3.ext E25) (hO2.toB.ext E25).o (by omega) (by first | omega | (simp <;> omega)) (by omega) (by omega) (E18.trans E25) (by omega) ?_; have hT1 := (hO3.ext E25)
              rintro v1 w14 hO3 E26 M1; have E27 := M1.ext hT1 (E19.trans E25) (by omega); have szE27 := E27.size; have E28 := M1.ext hT1 (E20.trans E25) (by omega); have szE28 := E28.size; have E29 := M1.ext hT1 (E21.trans E25) (by omega)
              have szE29 := E29.size; have E30 := M1.ext hT1 (E22.trans E25) (by omega); have szE30 := E30.size; have E31 := M1.ext hT1 (E23.trans E25) (by omega); have szE31 := E31.size; have hO2 := (hO2.toB.ext E25).moves M1 hT1 (by omega)
              have hB2 := (hB2.ext E25).moves M1 hT1 (by omega); have hB1 := (hB1.ext E25).moves M1 hT1 (by omega); have hO1 := (hO1.ext E25).moves M1 hT1 (by omega); have hQ1 := (hQ1.ext E25).moves M1 hT1 (by omega)
              have hB3 := hB3.moves M1 hT1 (by omega); have hs11 := E26.size; have szM1 := M1.1.size; have icv1 := OwnedB.isC (Owned.toB hO3); refine Wo rfl (opv_assign (v := v1) rfl) ?_; refine Wo_nil ?_; refine W_region rfl ?_
              refine Wo rfl (opv_move (v := .int _ _) rfl) ?_; refine Wo rfl (opv_add rfl rfl (by omega)) ?_; refine Wo rfl (opv_assign (v := .int _ _) rfl) ?_; refine Wo_nil ?_; rotate_left; refine W_skip ?_; refine W_region rfl ?_
              refine Wo rfl (opv_move (v := u) rfl) ?_; refine Wo rfl (opv_move (v := .slice _ _ _) rfl) ?_; refine Wo_buildSlice (ps := [(0, .slice _ _ _)]) (cs := [_]) rfl Try.underlying50 Try.sizeOf23 Try.zeroValue23 rfl rfl rfl rfl ?_
              rintro b5 w12 hb5 E18 hB3; have hlb5 := hB3.lt; have hs9 := E18.size
              refine Wo_app1 rfl el50 rfl rfl hB3 (hO3.ext (E17.trans E18)) (hO2.toB.ext (E17.trans E18)).o (by omega) (by first | omega | (simp <;> omega)) (by omega) (by omega) ((E10.trans E17).trans E18) (by omega) ?_
              have hT1 := (hO3.ext (E17.trans E18)); rintro v1 w13 hO3 E19 M1; have E20 := M1.ext hT1 ((E11.trans E17).trans E18) (by omega); have szE20 := E20.size; have E21 := M1.ext hT1 ((E12.trans E17).trans E18) (by omega)
              have szE21 := E21.size; have E22 := M1.ext hT1 ((E13.trans E17).trans E18) (by omega); have szE22 := E22.size; have E23 := M1.ext hT1 ((E14.trans E17).trans E18) (by omega); have szE23 := E23.size
              have E24 := M1.ext hT1 ((E15.trans E17).trans E18) (by omega); have szE24 := E24.size; have hO2 := (hO2.toB.ext (E17.trans E18)).moves M1 hT1 (by omega); have hB2 := (hB2.ext (E17.trans E18)).moves M1 hT1 (by omega)
              have hB1 := (hB1.ext (E17.trans E18)).moves M1 hT1 (by omega); have hO1 := (hO1.ext (E17.trans E18)).moves M1 hT1 (by omega); have hQ1 := (hQ1.ext (E17.trans E18)).moves M1 hT1 (by omega); have hB3 := hB3.moves M1 hT1 (by omega)
              have hs10 := E19.size; have szM1 := M1.1.size; have icv1 := OwnedB.isC (Owned.toB hO3); refine Wo rfl (opv_assign (v := v1) rfl) ?_; refine Wo_nil ?_; refine W_region rfl ?_; refine Wo rfl (opv_move (v := .int _ _) rfl) ?_
              refine Wo rfl (opv_add rfl rfl (by omega)) ?_; refine Wo rfl (opv_assign (v := .int _ _) rfl) ?_; refine Wo_nil ?_; rotate_left; (exfalso; omega)
            all_goals refine ⟨(k + 1, v1), by repeat (first | exact trivial | refine And.intro rfl ?_), by repeat (first | with_reducible exact Same.refl | refine Same.upd rfl ?_ | refine Same.upds rfl ?_ | refine Same.mix rfl ?_), ⟨by assumption, by omega, (congrArg (Owned _ _ _ _) ?_).mp hO3⟩, by simp only; omega⟩
            all_goals first
              | exact rowsV_B (by omega) (by unfold sdNext; split <;> omega) (by omega) (by omega)
              | exact rowsV_A (by omega) (by unfold sdNext; split <;> omega) (by omega)
          · obtain rfl : k = X.length + Y.length := by omega
            focus
              have szE7' := E7'.size; have szE8 := E8.size; have szE5' := E5'.size; have szE7 := E7.size; have szE6 := E6.size; have szE5 := E5.size; have szE4 := E4.size; have szE3 := E3.size; have szE2 := E2.size; have szE1 := E1.size
              refine W_seq ?_; refine W_seq ?_; refine W_region rfl ?_; refine Wo rfl (opv_move (v := .int _ _) rfl) ?_; refine Wo rfl (opv_move (v := .int _ _) rfl) ?_; refine Wo rfl (opv_lss rfl rfl) ?_; refine Wo_nil ?_
              refine W_cond_dec rfl (fun h7 => ?_) (fun h7 => ?_); contradiction; refine W_exit ?_; refine exitX_same ?_; refine W_seq ?_; refine W_seq ?_; refine W_region rfl ?_; refine Wo rfl (opv_move (v := .int _ _) rfl) ?_
              refine Wo rfl (opv_eql rfl rfl) ?_; refine Wo_nil ?_; refine W_cond_dec rfl (fun h8 => ?_) (fun h8 => ?_); refine W_region rfl ?_; refine Wo rfl (opv_move (v := u) rfl) ?_; refine Wo rfl (opv_move (v := .int _ _) rfl) ?_
              refine Wo rfl (opv_add rfl rfl (by omega)) ?_; refine Wo_makeI rfl el23 (int_z (by omega) rfl) (by omega) ?_; rintro b4 w9 hb4 b4lt E9 hO2; have hs6 := E9.size
              refine Wo_buildSlice (ps := [(0, .slice _ _ _)]) (cs := [_]) rfl Try.underlying50 Try.sizeOf23 Try.zeroValue23 rfl rfl rfl rfl ?_; rintro b5 w10 hb5 E10 hB3; have hlb5 := hB3.lt; have hs7 := E10.size
              refine Wo_app1 rfl el50 rfl rfl hB3 (hO3.toB.ext (E9.trans E10)) (hO2.toB.ext E10).o (by omega) (by first | omega | (simp <;> omega)) (by omega) (by omega) (((((E4.trans E7).trans E5').trans E7').trans E9).trans E10) (by omega) ?_
              have hT1 := (hO3.toB.ext (E9.trans E10)); rintro v1 w11 hO3 E11 M1; have E12 := M1.ext hT1 (((((E5.trans E7).trans E5').trans E7').trans E9).trans E10) (by omega); have szE12 := E12.size
              have E13 := M1.ext hT1 (((((E6.trans E7).trans E5').trans E7').trans E9).trans E10) (by omega); have szE13 := E13.size; have E14 := M1.ext hT1 ((((E7.trans E5').trans E7').trans E9).trans E10) (by omega); have szE14 := E14.size
              have E15 := M1.ext hT1 (((E5'.trans E7').trans E9).trans E10) (by omega); have szE15 := E15.size; have E16 := M1.ext hT1 ((E7'.trans E9).trans E10) (by omega); have szE16 := E16.size
              have hB2 := (hB2.ext ((((E7.trans E5').trans E7').trans E9).trans E10)).moves M1 hT1 (by omega); have hB1 := (hB1.ext ((((E7.trans E5').trans E7').trans E9).trans E10)).moves M1 hT1 (by omega)
              have hO1 := (hO1.ext ((((E7.trans E5').trans E7').trans E9).trans E10)).moves M1 hT1 (by omega); have hQ1 := (hQ1.ext ((((E7.trans E5').trans E7').trans E9).trans E10)).moves M1 hT1 (by omega)
              have hO2 := (hO2.toB.ext E10).moves M1 hT1 (by omega); have hB3 := hB3.moves M1 hT1 (by omega); have hs8 := E11.size; have szM1 := M1.1.size; have icv1 := OwnedB.isC (Owned.toB hO3); refine Wo rfl (opv_assign (v := v1) rfl) ?_
              refine Wo_nil ?_; refine W_seq ?_; refine W_region rfl ?_; refine Wo rfl (opv_move (v := v1) rfl) ?_; refine Wo rfl (opv_assign (v := v1) rfl) ?_; refine Wo rfl (opv_assign (v := .bool _) rfl) ?_; refine Wo_nil ?_; refine W_ret ?_
              refine at_ret (v := .tuple #[v1, .bool _]) rfl ?_; refine ⟨_, rfl, E11, ?_⟩; rotate_left; contradiction
            refine (congrArg (Owned _ _ _ _) ?_).mp (hO3.mono (by omega))
            show _ = sdP X Y
            rw [← rowsV_end1 h11, hM]
            congr 3
        · have hM : sdM X Y = X.length + Y.length + 0 := by unfold sdM; rw [if_neg h11]
          have hs1 : someV (X ++ Y) (X.length + Y.length) = 0 := by unfold someV; rw [List.take_of_length_le (by simp), if_neg h11]
          focus
            have szE5' := E5'.size; have szE7 := E7.size; have szE6 := E6.size; have szE5 := E5.size; have szE4 := E4.size; have szE3 := E3.size; have szE2 := E2.size; have szE1 := E1.size; refine W_seq ?_; refine W_seq ?_
            refine W_region rfl ?_; refine Wo rfl (opv_move (v := .int _ _) rfl) ?_; refine Wo rfl (opv_move (v := .int _ _) rfl) ?_; refine Wo rfl (opv_lss rfl rfl) ?_; refine Wo_nil ?_; refine W_cond_dec rfl (fun h6 => ?_) (fun h6 => ?_)
            (exfalso; omega); refine W_exit ?_; refine exitX_same ?_; refine W_seq ?_; refine W_region rfl ?_; refine Wo_lit0 (XSl 3 XInt) rfl el50 Try.sizeOf23 ?_; rintro b3 w7 hb3 b3lt E8 hO2; have hs5 := E8.size
            refine Wo rfl (opv_assign (v := .slice _ _ _) rfl) ?_; refine Wo_nil ?_; refine W_seq ?_; refine W_seq ?_; refine W_region rfl ?_; refine Wo rfl (opv_assign (v := .int _ _) rfl) ?_; refine Wo_nil ?_; refine W_block ?_
          refine W_loop [8, 9, 10, 11, 40, 41, 42, 43, 44, 45, 46, 47, 48, 49, 50, 51, 52, 53, 54, 55, 56, 57, 58, 59, 60, 61, 62, 63, 64, 65, 66, 67, 68, 69, 70] (fun ((k, u) : Nat × Value) => [(9, .int .i64 (k : Int)), (8, u)]) (fun (k, u) w' => Ext w6 w' ∧ k ≤ X.length + Y.length ∧ Owned w6.heap.size XR w' u (rowsV X Y k)) (fun x => X.length + Y.length - x.1) (0, .slice (some ⟨b3, 0, none⟩) 0 0) (by repeat (first | exact trivial | refine And.intro rfl ?_)) ?_ ?_
          · exact ⟨by assumption, Nat.zero_le _, hO2⟩
          clear hO2
          rintro ⟨k, u⟩ ρk w8 ⟨E7', hk, hO3⟩
          have hrl := rowsV_len (X := X) (Y := Y) (k := k)
          by_cases hkn : k < X.length + Y.length
          · have hb' := hb k hkn
            have hbn := noone h11 k
            focus
              have szE7' := E7'.size; have szE8 := E8.size; have szE5' := E5'.size; have szE7 := E7.size; have szE6 := E6.size; have szE5 := E5.size; have szE4 := E4.size; have szE3 := E3.size; have szE2 := E2.size; have szE1 := E1.size
              refine W_seq ?_; refine W_seq ?_; refine W_region rfl ?_; refine Wo rfl (opv_move (v := .int _ _) rfl) ?_; refine Wo rfl (opv_move (v := .int _ _) rfl) ?_; refine Wo rfl (opv_lss rfl rfl) ?_; refine Wo_nil ?_
              refine W_cond_dec rfl (fun h7 => ?_) (fun h7 => ?_); refine W_skip ?_; refine W_seq ?_; refine W_block ?_; refine W_seq ?_; refine W_region rfl ?_; refine Wo rfl (opv_move (v := .int _ _) rfl) ?_
              refine Wo rfl (opv_move (v := .int _ _) rfl) ?_; refine Wo rfl (opv_add rfl rfl (by omega)) ?_; refine Wo_makeI rfl el23 (int_z (by omega) rfl) (by omega) ?_; rintro b4 w9 hb4 b4lt E9 hO2; have hs6 := E9.size
              refine Wo rfl (opv_assign (v := .slice _ _ _) rfl) ?_; refine Wo_nil ?_; refine W_seq ?_; refine W_region rfl ?_; refine Wo rfl (opv_move (v := .int _ _) rfl) ?_; refine Wo rfl (opv_add rfl rfl (by omega)) ?_
              refine Wo rfl (opv_assign (v := .int _ _) rfl) ?_; refine Wo_nil ?_; refine W_seq ?_; refine W_seq ?_; refine W_region rfl ?_; refine Wo rfl (opv_move (v := .int _ _) rfl) ?_; refine Wo rfl (opv_move (v := .int _ _) rfl) ?_
              refine Wo rfl (opv_eql rfl rfl) ?_; refine Wo_nil ?_; refine W_cond_dec rfl (fun h8 => ?_) (fun h8 => ?_); refine W_region rfl ?_; refine Wo rfl (opv_fieldAddr Try.underlying25 rfl rfl Try.sizeOf23 rfl) ?_
              refine Wo (v := u3) rfl (opv_load Try.isAgg23 rfl ((hB2.ext (((E7.trans E5').trans E7').trans E9)).cell rfl)) ?_; refine Wo rfl (opv_len Try.underlying23 rfl (OwnedB.read hO1)) ?_; refine Wo rfl (opv_assign (v := .int _ _) rfl) ?_
              refine Wo_nil ?_; refine W_seq ?_; refine W_region rfl ?_; refine Wo rfl (opv_move (v := .slice _ _ _) rfl) ?_; refine Wo rfl (opv_move (v := .int _ _) rfl) ?_
              refine Wo rfl (opv_indexAddr Try.underlying23 Try.sizeOf3 rfl rfl (by omega)) ?_; refine Wo_set rfl Try.sizeOf3 rfl rfl hO2.toB (by first | omega | (simp <;> omega)) Owned.int (Nat.le_refl _) (by omega) ?_; rintro w10 hO2 On1 K2 hz2
              have E10 := On1.ext1 ((((E4.trans E7).trans E5').trans E7').trans E9) (by omega); have E11 := On1.ext1 ((((E5.trans E7).trans E5').trans E7').trans E9) (by omega); have szE11 := E11.size
              have E12 := On1.ext1 ((((E6.trans E7).trans E5').trans E7').trans E9) (by omega); have szE12 := E12.size; have E13 := On1.ext1 (((E7.trans E5').trans E7').trans E9) (by omega); have szE13 := E13.size
              have E14 := On1.ext1 ((E5'.trans E7').trans E9) (by omega); have szE14 := E14.size; have E15 := On1.ext1 (E7'.trans E9) (by omega); have szE15 := E15.size; have E16 := On1.ext1 E9 (by omega); have szE16 := E16.size
              have hB2 := (hB2.ext (((E7.trans E5').trans E7').trans E9)).of_heap (K2 _ (by omega)); have hB1 := (hB1.ext (((E7.trans E5').trans E7').trans E9)).of_heap (K2 _ (by omega))
              have hO1 := (hO1.ext (((E7.trans E5').trans E7').trans E9)).wrote K2 (by omega); have hQ1 := (hQ1.ext (((E7.trans E5').trans E7').trans E9)).wrote K2 (by omega); have hO3 := (hO3.toB.ext E9).wrote K2 (by omega); have hs7 := On1.size
              refine Wo_nil ?_; refine W_seq ?_; refine W_seq ?_; refine W_region rfl ?_; refine Wo (v := .agg _) rfl (opv_load2 Try.isAgg25 Try.sizeOf25 rfl hB2) ?_; refine Wo rfl (opv_move (v := .int _ _) rfl) ?_
              refine Wo_call rfl (opc2 (a := .agg _) (b := .int _ _) Try.call57 rfl rfl) (hb' _ _ _ ((OwnedB.read hO1)) ((OwnedB.read hQ1))) ?_; rintro _ w11 ⟨rfl, E17⟩; have hs8 := E17.size; refine Wo rfl (opv_eql rfl rfl) ?_; refine Wo_nil ?_
              refine W_cond_dec rfl (fun h9 => ?_) (fun h9 => ?_); contradiction; refine W_skip ?_; refine W_region rfl ?_; refine Wo rfl (opv_move (v := u) rfl) ?_; refine Wo rfl (opv_move (v := .slice _ _ _) rfl) ?_
              refine Wo_buildSlice (ps := [(0, .slice _ _ _)]) (cs := [_]) rfl Try.underlying50 Try.sizeOf23 Try.zeroValue23 rfl rfl rfl rfl ?_; rintro b5 w12 hb5 E18 hB3; have hlb5 := hB3.lt; have hs9 := E18.size
              refine Wo_app1 rfl el50 rfl rfl hB3 (hO3.ext (E17.trans E18)) (hO2.toB.ext (E17.trans E18)).o (by omega) (by first | omega | (simp <;> omega)) (by omega) (by omega) ((E10.trans E17).trans E18) (by omega) ?_
              have hT1 := (hO3.ext (E17.trans E18)); rintro v1 w13 hO3 E19 M1; have E20 := M1.ext hT1 ((E11.trans E17).trans E18) (by omega); have szE20 := E20.size; have E21 := M1.ext hT1 ((E12.trans E17).trans E18) (by omega)
              have szE21 := E21.size; have E22 := M1.ext hT1 ((E13.trans E17).trans E18) (by omega); have szE22 := E22.size; have E23 := M1.ext hT1 ((E14.trans E17).trans E18) (by omega); have szE23 := E23.size
              have E24 := M1.ext hT1 ((E15.trans E17).trans E18) (by omega); have szE24 := E24.size; have hO2 := (hO2.toB.ext (E17.trans E18)).moves M1 hT1 (by omega); have hB2 := (hB2.ext (E17.trans E18)).moves M1 hT1 (by omega)
              have hB1 := (hB1.ext (E17.trans E18)).moves M1 hT1 (by omega); have hO1 := (hO1.ext (E17.trans E18)).moves M1 hT1 (by omega); have hQ1 := (hQ1.ext (E17.trans E18)).moves M1 hT1 (by omega); have hB3 := hB3.moves M1 hT1 (by omega)
              have hs10 := E19.size; have szM1 := M1.1.size; have icv1 := OwnedB.isC (Owned.toB hO3); refine Wo rfl (opv_assign (v := v1) rfl) ?_; refine Wo_nil ?_; refine W_region rfl ?_; refine Wo rfl (opv_move (v := .int _ _) rfl) ?_
              refine Wo rfl (opv_add rfl rfl (by omega)) ?_; refine Wo rfl (opv_assign (v := .int _ _) rfl) ?_; refine Wo_nil ?_; rotate_left; refine W_skip ?_; refine W_seq ?_; refine W_region rfl ?_
              refine Wo rfl (opv_move (v := .slice _ _ _) rfl) ?_; refine Wo rfl (opv_move (v := .int _ _) rfl) ?_; refine Wo rfl (opv_indexAddr_z Try.underlying23 Try.sizeOf3 rfl rfl (by omega)) ?_
              refine Wo_set rfl Try.sizeOf3 rfl rfl hO2.toB (by first | omega | (simp <;> omega)) Owned.int (Nat.le_refl _) (by omega) ?_; rintro w10 hO2 On1 K2 hz2; have E10 := On1.ext1 ((((E4.trans E7).trans E5').trans E7').trans E9) (by omega)
              have E11 := On1.ext1 ((((E5.trans E7).trans E5').trans E7').trans E9) (by omega); have szE11 := E11.size; have E12 := On1.ext1 ((((E6.trans E7).trans E5').trans E7').trans E9) (by omega); have szE12 := E12.size
              have E13 := On1.ext1 (((E7.trans E5').trans E7').trans E9) (by omega); have szE13 := E13.size; have E14 := On1.ext1 ((E5'.trans E7').trans E9) (by omega); have szE14 := E14.size; have E15 := On1.ext1 (E7'.trans E9) (by omega)
              have szE15 := E15.size; have E16 := On1.ext1 E9 (by omega); have szE16 := E16.size; have hB2 := (hB2.ext (((E7.trans E5').trans E7').trans E9)).of_heap (K2 _ (by omega))
              have hB1 := (hB1.ext (((E7.trans E5').trans E7').trans E9)).of_heap (K2 _ (by omega)); have hO1 := (hO1.ext (((E7.trans E5').trans E7').trans E9)).wrote K2 (by omega)
              have hQ1 := (hQ1.ext (((E7.trans E5').trans E7').trans E9)).wrote K2 (by omega); have hO3 := (hO3.toB.ext E9).wrote K2 (by omega); have hs7 := On1.size; refine Wo_nil ?_; refine W_seq ?_; refine W_seq ?_; refine W_region rfl ?_
              refine Wo (v := .agg _) rfl (opv_load2 Try.isAgg25 Try.sizeOf25 rfl hB2) ?_; refine Wo rfl (opv_move (v := .int _ _) rfl) ?_
              refine Wo_call rfl (opc2 (a := .agg _) (b := .int _ _) Try.call57 rfl rfl) (hb' _ _ _ ((OwnedB.read hO1)) ((OwnedB.read hQ1))) ?_; rintro _ w11 ⟨rfl, E17⟩; have hs8 := E17.size; refine Wo rfl (opv_eql rfl rfl) ?_; refine Wo_nil ?_
              refine W_cond_dec rfl (fun h9 => ?_) (fun h9 => ?_); contradiction; refine W_skip ?_; refine W_region rfl ?_; refine Wo rfl (opv_move (v := u) rfl) ?_; refine Wo rfl (opv_move (v := .slice _ _ _) rfl) ?_
              refine Wo_buildSlice (ps := [(0, .slice _ _ _)]) (cs := [_]) rfl Try.underlying50 Try.sizeOf23 Try.zeroValue23 rfl rfl rfl rfl ?_; rintro b5 w12 hb5 E18 hB3; have hlb5 := hB3.lt; have hs9 := E18.size
              refine Wo_app1 rfl el50 rfl rfl hB3 (hO3.ext (E17.trans E18)) (hO2.toB.ext (E17.trans E18)).o (by omega) (by first | omega | (simp <;> omega)) (by omega) (by omega) ((E10.trans E17).trans E18) (by omega) ?_
              have hT1 := (hO3.ext (E17.trans E18)); rintro v1 w13 hO3 E19 M1; have E20 := M1.ext hT1 ((E11.trans E17).trans E18) (by omega); have szE20 := E20.size; have E21 := M1.ext hT1 ((E12.trans E17).trans E18) (by omega)
              have szE21 := E21.size; have E22 := M1.ext hT1 ((E13.trans E17).trans E18) (by omega); have szE22 := E22.size; have E23 := M1.ext hT1 ((E14.trans E17).trans E18) (by omega); have szE23 := E23.size
              have E24 := M1.ext hT1 ((E15.trans E17).trans E18) (by omega); have szE24 := E24.size; have hO2 := (hO2.toB.ext (E17.trans E18)).moves M1 hT1 (by omega); have hB2 := (hB2.ext (E17.trans E18)).moves M1 hT1 (by omega)
              have hB1 := (hB1.ext (E17.trans E18)).moves M1 hT1 (by omega); have hO1 := (hO1.ext (E17.trans E18)).moves M1 hT1 (by omega); have hQ1 := (hQ1.ext (E17.trans E18)).moves M1 hT1 (by omega); have hB3 := hB3.moves M1 hT1 (by omega)
              have hs10 := E19.size; have szM1 := M1.1.size; have icv1 := OwnedB.isC (Owned.toB hO3); refine Wo rfl (opv_assign (v := v1) rfl) ?_; refine Wo_nil ?_; refine W_region rfl ?_; refine Wo rfl (opv_move (v := .int _ _) rfl) ?_
              refine Wo rfl (opv_add rfl rfl (by omega)) ?_; refine Wo rfl (opv_assign (v := .int _ _) rfl) ?_; refine Wo_nil ?_; rotate_left; (exfalso; omega)
            all_goals refine ⟨(k + 1, v1), by repeat (first | exact trivial | refine And.intro rfl ?_), by repeat (first | with_reducible exact Same.refl | refine Same.upd rfl ?_ | refine Same.upds rfl ?_ | refine Same.mix rfl ?_), ⟨by assumption, by omega, (congrArg (Owned _ _ _ _) ?_).mp hO3⟩, by simp only; omega⟩
            all_goals first
              | exact rowsV_B (by omega) (by unfold sdNext; split <;> omega) (by omega) (by omega)
              | exact rowsV_A (by omega) (by unfold sdNext; split <;> omega) (by omega)
          · obtain rfl : k = X.length + Y.length := by omega
            focus
              have szE7' := E7'.size; have szE8 := E8.size; have szE5' := E5'.size; have szE7 := E7.size; have szE6 := E6.size; have szE5 := E5.size; have szE4 := E4.size; have szE3 := E3.size; have szE2 := E2.size; have szE1 := E1.size
              refine W_seq ?_; refine W_seq ?_; refine W_region rfl ?_; refine Wo rfl (opv_move (v := .int _ _) rfl) ?_; refine Wo rfl (opv_move (v := .int _ _) rfl) ?_; refine Wo rfl (opv_lss rfl rfl) ?_; refine Wo_nil ?_
              refine W_cond_dec rfl (fun h7 => ?_) (fun h7 => ?_); contradiction; refine W_exit ?_; refine exitX_same ?_; refine W_seq ?_; refine W_seq ?_; refine W_region rfl ?_; refine Wo rfl (opv_move (v := .int _ _) rfl) ?_
              refine Wo rfl (opv_eql rfl rfl) ?_; refine Wo_nil ?_; refine W_cond_dec rfl (fun h8 => ?_) (fun h8 => ?_); (exfalso; omega); refine W_skip ?_; refine W_seq ?_; refine W_region rfl ?_; refine Wo rfl (opv_move (v := u) rfl) ?_
              refine Wo rfl (opv_assign (v := u) rfl) ?_; refine Wo rfl (opv_assign (v := .bool _) rfl) ?_; refine Wo_nil ?_; refine W_ret ?_; refine at_ret (v := .tuple #[u, .bool _]) rfl ?_
              refine ⟨_, rfl, (((E4.trans E7).trans E5').trans E7'), ?_⟩
            refine (congrArg (Owned _ _ _ _) ?_).mp (hO3.mono (by omega))
            exact rowsV_end0 h11
    · rw [if_neg h4]
      focus
        refine W_seq ?_; refine W_region rfl ?_; refine Wo_box rfl rfl rfl ?_; rintro b1 w1 hb1 E1 hB1; have hlb1 := hB1.lt; have hs1 := E1.size; refine Wo rfl (opv_assign (v := .slice _ _ _) rfl) ?_
        refine Wo rfl (opv_assign (v := .bool _) rfl) ?_; refine Wo_nil ?_; refine W_seq ?_; refine W_region rfl ?_; refine Wo (v := .agg _) rfl (opv_load2 Try.isAgg25 Try.sizeOf25 rfl hB1) ?_
        refine Wo_call rfl (opc1 (a := .agg _) Try.call53 rfl) (k2 _ _ _ ((Mono.mono E1 h1)) ((Mono.mono E1 h2))) ?_; rintro _ w2 ⟨u3, q1, rfl, E2, hO1, hQ1, hd1⟩; have icu3 := OwnedB.isC (Owned.toB hO1)
        have cpu3 := OwnedB.capOk (Owned.toB hO1); have icq1 := OwnedB.isC (Owned.toB hQ1); have cpq1 := OwnedB.capOk (Owned.toB hQ1); have hs2 := E2.size; refine Wo_alloc2 rfl flat25 ?_; rintro b2 w3 hb2 E3 hB2; have hlb2 := hB2.lt
        have hs3 := E3.size; refine Wo_st2 rfl Try.sizeOf25 rfl rfl (by first | rfl | assumption) (by first | rfl | assumption) hB2 (by omega) ((E1.trans E2).trans E3) ?_; rintro w4 E4 hB2 K1 hz1
        have E5 := (E2.trans E3).wroteAt ((E1.trans E2).trans E3) E4 K1 hz1 (by omega); have szE5 := E5.size; have E6 := E3.wroteAt ((E1.trans E2).trans E3) E4 K1 hz1 (by omega); have szE6 := E6.size
        have hB1 := (hB1.ext (E2.trans E3)).of_heap (K1 _ (by omega)); have hO1 := (hO1.toB.ext E3).wrote K1 (by omega); have hQ1 := (hQ1.toB.ext E3).wrote K1 (by omega); refine Wo_nil ?_; refine W_seq ?_; refine W_region rfl ?_
        refine Wo rfl (opv_fieldAddr Try.underlying25 rfl rfl Try.sizeOf23 rfl) ?_; refine Wo (v := u3) rfl (opv_load Try.isAgg23 rfl (hB2.cell rfl)) ?_; refine Wo rfl (opv_len Try.underlying23 rfl (OwnedB.read hO1)) ?_
        refine Wo rfl (opv_fieldAddr Try.underlying25 rfl rfl Try.sizeOf23 rfl) ?_; refine Wo (v := q1) rfl (opv_load Try.isAgg23 rfl (hB2.cell rfl)) ?_; refine Wo rfl (opv_len Try.underlying23 rfl (OwnedB.read hQ1)) ?_
        refine Wo rfl (opv_add rfl rfl (by omega)) ?_; refine Wo rfl (opv_assign (v := .int _ _) rfl) ?_; refine Wo_nil ?_; refine W_seq ?_; refine W_seq ?_; refine W_region rfl ?_
        refine Wo (v := .agg _) rfl (opv_load2 Try.isAgg25 Try.sizeOf25 rfl hB1) ?_; refine Wo_call rfl (opc1 (a := .agg _) Try.call16 rfl) (k1 _ _ _ ((Mono.mono E4 h1)) ((Mono.mono E4 h2))) ?_; rintro _ w5 ⟨rfl, E7⟩; have hs4 := E7.size
        refine Wo rfl (opv_not rfl) ?_; refine Wo_split rfl (opv_move (v := .bool _) rfl) (fun h3 => ?_) (fun h3 => ?_); contradiction; refine Wo rfl (opv_move (v := .int _ _) rfl) ?_; refine Wo rfl (opv_gtr rfl rfl) ?_
        refine Wo rfl (opv_pick_f (v := .bool _) rfl rfl) ?_; refine Wo_nil ?_; refine W_cond_dec rfl (fun h5 => ?_) (fun h5 => ?_); refine W_seq ?_; refine W_region rfl ?_; refine Wo_lit0 (XSl 3 XInt) rfl el50 Try.sizeOf23 ?_
        rintro b3 w6 hb3 b3lt E8 hO2; have hs5 := E8.size; refine Wo rfl (opv_assign (v := .slice _ _ _) rfl) ?_; refine Wo rfl (opv_assign (v := .bool _) rfl) ?_; refine Wo_nil ?_; refine W_ret ?_
        refine at_ret (v := .tuple #[.slice _ _ _, .bool _]) rfl ?_; exact ⟨_, rfl, ((E4.trans E7).trans E8), hO2.toB.o.mono (by omega)⟩; (exfalso; omega)
  · have k1 := hok false (decide_eq_false hs)
    have eV : sdV A B = ([], false) := if_neg (fun h => hs h.1)
    rw [eV]
    rw [show shV A B = ([], []) from if_neg hs] at k2
    simp only at k2
    have hz9 : (([] : List Int).length : Int) = 0 := rfl
    refine fn_of_W2 Try.func40 rfl Try.results40 Try.ntmps40 rfl ?_
    focus
      refine W_seq ?_; refine W_region rfl ?_; refine Wo_box rfl rfl rfl ?_; rintro b1 w1 hb1 E1 hB1; have hlb1 := hB1.lt; have hs1 := E1.size; refine Wo rfl (opv_assign (v := .slice _ _ _) rfl) ?_
      refine Wo rfl (opv_assign (v := .bool _) rfl) ?_; refine Wo_nil ?_; refine W_seq ?_; refine W_region rfl ?_; refine Wo (v := .agg _) rfl (opv_load2 Try.isAgg25 Try.sizeOf25 rfl hB1) ?_
      refine Wo_call rfl (opc1 (a := .agg _) Try.call53 rfl) (k2 _ _ _ ((Mono.mono E1 h1)) ((Mono.mono E1 h2))) ?_; rintro _ w2 ⟨u3, q1, rfl, E2, hO1, hQ1, hd1⟩; have icu3 := OwnedB.isC (Owned.toB hO1)
      have cpu3 := OwnedB.capOk (Owned.toB hO1); have icq1 := OwnedB.isC (Owned.toB hQ1); have cpq1 := OwnedB.capOk (Owned.toB hQ1); have hs2 := E2.size; refine Wo_alloc2 rfl flat25 ?_; rintro b2 w3 hb2 E3 hB2; have hlb2 := hB2.lt
      have hs3 := E3.size; refine Wo_st2 rfl Try.sizeOf25 rfl rfl (by first | rfl | assumption) (by first | rfl | assumption) hB2 (by omega) ((E1.trans E2).trans E3) ?_; rintro w4 E4 hB2 K1 hz1
      have E5 := (E2.trans E3).wroteAt ((E1.trans E2).trans E3) E4 K1 hz1 (by omega); have szE5 := E5.size; have E6 := E3.wroteAt ((E1.trans E2).trans E3) E4 K1 hz1 (by omega); have szE6 := E6.size
      have hB1 := (hB1.ext (E2.trans E3)).of_heap (K1 _ (by omega)); have hO1 := (hO1.toB.ext E3).wrote K1 (by omega); have hQ1 := (hQ1.toB.ext E3).wrote K1 (by omega); refine Wo_nil ?_; refine W_seq ?_; refine W_region rfl ?_
      refine Wo rfl (opv_fieldAddr Try.underlying25 rfl rfl Try.sizeOf23 rfl) ?_; refine Wo (v := u3) rfl (opv_load Try.isAgg23 rfl (hB2.cell rfl)) ?_; refine Wo rfl (opv_len Try.underlying23 rfl (OwnedB.read hO1)) ?_
      refine Wo rfl (opv_fieldAddr Try.underlying25 rfl rfl Try.sizeOf23 rfl) ?_; refine Wo (v := q1) rfl (opv_load Try.isAgg23 rfl (hB2.cell rfl)) ?_; refine Wo rfl (opv_len Try.underlying23 rfl (OwnedB.read hQ1)) ?_
      refine Wo rfl (opv_add rfl rfl (by omega)) ?_; refine Wo rfl (opv_assign (v := .int _ _) rfl) ?_; refine Wo_nil ?_; refine W_seq ?_; refine W_seq ?_; refine W_region rfl ?_
      refine Wo (v := .agg _) rfl (opv_load2 Try.isAgg25 Try.sizeOf25 rfl hB1) ?_; refine Wo_call rfl (opc1 (a := .agg _) Try.call16 rfl) (k1 _ _ _ ((Mono.mono E4 h1)) ((Mono.mono E4 h2))) ?_; rintro _ w5 ⟨rfl, E7⟩; have hs4 := E7.size
      refine Wo rfl (opv_not rfl) ?_; refine Wo_split rfl (opv_move (v := .bool _) rfl) (fun h3 => ?_) (fun h3 => ?_); refine Wo_skip rfl ?_; refine Wo_skip rfl ?_; refine Wo rfl (opv_pick_t (v := .bool _) rfl rfl) ?_; refine Wo_nil ?_
      refine W_cond_true rfl ?_; refine W_seq ?_; refine W_region rfl ?_; refine Wo_lit0 (XSl 3 XInt) rfl el50 Try.sizeOf23 ?_; rintro b3 w6 hb3 b3lt E8 hO2; have hs5 := E8.size; refine Wo rfl (opv_assign (v := .slice _ _ _) rfl) ?_
      refine Wo rfl (opv_assign (v := .bool _) rfl) ?_; refine Wo_nil ?_; refine W_ret ?_; refine at_ret (v := .tuple #[.slice _ _ _, .bool _]) rfl ?_; exact ⟨_, rfl, ((E4.trans E7).trans E8), hO2.toB.o.mono (by omega)⟩; contradiction

end Go.Proofs.Ytlalfmialbolhaa
