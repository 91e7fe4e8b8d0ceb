/- Lemmas for FnStreamDrawn. -/
import Derived.Test.YtlalfmialbolhaaMFnStreamDrawn2
import Derived.Test.YtlalfmialbolhaaProg
import Derived.Laws.Shifts
namespace Go.Proofs.Ytlalfmialbolhaa
open Go.Hs
set_option maxRecDepth 10000
set_option maxHeartbeats 4000000
set_option linter.unusedVariables false
set_option linter.unusedSimpArgs false
def someV (l : List Int) (k : Nat) : Int := if (1 : Int) ∈ l.take k then 1 else 0
theorem someV_succ {l : List Int} (hb : ∀ k, l.getD k 0 = 0 ∨ l.getD k 0 = 1) {k : Nat} (hk : k < l.length) : max (someV l k) (l.getD k 0) = someV l (k + 1) := by
  unfold someV
  rw [take_snoc _ _ hk, getD_lt hk]
  have := hb k
  rw [getD_lt hk] at this
  by_cases h1 : (1 : Int) ∈ l.take k
  · rw [if_pos h1, if_pos (List.mem_append_left _ h1)]
    omega
  · rw [if_neg h1]
    rcases this with h | h
    · rw [h, if_neg (by simp [h1])]; omega
    · rw [h, if_pos (by simp)]; omega
def rowsV (X Y : List Int) (k : Nat) : List (List Int) := (List.range k).map fun i => sdRow X Y i (sdM X Y)
theorem rowsV_len {X Y : List Int} {k : Nat} : (rowsV X Y k).length = k := by simp [rowsV]
theorem rowsV_succ {X Y : List Int} {k : Nat} : rowsV X Y (k + 1) = rowsV X Y k ++ [sdRow X Y k (sdM X Y)] := by unfold rowsV; rw [List.range_succ]; simp
theorem rowsV_end1 {X Y : List Int} (h : (1 : Int) ∈ X ++ Y) : rowsV X Y (X.length + Y.length) ++ [List.replicate (sdM X Y) 0] = sdP X Y := by
  have hM : sdM X Y = X.length + Y.length + 1 := by unfold sdM; rw [if_pos h]
  unfold sdP rowsV
  rw [hM, List.range_succ, List.map_append]
  congr 1
  · exact List.map_congr_left fun i hi => by rw [if_pos (List.mem_range.1 hi)]
  · simp
theorem rowsV_end0 {X Y : List Int} (h : ¬ (1 : Int) ∈ X ++ Y) : rowsV X Y (X.length + Y.length) = sdP X Y := by
  have hM : sdM X Y = X.length + Y.length := by unfold sdM; rw [if_neg h]; rfl
  unfold sdP rowsV
  rw [hM]
  exact List.map_congr_left fun i hi => by rw [if_pos (List.mem_range.1 hi)]
theorem rowsV_A {X Y : List Int} {k m nx : Nat} (hm : m = sdM X Y) (hn : nx = sdNext X Y k) (hb : (X ++ Y).getD k 0 ≠ 1) : rowsV X Y k ++ [(List.replicate m (0 : Int)).set nx 1] = rowsV X Y (k + 1) := by
  subst hm hn
  rw [row0 hb, rowsV_succ]
theorem rowsV_B {X Y : List Int} {k m nx n : Nat} (hm : m = sdM X Y) (hn : nx = sdNext X Y k) (hl : n = X.length + Y.length) (hb : (X ++ Y).getD k 0 = 1) : rowsV X Y k ++ [((List.replicate m (0 : Int)).set nx 1).set n 1] = rowsV X Y (k + 1) := by
  subst hm hn hl
  rw [row1 hb, rowsV_succ]
theorem noone {l : List Int} (h : ¬ (1 : Int) ∈ l) (k : Nat) : ¬ l.getD k 0 = 1 := by
  by_cases hk : k < l.length
  · rw [getD_lt hk]
    intro e; exact h (e ▸ List.getElem_mem hk)
  · rw [List.getD_eq_getElem?_getD, List.getElem?_eq_none (by omega)]; simp

theorem spec_StreamDrawn_ok (w : World) (u1 u2 : Value) (A B : List Int) (h1 : Ints w u1 A) (h2 : Ints w u2 B) (hA : A.length ≤ 4000000) (hB : B.length ≤ 4000000) : Does Try.prog 40 [.agg #[u1, u2]] w (RetOB w XR (sdV A B).1 (sdV A B).2) := by
  have hok : ∀ (x : Bool), decide (Stm A B) = x → ∀ (w : World) (u1 u2 : Value), Ints w u1 A → Ints w u2 B → Does Try.prog 16 [.agg #[u1, u2]] w (Ret w (.bool x)) := fun x e w u1 u2 h1 h2 => e ▸ StreamOk_ok w u1 u2 A B h1 h2 hA hB
  have k2 : ∀ (w : World) (u1 u2 : Value), Ints w u1 A → Ints w u2 B → Does Try.prog 53 [.agg #[u1, u2]] w (RetS2 w 3 (shV A B).1 (shV A B).2) := fun w u1 u2 h1 h2 => spec_ShortOf_ok w u1 u2 A B h1 h2 hA hB
  by_cases hs : Stm A B
  · have k1 := hok true (decide_eq_true hs)
    have hsl := hs.2.2
    rw [show shV A B = (shL (bat A B), shR (bat A B)) from if_pos hs] at k2
    have hst := hs.short_stm
    have hsb := hs.short_bat
    have eV : sdV A B = if (shL (bat A B)).length + (shR (bat A B)).length ≤ 4 then (sdP (shL (bat A B)) (shR (bat A B)), true) else ([], false) := by
      unfold sdV
      by_cases h4 : (shL (bat A B)).length + (shR (bat A B)).length ≤ 4
      · rw [if_pos ⟨hs, h4⟩, if_pos h4]
      · rw [if_neg (fun h => h4 h.2), if_neg h4]
    rw [eV]
    clear eV hok hs hsb
    simp only at k2
    generalize shL (bat A B) = X at *
    generalize shR (bat A B) = Y at *
    have hXY := hst.2.2
    have litown : True := trivial
    have hb : ∀ (k : Nat), k < X.length + Y.length → ∀ (w : World) (u1 u2 : Value), Ints w u1 X → Ints w u2 Y → Does Try.prog 57 [.agg #[u1, u2], .int .i64 (k : Int)] w (Ret w (.int .i64 ((X ++ Y).getD k 0))) := fun k hk w u1 u2 h1 h2 => by
      have := spec_BitAt_ok w u1 u2 _ _ h1 h2 (by omega) (by omega) (k : Int)
      rw [show batV X Y (k : Int) = (X ++ Y).getD k 0 by
        unfold batV
        rw [if_pos ⟨hst, by omega, by omega⟩, Int.toNat_natCast, ← sdN_bit (A := X) (B := Y) hst.2.2.1 k]
        congr 1
        unfold sdN
        split
        · rfl
        · rw [Nat.mod_eq_of_lt (by omega)]; omega] at this
      exact this
    have hbits : ∀ k, (X ++ Y).getD k 0 = 0 ∨ (X ++ Y).getD k 0 = 1 := fun k => by
      by_cases hk : k < (X ++ Y).length
      · rw [getD_lt hk]
        rcases List.mem_append.1 (List.getElem_mem hk) with h | h
        · exact hst.1 _ h
        · exact hst.2.1 _ h
      · left
        rw [List.getD_eq_getElem?_getD, List.getElem?_eq_none (by omega)]; rfl
    refine fn_of_W2 Try.func40 rfl Try.results40 Try.ntmps40 rfl ?_
    by_cases h4 : X.length + Y.length ≤ 4
    · rw [if_pos h4]
      focus
        refine W_seq ?_; refine W_region rfl ?_; refine Wo_box rfl rfl rfl ?_; rintro b1 w1 hb1 E1 hB1; have hlb1 := hB1.lt; have hs1 := E1.size; refine Wo rfl (opv_assign (v := .slice _ _ _) rfl) ?_
        refine Wo rfl (opv_assign (v := .bool _) rfl) ?_; refine Wo_nil ?_; refine W_seq ?_; refine W_region rfl ?_; refine Wo (v := .agg _) rfl (opv_load2 Try.isAgg25 Try.sizeOf25 rfl hB1) ?_
        refine Wo_call rfl (opc1 (a := .agg _) Try.call53 rfl) (k2 _ _ _ ((Mono.mono E1 h1)) ((Mono.mono E1 h2))) ?_; rintro _ w2 ⟨u3, q1, rfl, E2, hO1, hQ1, hd1⟩; have icu3 := OwnedB.isC (Owned.toB hO1)
        have cpu3 := OwnedB.capOk (Owned.toB hO1); have icq1 := OwnedB.isC (Owned.toB hQ1); have cpq1 := OwnedB.capOk (Owned.toB hQ1); have hs2 := E2.size; refine Wo_alloc2 rfl flat25 ?_; rintro b2 w3 hb2 E3 hB2; have hlb2 := hB2.lt
        have hs3 := E3.size; refine Wo_st2 rfl Try.sizeOf25 rfl rfl (by first | rfl | assumption) (by first | rfl | assumption) hB2 (by omega) ((E1.trans E2).trans E3) ?_; rintro w4 E4 hB2 K1 hz1
        have E5 := (E2.trans E3).wroteAt ((E1.trans E2).trans E3) E4 K1 hz1 (by omega); have szE5 := E5.size; have E6 := E3.wroteAt ((E1.trans E2).trans E3) E4 K1 hz1 (by omega); have szE6 := E6.size
        have hB1 := (hB1.ext (E2.trans E3)).of_heap (K1 _ (by omega)); have hO1 := (hO1.toB.ext E3).wrote K1 (by omega); have hQ1 := (hQ1.toB.ext E3).wrote K1 (by omega); refine Wo_nil ?_; refine W_seq ?_; refine W_region rfl ?_
        refine Wo rfl (opv_fieldAddr Try.underlying25 rfl rfl Try.sizeOf23 rfl) ?_; refine Wo (v := u3) rfl (opv_load Try.isAgg23 rfl (hB2.cell rfl)) ?_; refine Wo rfl (opv_len Try.underlying23 rfl (OwnedB.read hO1)) ?_
        refine Wo rfl (opv_fieldAddr Try.underlying25 rfl rfl Try.sizeOf23 rfl) ?_; refine Wo (v := q1) rfl (opv_load Try.isAgg23 rfl (hB2.cell rfl)) ?_; refine Wo rfl (opv_len Try.underlying23 rfl (OwnedB.read hQ1)) ?_
        refine Wo rfl (opv_add rfl rfl (by omega)) ?_; refine Wo rfl (opv_assign (v := .int _ _) rfl) ?_; refine Wo_nil ?_; refine W_seq ?_; refine W_seq ?_; refine W_region rfl ?_
        refine Wo (v := .agg _) rfl (opv_load2 Try.isAgg25 Try.sizeOf25 rfl hB1) ?_; refine Wo_call rfl (opc1 (a := .agg _) Try.call16 rfl) (k1 _ _ _ ((Mono.mono E4 h1)) ((Mono.mono E4 h2))) ?_; rintro _ w5 ⟨rfl, E7⟩; have hs4 := E7.size
        refine Wo rfl (opv_not rfl) ?_; refine Wo_split rfl (opv_move (v := .bool _) rfl) (fun h3 => ?_) (fun h3 => ?_); contradiction; refine Wo rfl (opv_move (v := .int _ _) rfl) ?_; refine Wo rfl (opv_gtr rfl rfl) ?_
        refine Wo rfl (opv_pick_f (v := .bool _) rfl rfl) ?_; refine Wo_nil ?_; refine W_cond_dec rfl (fun h5 => ?_) (fun h5 => ?_); (exfalso; omega); refine W_skip ?_; refine W_seq ?_; refine W_region rfl ?_
        refine Wo rfl (opv_assign (v := .int _ _) rfl) ?_; refine Wo_nil ?_; refine W_seq ?_; refine W_seq ?_; refine W_region rfl ?_; refine Wo rfl (opv_assign (v := .int _ _) rfl) ?_; refine Wo_nil ?_; refine W_block ?_
      refine W_loop [6, 7, 29, 30, 31, 32, 33, 34, 35, 36, 37, 38] (fun (k : Nat) => [(7, .int .i64 (k : Int)), (6, .int .i64 (someV (X ++ Y) k))]) (fun k w' => Ext w5 w' ∧ k ≤ X.length + Y.length) (fun x => X.length + Y.length - x) 0 (by repeat (first | exact trivial | refine And.intro rfl ?_)) ?_ ?_
      · exact ⟨Ext.refl _, Nat.zero_le _⟩
      rintro k ρj w6 ⟨E5', hk⟩
      by_cases hkn : k < X.length + Y.length
      · have hb' := hb k hkn
        focus
          have szE5' := E5'.size; have szE7 := E7.size; have szE6 := E6.size; have szE5 := E5.size; have szE4 := E4.size; have szE3 := E3.size; have szE2 := E2.size; have szE1 := E1.size; refine W_seq ?_; refine W_seq ?_
          refine W_region rfl ?_; refine Wo rfl (opv_move (v := .int _ _) rfl) ?_; refine Wo rfl (opv_move (v := .int _ _) rfl) ?_; refine Wo rfl (opv_lss rfl rfl) ?_; refine Wo_nil ?_; refine W_cond_dec rfl (fun h6 => ?_) (fun h6 => ?_)
          refine W_skip ?_; refine W_seq ?_; refine W_block ?_; refine W_region rfl ?_; refine Wo rfl (opv_move (v := .int _ _) rfl) ?_; refine Wo (v := .agg _) rfl (opv_load2 Try.isAgg25 Try.sizeOf25 rfl (hB2.ext (E7.trans E5'))) ?_
          refine Wo rfl (opv_move (v := .int _ _) rfl) ?_; refine Wo_call rfl (opc2 (a := .agg _) (b := .int _ _) Try.call57 rfl rfl) (hb' _ _ _ ((Mono.mono (E7.trans E5') (OwnedB.read hO1))) ((Mono.mono (E7.trans E5') (OwnedB.read hQ1)))) ?_
          rintro _ w7 ⟨rfl, E8⟩; have hs5 := E8.size; refine Wo rfl (opv_max rfl rfl) ?_; refine Wo rfl (opv_assign (v := .int _ _) rfl) ?_; refine Wo_nil ?_; refine W_region rfl ?_; refine Wo rfl (opv_move (v := .int _ _) rfl) ?_
          refine Wo rfl (opv_add rfl rfl (by omega)) ?_; refine Wo rfl (opv_assign (v := .int _ _) rfl) ?_; refine Wo_nil ?_; rotate_left; (exfalso; omega)
        refine ⟨k + 1, ⟨rfl, congrArg (Value.int .i64) (someV_succ hbits (by simpa using hkn)), trivial⟩, by repeat (first | with_reducible exact Same.refl | refine Same.upd rfl ?_ | refine Same.upds rfl ?_ | refine Same.mix rfl ?_), ⟨E5'.trans (by assumption), by omega⟩, by omega⟩
      · obtain rfl : k = X.length + Y.length := by omega
        by_cases h11 : (1 : Int) ∈ X ++ Y
        · have hM : sdM X Y = X.length + Y.length + 1 := by unfold sdM; rw [if_pos h11]
          have hs1 : someV (X ++ Y) (X.length + Y.length) = 1 := by unfold someV; rw [List.take_of_length_le (by simp), if_pos h11]
          focus
            have szE5' := E5'.size; have szE7 := E7.size; have szE6 := E6.size; have szE5 := E5.size; have szE4 := E4.size; have szE3 := E3.size; have szE2 := E2.size; have szE1 := E1.size; refine W_seq ?_; refine W_seq ?_
            refine W_region rfl ?_; refine Wo rfl (opv_move (v := .int _ _) rfl) ?_; refine Wo rfl (opv_move (v := .int _ _) rfl) ?_; refine Wo rfl (opv_lss rfl rfl) ?_; refine Wo_nil ?_; refine W_cond_dec rfl (fun h6 => ?_) (fun h6 => ?_)
            (exfalso; omega); refine W_exit ?_; refine exitX_same ?_; refine W_seq ?_; refine W_region rfl ?_; refine Wo_lit0 (XSl 3 XInt) rfl el50 Try.sizeOf23 ?_; rintro b3 w7 hb3 b3lt E8 hO2; have hs5 := E8.size
            refine Wo rfl (opv_assign (v := .slice _ _ _) rfl) ?_; refine Wo_nil ?_; refine W_seq ?_; refine W_seq ?_; refine W_region rfl ?_; refine Wo rfl (opv_assign (v := .int _ _) rfl) ?_; refine Wo_nil ?_; refine W_block ?_
          refine W_loop [8, 9, 10, 11, 40, 41, 42, 43, 44, 45, 46, 47, 48, 49, 50, 51, 52, 53, 54, 55, 56, 57, 58, 59, 60, 61, 62, 63, 64, 65, 66, 67, 68, 69, 70] (fun ((k, u) : Nat × Value) => [(9, .int .i64 (k : Int)), (8, u)]) (fun (k, u) w' => Ext w6 w' ∧ k ≤ X.length + Y.length ∧ Owned w6.heap.size XR w' u (rowsV X Y k)) (fun x => X.length + Y.length - x.1) (0, .slice (some ⟨b3, 0, none⟩) 0 0) (by repeat (first | exact trivial | refine And.intro rfl ?_)) ?_ ?_
          · exact ⟨by assumption, Nat.zero_le _, hO2⟩
          clear hO2
          rintro ⟨k, u⟩ ρk w8 ⟨E7', hk, hO3⟩
          have hrl := rowsV_len (X := X) (Y := Y) (k := k)
          by_cases hkn : k < X.length + Y.length
          · have hb' := hb k hkn
            focus
              have szE7' := E7'.size; have szE8 := E8.size; have szE5' := E5'.size; have szE7 := E7.size; have szE6 := E6.size; have szE5 := E5.size; have szE4 := E4.size; have szE3 := E3.size; have szE2 := E2.size; have szE1 := E1.size
              refine W_seq ?_; refine W_seq ?_; refine W_region rfl ?_; refine Wo rfl (opv_move (v := .int _ _) rfl) ?_; refine Wo rfl (opv_move (v := .int _ _) rfl) ?_; refine Wo rfl (opv_lss rfl rfl) ?_; refine Wo_nil ?_
              refine W_cond_dec rfl (fun h7 => ?_) (fun h7 => ?_); refine W_skip ?_; refine W_seq ?_; refine W_block ?_; refine W_seq ?_; refine W_region rfl ?_; refine Wo rfl (opv_move (v := .int _ _) rfl) ?_
              refine Wo rfl (opv_move (v := .int _ _) rfl) ?_; refine Wo rfl (opv_add rfl rfl (by omega)) ?_; refine Wo_makeI rfl el23 (int_z (by omega) rfl) (by omega) ?_; rintro b4 w9 hb4 b4lt E9 hO2; have hs6 := E9.size
              refine Wo rfl (opv_assign (v := .slice _ _ _) rfl) ?_; refine Wo_nil ?_; refine W_seq ?_; refine W_region rfl ?_; refine Wo rfl (opv_move (v := .int _ _) rfl) ?_; refine Wo rfl (opv_add rfl rfl (by omega)) ?_
              refine Wo rfl (opv_assign (v := .int _ _) rfl) ?_; refine Wo_nil ?_; refine W_seq ?_; refine W_seq ?_; refine W_region rfl ?_; refine Wo rfl (opv_move (v := .int _ _) rfl) ?_; refine Wo rfl (opv_move (v := .int _ _) rfl) ?_
              refine Wo rfl (opv_eql rfl rfl) ?_; refine Wo_nil ?_; refine W_cond_dec rfl (fun h8 => ?_) (fun h8 => ?_); refine W_region rfl ?_; refine Wo rfl (opv_fieldAddr Try.underlying25 rfl rfl Try.sizeOf23 rfl) ?_
              refine Wo (v := u3) rfl (opv_load Try.isAgg23 rfl ((hB2.ext (((E7.trans E5').trans E7').trans E9)).cell rfl)) ?_; refine Wo rfl (opv_len Try.underlying23 rfl (OwnedB.read hO1)) ?_; refine Wo rfl (opv_assign (v := .int _ _) rfl) ?_
              refine Wo_nil ?_; refine W_seq ?_; refine W_region rfl ?_; refine Wo rfl (opv_move (v := .slice _ _ _) rfl) ?_; refine Wo rfl (opv_move (v := .int _ _) rfl) ?_
              refine Wo rfl (opv_indexAddr Try.underlying23 Try.sizeOf3 rfl rfl (by omega)) ?_; refine Wo_set rfl Try.sizeOf3 rfl rfl hO2.toB (by first | omega | (simp <;> omega)) Owned.int (Nat.le_refl _) (by omega) ?_; rintro w10 hO2 On1 K2 hz2
              have E10 := On1.ext1 ((((E4.trans E7).trans E5').trans E7').trans E9) (by omega); have E11 := On1.ext1 ((((E5.trans E7).trans E5').trans E7').trans E9) (by omega); have szE11 := E11.size
              have E12 := On1.ext1 ((((E6.trans E7).trans E5').trans E7').trans E9) (by omega); have szE12 := E12.size; have E13 := On1.ext1 (((E7.trans E5').trans E7').trans E9) (by omega); have szE13 := E13.size
              have E14 := On1.ext1 ((E5'.trans E7').trans E9) (by omega); have szE14 := E14.size; have E15 := On1.ext1 (E7'.trans E9) (by omega); have szE15 := E15.size; have E16 := On1.ext1 E9 (by omega); have szE16 := E16.size
              have hB2 := (hB2.ext (((E7.trans E5').trans E7').trans E9)).of_heap (K2 _ (by omega)); have hB1 := (hB1.ext (((E7.trans E5').trans E7').trans E9)).of_heap (K2 _ (by omega))
              have hO1 := (hO1.ext (((E7.trans E5').trans E7').trans E9)).wrote K2 (by omega); have hQ1 := (hQ1.ext (((E7.trans E5').trans E7').trans E9)).wrote K2 (by omega); have hO3 := (hO3.toB.ext E9).wrote K2 (by omega); have hs7 := On1.size
              refine Wo_nil ?_; refine W_seq ?_; refine W_seq ?_; refine W_region rfl ?_; refine Wo (v := .agg _) rfl (opv_load2 Try.isAgg25 Try.sizeOf25 rfl hB2) ?_; refine Wo rfl (opv_move (v := .int _ _) rfl) ?_
              refine Wo_call rfl (opc2 (a := .agg _) (b := .int _ _) Try.call57 rfl rfl) (hb' _ _ _ ((OwnedB.read hO1)) ((OwnedB.read hQ1))) ?_; rintro _ w11 ⟨rfl, E17⟩; have hs8 := E17.size; refine Wo rfl (opv_eql rfl rfl) ?_; refine Wo_nil ?_
              refine W_cond_dec rfl (fun h9 => ?_) (fun h9 => ?_); refine W_region rfl ?_; refine Wo rfl (opv_move (v := .slice _ _ _) rfl) ?_; refine Wo rfl (opv_move (v := .int _ _) rfl) ?_
              refine Wo rfl (opv_indexAddr Try.underlying23 Try.sizeOf3 rfl rfl (by omega)) ?_; refine Wo_set rfl Try.sizeOf3 rfl rfl (hO2.toB.ext E17) (by first | omega | (simp <;> omega)) Owned.int (Nat.le_refl _) (by omega) ?_
              rintro w12 hO2 On2 K3 hz3; have E18 := On2.ext1 (E10.trans E17) (by omega); have E19 := On2.ext1 (E11.trans E17) (by omega); have szE19 := E19.size; have E20 := On2.ext1 (E12.trans E17) (by omega); have szE20 := E20.size
              have E21 := On2.ext1 (E13.trans E17) (by omega); have szE21 := E21.size; have E22 := On2.ext1 (E14.trans E17) (by omega); have szE22 := E22.size; have E23 := On2.ext1 (E15.trans E17) (by omega); have szE23 := E23.size
              have E24 := On2.ext1 (E16.trans E17) (by omega); have szE24 := E24.size; have hB2 := (hB2.ext E17).of_heap (K3 _ (by omega)); have hB1 := (hB1.ext E17).of_heap (K3 _ (by omega)); have hO1 := (hO1.ext E17).wrote K3 (by omega)
              have hQ1 := (hQ1.ext E17).wrote K3 (by omega); have hO3 := (hO3.ext E17).wrote K3 (by omega); have hs9 := On2.size; refine Wo_nil ?_; refine W_region rfl ?_; refine Wo rfl (opv_move (v := u) rfl) ?_
              refine Wo rfl (opv_move (v := .slice _ _ _) rfl) ?_; refine Wo_buildSlice (ps := [(0, .slice _ _ _)]) (cs := [_]) rfl Try.underlying50 Try.sizeOf23 Try.zeroValue23 rfl rfl rfl rfl ?_; rintro b5 w13 hb5 E25 hB3; have hlb5 := hB3.lt
              have hs10 := E25.size; refine Wo_app1 rfl el50 rfl rfl hB3 (hO3.ext E25) (hO2.toB.ext E25).o (by omega) (by first | omega | (simp <;> omega)) (by omega) (by omega) (E18.trans E25) (by omega) ?_; have hT1 := (hO3.ext E25)
              rintro v1 w14 hO3 E26 M1; have E27 := M1.ext hT1 (E19.trans E25) (by omega); have szE27 := E27.size; have E28 := M1.ext hT1 (E20.trans E25) (by omega); have szE28 := E28.size; have E29 := M1.ext hT1 (E21.trans E25) (by omega)
              have szE29 := E29.size; have E30 := M1.ext hT1 (E22.trans E25) (by omega); have szE30 := E30.size; have E31 := M1.ext hT1 (E23.trans E25) (by omega); have szE31 := E31.size; have hO2 := (hO2.toB.ext E25).moves M1 hT1 (by omega)
              have hB2 := (hB2.ext E25).moves M1 hT1 (by omega); have hB1 := (hB1.ext E25).moves M1 hT1 (by omega); have hO1 := (hO1.ext E25).moves M1 hT1 (by omega); have hQ1 := (hQ1.ext E25).moves M1 hT1 (by omega)
              have hB3 := hB3.moves M1 hT1 (by omega); have hs11 := E26.size; have szM1 := M1.1.size; have icv1 := OwnedB.isC (Owned.toB hO3); refine Wo rfl (opv_assign (v := v1) rfl) ?_; refine Wo_nil ?_; refine W_region rfl ?_
              refine Wo rfl (opv_move (v := .int _ _) rfl) ?_; refine Wo rfl (opv_add rfl rfl (by omega)) ?_; refine Wo rfl (opv_assign (v := .int _ _) rfl) ?_; refine Wo_nil ?_; rotate_left; refine W_skip ?_; refine W_region rfl ?_
              refine Wo rfl (opv_move (v := u) rfl) ?_; refine Wo rfl (opv_move (v := .slice _ _ _) rfl) ?_; refine Wo_buildSlice (ps := [(0, .slice _ _ _)]) (cs := [_]) rfl Try.underlying50 Try.sizeOf23 Try.zeroValue23 rfl rfl rfl rfl ?_
              rintro b5 w12 hb5 E18 hB3; have hlb5 := hB3.lt; have hs9 := E18.size
              refine Wo_app1 rfl el50 rfl rfl hB3 (hO3.ext (E17.trans E18)) (hO2.toB.ext (E17.trans E18)).o (by omega) (by first | omega | (simp <;> omega)) (by omega) (by omega) ((E10.trans E17).trans E18) (by omega) ?_
              have hT1 := (hO3.ext (E17.trans E18)); rintro v1 w13 hO3 E19 M1; have E20 := M1.ext hT1 ((E11.trans E17).trans E18) (by omega); have szE20 := E20.size; have E21 := M1.ext hT1 ((E12.trans E17).trans E18) (by omega)
              have szE21 := E21.size; have E22 := M1.ext hT1 ((E13.trans E17).trans E18) (by omega); have szE22 := E22.size; have E23 := M1.ext hT1 ((E14.trans E17).trans E18) (by omega); have szE23 := E23.size
              have E24 := M1.ext hT1 ((E15.trans E17).trans E18) (by omega); have szE24 := E24.size; have hO2 := (hO2.toB.ext (E17.trans E18)).moves M1 hT1 (by omega); have hB2 := (hB2.ext (E17.trans E18)).moves M1 hT1 (by omega)
              have hB1 := (hB1.ext (E17.trans E18)).moves M1 hT1 (by omega); have hO1 := (hO1.ext (E17.trans E18)).moves M1 hT1 (by omega); have hQ1 := (hQ1.ext (E17.trans E18)).moves M1 hT1 (by omega); have hB3 := hB3.moves M1 hT1 (by omega)
              have hs10 := E19.size; have szM1 := M1.1.size; have icv1 := OwnedB.isC (Owned.toB hO3); refine Wo rfl (opv_assign (v := v1) rfl) ?_; refine Wo_nil ?_; refine W_region rfl ?_; refine Wo rfl (opv_move (v := .int _ _) rfl) ?_
              refine Wo rfl (opv_add rfl rfl (by omega)) ?_; refine Wo rfl (opv_assign (v := .int _ _) rfl) ?_; refine Wo_nil ?_; rotate_left; refine W_skip ?_; refine W_seq ?_; refine W_region rfl ?_
              refine Wo rfl (opv_move (v := .slice _ _ _) rfl) ?_; refine Wo rfl (opv_move (v := .int _ _) rfl) ?_; refine Wo rfl (opv_indexAddr_z Try.underlying23 Try.sizeOf3 rfl rfl (by omega)) ?_
              refine Wo_set rfl Try.sizeOf3 rfl rfl hO2.toB (by first | omega | (simp <;> omega)) Owned.int (Nat.le_refl _) (by omega) ?_; rintro w10 hO2 On1 K2 hz2; have E10 := On1.ext1 ((((E4.trans E7).trans E5').trans E7').trans E9) (by omega)
              have E11 := On1.ext1 ((((E5.trans E7).trans E5').trans E7').trans E9) (by omega); have szE11 := E11.size; have E12 := On1.ext1 ((((E6.trans E7).trans E5').trans E7').trans E9) (by omega); have szE12 := E12.size
              have E13 := On1.ext1 (((E7.trans E5').trans E7').trans E9) (by omega); have szE13 := E13.size; have E14 := On1.ext1 ((E5'.trans E7').trans E9) (by omega); have szE14 := E14.size; have E15 := On1.ext1 (E7'.trans E9) (by omega)
              have szE15 := E15.size; have E16 := On1.ext1 E9 (by omega); have szE16 := E16.size; have hB2 := (hB2.ext (((E7.trans E5').trans E7').trans E9)).of_heap (K2 _ (by omega))
              have hB1 := (hB1.ext (((E7.trans E5').trans E7').trans E9)).of_heap (K2 _ (by omega)); have hO1 := (hO1.ext (((E7.trans E5').trans E7').trans E9)).wrote K2 (by omega)
              have hQ1 := (hQ1.ext (((E7.trans E5').trans E7').trans E9)).wrote K2 (by omega); have hO3 := (hO3.toB.ext E9).wrote K2 (by omega); have hs7 := On1.size; refine Wo_nil ?_; refine W_seq ?_; refine W_seq ?_; refine W_region rfl ?_
              refine Wo (v := .agg _) rfl (opv_load2 Try.isAgg25 Try.sizeOf25 rfl hB2) ?_; refine Wo rfl (opv_move (v := .int _ _) rfl) ?_
              refine Wo_call rfl (opc2 (a := .agg _) (b := .int _ _) Try.call57 rfl rfl) (hb' _ _ _ ((OwnedB.read hO1)) ((OwnedB.read hQ1))) ?_; rintro _ w11 ⟨rfl, E17⟩; have hs8 := E17.size; refine Wo rfl (opv_eql rfl rfl) ?_; refine Wo_nil ?_
              refine W_cond_dec rfl (fun h9 => ?_) (fun h9 => ?_); refine W_region rfl ?_; refine Wo rfl (opv_move (v := .slice _ _ _) rfl) ?_; refine Wo rfl (opv_move (v := .int _ _) rfl) ?_
              refine Wo rfl (opv_indexAddr Try.underlying23 Try.sizeOf3 rfl rfl (by omega)) ?_; refine Wo_set rfl Try.sizeOf3 rfl rfl (hO2.toB.ext E17) (by first | omega | (simp <;> omega)) Owned.int (Nat.le_refl _) (by omega) ?_
              rintro w12 hO2 On2 K3 hz3; have E18 := On2.ext1 (E10.trans E17) (by omega); have E19 := On2.ext1 (E11.trans E17) (by omega); have szE19 := E19.size; have E20 := On2.ext1 (E12.trans E17) (by omega); have szE20 := E20.size
              have E21 := On2.ext1 (E13.trans E17) (by omega); have szE21 := E21.size; have E22 := On2.ext1 (E14.trans E17) (by omega); have szE22 := E22.size; have E23 := On2.ext1 (E15.trans E17) (by omega); have szE23 := E23.size
              have E24 := On2.ext1 (E16.trans E17) (by omega); have szE24 := E24.size; have hB2 := (hB2.ext E17).of_heap (K3 _ (by omega)); have hB1 := (hB1.ext E17).of_heap (K3 _ (by omega)); have hO1 := (hO1.ext E17).wrote K3 (by omega)
              have hQ1 := (hQ1.ext E17).wrote K3 (by omega); have hO3 := (hO3.ext E17).wrote K3 (by omega); have hs9 := On2.size; refine Wo_nil ?_; refine W_region rfl ?_; refine Wo rfl (opv_move (v := u) rfl) ?_
              refine Wo rfl (opv_move (v := .slice _ _ _) rfl) ?_; refine Wo_buildSlice (ps := [(0, .slice _ _ _)]) (cs := [_]) rfl Try.underlying50 Try.sizeOf23 Try.zeroValue23 rfl rfl rfl rfl ?_; rintro b5 w13 hb5 E25 hB3; have hlb5 := hB3.lt
              have hs10 := E25.size; refine Wo_app1 rfl el50 rfl rfl hB3 (hO3.ext E25) (hO2.toB.ext E25).o (by omega) (by first | omega | (simp <;> omega)) (by omega) (by omega) (E18.trans E25) (by omega) ?_; have hT1 := (hO3.ext E25)
              rintro v1 w14 hO3 E26 M1; have E27 := M1.ext hT1 (E19.trans E25) (by omega); have szE27 := E27.size; have E28 := M1.ext hT1 (E20.trans E25) (by omega); have szE28 := E28.size; have E29 := M1.ext hT1 (E21.trans E25) (by omega)
              have szE29 := E29.size; have E30 := M1.ext hT1 (E22.trans E25) (by omega); have szE30 := E30.size; have E31 := M1.ext hT1 (E23.trans E25) (by omega); have szE31 := E31.size; have hO2 := (hO2.toB.ext E25).moves M1 hT1 (by omega)
              have hB2 := (hB2.ext E25).moves M1 hT1 (by omega); have hB1 := (hB1.ext E25).moves M1 hT1 (by omega); have hO1 := (hO1.ext E25).moves M1 hT1 (by omega); have hQ1 := (hQ1.ext E25).moves M1 hT1 (by omega)
              have hB3 := hB3.moves M1 hT1 (by omega); have hs11 := E26.size; have szM1 := M1.1.size; have icv1 := OwnedB.isC (Owned.toB hO3); refine Wo rfl (opv_assign (v := v1) rfl) ?_; refine Wo_nil ?_; refine W_region rfl ?_
              refine Wo rfl (opv_move (v := .int _ _) rfl) ?_; refine Wo rfl (opv_add rfl rfl (by omega)) ?_; refine Wo rfl (opv_assign (v := .int _ _) rfl) ?_; refine Wo_nil ?_; rotate_left; refine W_skip ?_; refine W_region rfl ?_
              refine Wo rfl (opv_move (v := u) rfl) ?_; refine Wo rfl (opv_move (v := .slice _ _ _) rfl) ?_; refine Wo_buildSlice (ps := [(0, .slice _ _ _)]) (cs := [_]) rfl Try.underlying50 Try.sizeOf23 Try.zeroValue23 rfl rfl rfl rfl ?_
              rintro b5 w12 hb5 E18 hB3; have hlb5 := hB3.lt; have hs9 := E18.size
              refine Wo_app1 rfl el50 rfl rfl hB3 (hO3.ext (E17.trans E18)) (hO2.toB.ext (E17.trans E18)).o (by omega) (by first | omega | (simp <;> omega)) (by omega) (by omega) ((E10.trans E17).trans E18) (by omega) ?_
              have hT1 := (hO3.ext (E17.trans E18)); rintro v1 w13 hO3 E19 M1; have E20 := M1.ext hT1 ((E11.trans E17).trans E18) (by omega); have szE20 := E20.size; have E21 := M1.ext hT1 ((E12.trans E17).trans E18) (by omega)
              have szE21 := E21.size; have E22 := M1.ext hT1 ((E13.trans E17).trans E18) (by omega); have szE22 := E22.size; have E23 := M1.ext hT1 ((E14.trans E17).trans E18) (by omega); have szE23 := E23.size
              have E24 := M1.ext hT1 ((E15.trans E17).trans E18) (by omega); have szE24 := E24.size; have hO2 := (hO2.toB.ext (E17.trans E18)).moves M1 hT1 (by omega); have hB2 := (hB2.ext (E17.trans E18)).moves M1 hT1 (by omega)
              have hB1 := (hB1.ext (E17.trans E18)).moves M1 hT1 (by omega); have hO1 := (hO1.ext (E17.trans E18)).moves M1 hT1 (by omega); have hQ1 := (hQ1.ext (E17.trans E18)).moves M1 hT1 (by omega); have hB3 := hB3.moves M1 hT1 (by omega)
              have hs10 := E19.size; have szM1 := M1.1.size; have icv1 := OwnedB.isC (Owned.toB hO3); refine Wo rfl (opv_assign (v := v1) rfl) ?_; refine Wo_nil ?_; refine W_region rfl ?_; refine Wo rfl (opv_move (v := .int _ _) rfl) ?_
              refine Wo rfl (opv_add rfl rfl (by omega)) ?_; refine Wo rfl (opv_assign (v := .int _ _) rfl) ?_; refine Wo_nil ?_; rotate_left; (exfalso; omega)
            all_goals refine ⟨(k + 1, v1), by repeat (first | exact trivial | refine And.intro rfl ?_), by repeat (first | with_reducible exact Same.refl | refine Same.upd rfl ?_ | refine Same.upds rfl ?_ | refine Same.mix rfl ?_), ⟨by assumption, by omega, (congrArg (Owned _ _ _ _) ?_).mp hO3⟩, by simp only; omega⟩
            all_goals first
              | exact rowsV_B (by omega) (by unfold sdNext; split <;> omega) (by omega) (by omega)
              | exact rowsV_A (by omega) (by unfold sdNext; split <;> omega) (by omega)
          · obtain rfl : k = X.length + Y.length := by omega
            focus
              have szE7' := E7'.size; have szE8 := E8.size; have szE5' := E5'.size; have szE7 := E7.size; have szE6 := E6.size; have szE5 := E5.size; have szE4 := E4.size; have szE3 := E3.size; have szE2 := E2.size; have szE1 := E1.size
              refine W_seq ?_; refine W_seq ?_; refine W_region rfl ?_; refine Wo rfl (opv_move (v := .int _ _) rfl) ?_; refine Wo rfl (opv_move (v := .int _ _) rfl) ?_; refine Wo rfl (opv_lss rfl rfl) ?_; refine Wo_nil ?_
              refine W_cond_dec rfl (fun h7 => ?_) (fun h7 => ?_); contradiction; refine W_exit ?_; refine exitX_same ?_; refine W_seq ?_; refine W_seq ?_; refine W_region rfl ?_; refine Wo rfl (opv_move (v := .int _ _) rfl) ?_
              refine Wo rfl (opv_eql rfl rfl) ?_; refine Wo_nil ?_; refine W_cond_dec rfl (fun h8 => ?_) (fun h8 => ?_); refine W_region rfl ?_; refine Wo rfl (opv_move (v := u) rfl) ?_; refine Wo rfl (opv_move (v := .int _ _) rfl) ?_
              refine Wo rfl (opv_add rfl rfl (by omega)) ?_; refine Wo_makeI rfl el23 (int_z (by omega) rfl) (by omega) ?_; rintro b4 w9 hb4 b4lt E9 hO2; have hs6 := E9.size
              refine Wo_buildSlice (ps := [(0, .slice _ _ _)]) (cs := [_]) rfl Try.underlying50 Try.sizeOf23 Try.zeroValue23 rfl rfl rfl rfl ?_; rintro b5 w10 hb5 E10 hB3; have hlb5 := hB3.lt; have hs7 := E10.size
              refine Wo_app1 rfl el50 rfl rfl hB3 (hO3.toB.ext (E9.trans E10)) (hO2.toB.ext E10).o (by omega) (by first | omega | (simp <;> omega)) (by omega) (by omega) (((((E4.trans E7).trans E5').trans E7').trans E9).trans E10) (by omega) ?_
              have hT1 := (hO3.toB.ext (E9.trans E10)); rintro v1 w11 hO3 E11 M1; have E12 := M1.ext hT1 (((((E5.trans E7).trans E5').trans E7').trans E9).trans E10) (by omega); have szE12 := E12.size
              have E13 := M1.ext hT1 (((((E6.trans E7).trans E5').trans E7').trans E9).trans E10) (by omega); have szE13 := E13.size; have E14 := M1.ext hT1 ((((E7.trans E5').trans E7').trans E9).trans E10) (by omega); have szE14 := E14.size
              have E15 := M1.ext hT1 (((E5'.trans E7').trans E9).trans E10) (by omega); have szE15 := E15.size; have E16 := M1.ext hT1 ((E7'.trans E9).trans E10) (by omega); have szE16 := E16.size
              have hB2 := (hB2.ext ((((E7.trans E5').trans E7').trans E9).trans E10)).moves M1 hT1 (by omega); have hB1 := (hB1.ext ((((E7.trans E5').trans E7').trans E9).trans E10)).moves M1 hT1 (by omega)
              have hO1 := (hO1.ext ((((E7.trans E5').trans E7').trans E9).trans E10)).moves M1 hT1 (by omega); have hQ1 := (hQ1.ext ((((E7.trans E5').trans E7').trans E9).trans E10)).moves M1 hT1 (by omega)
              have hO2 := (hO2.toB.ext E10).moves M1 hT1 (by omega); have hB3 := hB3.moves M1 hT1 (by omega); have hs8 := E11.size; have szM1 := M1.1.size; have icv1 := OwnedB.isC (Owned.toB hO3); refine Wo rfl (opv_assign (v := v1) rfl) ?_
              refine Wo_nil ?_; refine W_seq ?_; refine W_region rfl ?_; refine Wo rfl (opv_move (v := v1) rfl) ?_; refine Wo rfl (opv_assign (v := v1) rfl) ?_; refine Wo rfl (opv_assign (v := .bool _) rfl) ?_; refine Wo_nil ?_; refine W_ret ?_
              refine at_ret (v := .tuple #[v1, .bool _]) rfl ?_; refine ⟨_, rfl, E11, ?_⟩; rotate_left; contradiction
            refine (congrArg (Owned _ _ _ _) ?_).mp (hO3.mono (by omega))
            show _ = sdP X Y
            rw [← rowsV_end1 h11, hM]
            congr 3
        · have hM : sdM X Y = X.length + Y.length + 0 := by unfold sdM; rw [if_neg h11]
          have hs1 : someV (X ++ Y) (X.length + Y.length) = 0 := by unfold someV; rw [List.take_of_length_le (by simp), if_neg h11]
          focus
            have szE5' := E5'.size; have szE7 := E7.size; have szE6 := E6.size; have szE5 := E5.size; have szE4 := E4.size; have szE3 := E3.size; have szE2 := E2.size; have szE1 := E1.size; refine W_seq ?_; refine W_seq ?_
            refine W_region rfl ?_; refine Wo rfl (opv_move (v := .int _ _) rfl) ?_; refine Wo rfl (opv_move (v := .int _ _) rfl) ?_; refine Wo rfl (opv_lss rfl rfl) ?_; refine Wo_nil ?_; refine W_cond_dec rfl (fun h6 => ?_) (fun h6 => ?_)
            (exfalso; omega); refine W_exit ?_; refine exitX_same ?_; refine W_seq ?_; refine W_region rfl ?_; refine Wo_lit0 (XSl 3 XInt) rfl el50 Try.sizeOf23 ?_; rintro b3 w7 hb3 b3lt E8 hO2; have hs5 := E8.size
            refine Wo rfl (opv_assign (v := .slice _ _ _) rfl) ?_; refine Wo_nil ?_; refine W_seq ?_; refine W_seq ?_; refine W_region rfl ?_; refine Wo rfl (opv_assign (v := .int _ _) rfl) ?_; refine Wo_nil ?_; refine W_block ?_
          refine W_loop [8, 9, 10, 11, 40, 41, 42, 43, 44, 45, 46, 47, 48, 49, 50, 51, 52, 53, 54, 55, 56, 57, 58, 59, 60, 61, 62, 63, 64, 65, 66, 67, 68, 69, 70] (fun ((k, u) : Nat × Value) => [(9, .int .i64 (k : Int)), (8, u)]) (fun (k, u) w' => Ext w6 w' ∧ k ≤ X.length + Y.length ∧ Owned w6.heap.size XR w' u (rowsV X Y k)) (fun x => X.length + Y.length - x.1) (0, .slice (some ⟨b3, 0, none⟩) 0 0) (by repeat (first | exact trivial | refine And.intro rfl ?_)) ?_ ?_
          · exact ⟨by assumption, Nat.zero_le _, hO2⟩
          clear hO2
          rintro ⟨k, u⟩ ρk w8 ⟨E7', hk, hO3⟩
          have hrl := rowsV_len (X := X) (Y := Y) (k := k)
          by_cases hkn : k < X.length + Y.length
          · have hb' := hb k hkn
            have hbn := noone h11 k
            focus
              have szE7' := E7'.size; have szE8 := E8.size; have szE5' := E5'.size; have szE7 := E7.size; have szE6 := E6.size; have szE5 := E5.size; have szE4 := E4.size; have szE3 := E3.size; have szE2 := E2.size; have szE1 := E1.size
              refine W_seq ?_; refine W_seq ?_; refine W_region rfl ?_; refine Wo rfl (opv_move (v := .int _ _) rfl) ?_; refine Wo rfl (opv_move (v := .int _ _) rfl) ?_; refine Wo rfl (opv_lss rfl rfl) ?_; refine Wo_nil ?_
              refine W_cond_dec rfl (fun h7 => ?_) (fun h7 => ?_); refine W_skip ?_; refine W_seq ?_; refine W_block ?_; refine W_seq ?_; refine W_region rfl ?_; refine Wo rfl (opv_move (v := .int _ _) rfl) ?_
              refine Wo rfl (opv_move (v := .int _ _) rfl) ?_; refine Wo rfl (opv_add rfl rfl (by omega)) ?_; refine Wo_makeI rfl el23 (int_z (by omega) rfl) (by omega) ?_; rintro b4 w9 hb4 b4lt E9 hO2; have hs6 := E9.size
              refine Wo rfl (opv_assign (v := .slice _ _ _) rfl) ?_; refine Wo_nil ?_; refine W_seq ?_; refine W_region rfl ?_; refine Wo rfl (opv_move (v := .int _ _) rfl) ?_; refine Wo rfl (opv_add rfl rfl (by omega)) ?_
              refine Wo rfl (opv_assign (v := .int _ _) rfl) ?_; refine Wo_nil ?_; refine W_seq ?_; refine W_seq ?_; refine W_region rfl ?_; refine Wo rfl (opv_move (v := .int _ _) rfl) ?_; refine Wo rfl (opv_move (v := .int _ _) rfl) ?_
              refine Wo rfl (opv_eql rfl rfl) ?_; refine Wo_nil ?_; refine W_cond_dec rfl (fun h8 => ?_) (fun h8 => ?_); refine W_region rfl ?_; refine Wo rfl (opv_fieldAddr Try.underlying25 rfl rfl Try.sizeOf23 rfl) ?_
              refine Wo (v := u3) rfl (opv_load Try.isAgg23 rfl ((hB2.ext (((E7.trans E5').trans E7').trans E9)).cell rfl)) ?_; refine Wo rfl (opv_len Try.underlying23 rfl (OwnedB.read hO1)) ?_; refine Wo rfl (opv_assign (v := .int _ _) rfl) ?_
              refine Wo_nil ?_; refine W_seq ?_; refine W_region rfl ?_; refine Wo rfl (opv_move (v := .slice _ _ _) rfl) ?_; refine Wo rfl (opv_move (v := .int _ _) rfl) ?_
              refine Wo rfl (opv_indexAddr Try.underlying23 Try.sizeOf3 rfl rfl (by omega)) ?_; refine Wo_set rfl Try.sizeOf3 rfl rfl hO2.toB (by first | omega | (simp <;> omega)) Owned.int (Nat.le_refl _) (by omega) ?_; rintro w10 hO2 On1 K2 hz2
              have E10 := On1.ext1 ((((E4.trans E7).trans E5').trans E7').trans E9) (by omega); have E11 := On1.ext1 ((((E5.trans E7).trans E5').trans E7').trans E9) (by omega); have szE11 := E11.size
              have E12 := On1.ext1 ((((E6.trans E7).trans E5').trans E7').trans E9) (by omega); have szE12 := E12.size; have E13 := On1.ext1 (((E7.trans E5').trans E7').trans E9) (by omega); have szE13 := E13.size
              have E14 := On1.ext1 ((E5'.trans E7').trans E9) (by omega); have szE14 := E14.size; have E15 := On1.ext1 (E7'.trans E9) (by omega); have szE15 := E15.size; have E16 := On1.ext1 E9 (by omega); have szE16 := E16.size
              have hB2 := (hB2.ext (((E7.trans E5').trans E7').trans E9)).of_heap (K2 _ (by omega)); have hB1 := (hB1.ext (((E7.trans E5').trans E7').trans E9)).of_heap (K2 _ (by omega))
              have hO1 := (hO1.ext (((E7.trans E5').trans E7').trans E9)).wrote K2 (by omega); have hQ1 := (hQ1.ext (((E7.trans E5').trans E7').trans E9)).wrote K2 (by omega); have hO3 := (hO3.toB.ext E9).wrote K2 (by omega); have hs7 := On1.size
              refine Wo_nil ?_; refine W_seq ?_; refine W_seq ?_; refine W_region rfl ?_; refine Wo (v := .agg _) rfl (opv_load2 Try.isAgg25 Try.sizeOf25 rfl hB2) ?_; refine Wo rfl (opv_move (v := .int _ _) rfl) ?_
              refine Wo_call rfl (opc2 (a := .agg _) (b := .int _ _) Try.call57 rfl rfl) (hb' _ _ _ ((OwnedB.read hO1)) ((OwnedB.read hQ1))) ?_; rintro _ w11 ⟨rfl, E17⟩; have hs8 := E17.size; refine Wo rfl (opv_eql rfl rfl) ?_; refine Wo_nil ?_
              refine W_cond_dec rfl (fun h9 => ?_) (fun h9 => ?_); contradiction; refine W_skip ?_; refine W_region rfl ?_; refine Wo rfl (opv_move (v := u) rfl) ?_; refine Wo rfl (opv_move (v := .slice _ _ _) rfl) ?_
              refine Wo_buildSlice (ps := [(0, .slice _ _ _)]) (cs := [_]) rfl Try.underlying50 Try.sizeOf23 Try.zeroValue23 rfl rfl rfl rfl ?_; rintro b5 w12 hb5 E18 hB3; have hlb5 := hB3.lt; have hs9 := E18.size
              refine Wo_app1 rfl el50 rfl rfl hB3 (hO3.ext (E17.trans E18)) (hO2.toB.ext (E17.trans E18)).o (by omega) (by first | omega | (simp <;> omega)) (by omega) (by omega) ((E10.trans E17).trans E18) (by omega) ?_
              have hT1 := (hO3.ext (E17.trans E18)); rintro v1 w13 hO3 E19 M1; have E20 := M1.ext hT1 ((E11.trans E17).trans E18) (by omega); have szE20 := E20.size; have E21 := M1.ext hT1 ((E12.trans E17).trans E18) (by omega)
              have szE21 := E21.size; have E22 := M1.ext hT1 ((E13.trans E17).trans E18) (by omega); have szE22 := E22.size; have E23 := M1.ext hT1 ((E14.trans E17).trans E18) (by omega); have szE23 := E23.size
              have E24 := M1.ext hT1 ((E15.trans E17).trans E18) (by omega); have szE24 := E24.size; have hO2 := (hO2.toB.ext (E17.trans E18)).moves M1 hT1 (by omega); have hB2 := (hB2.ext (E17.trans E18)).moves M1 hT1 (by omega)
              have hB1 := (hB1.ext (E17.trans E18)).moves M1 hT1 (by omega); have hO1 := (hO1.ext (E17.trans E18)).moves M1 hT1 (by omega); have hQ1 := (hQ1.ext (E17.trans E18)).moves M1 hT1 (by omega); have hB3 := hB3.moves M1 hT1 (by omega)
              have hs10 := E19.size; have szM1 := M1.1.size; have icv1 := OwnedB.isC (Owned.toB hO3); refine Wo rfl (opv_assign (v := v1) rfl) ?_; refine Wo_nil ?_; refine W_region rfl ?_; refine Wo rfl (opv_move (v := .int _ _) rfl) ?_
              refine Wo rfl (opv_add rfl rfl (by omega)) ?_; refine Wo rfl (opv_assign (v := .int _ _) rfl) ?_; refine Wo_nil ?_; rotate_left; refine W_skip ?_; refine W_seq ?_; refine W_region rfl ?_
              refine Wo rfl (opv_move (v := .slice _ _ _) rfl) ?_; refine Wo rfl (opv_move (v := .int _ _) rfl) ?_; refine Wo rfl (opv_indexAddr_z Try.underlying23 Try.sizeOf3 rfl rfl (by omega)) ?_
              refine Wo_set rfl Try.sizeOf3 rfl rfl hO2.toB (by first | omega | (simp <;> omega)) Owned.int (Nat.le_refl _) (by omega) ?_; rintro w10 hO2 On1 K2 hz2; have E10 := On1.ext1 ((((E4.trans E7).trans E5').trans E7').trans E9) (by omega)
              have E11 := On1.ext1 ((((E5.trans E7).trans E5').trans E7').trans E9) (by omega); have szE11 := E11.size; have E12 := On1.ext1 ((((E6.trans E7).trans E5').trans E7').trans E9) (by omega); have szE12 := E12.size
              have E13 := On1.ext1 (((E7.trans E5').trans E7').trans E9) (by omega); have szE13 := E13.size; have E14 := On1.ext1 ((E5'.trans E7').trans E9) (by omega); have szE14 := E14.size; have E15 := On1.ext1 (E7'.trans E9) (by omega)
              have szE15 := E15.size; have E16 := On1.ext1 E9 (by omega); have szE16 := E16.size; have hB2 := (hB2.ext (((E7.trans E5').trans E7').trans E9)).of_heap (K2 _ (by omega))
              have hB1 := (hB1.ext (((E7.trans E5').trans E7').trans E9)).of_heap (K2 _ (by omega)); have hO1 := (hO1.ext (((E7.trans E5').trans E7').trans E9)).wrote K2 (by omega)
              have hQ1 := (hQ1.ext (((E7.trans E5').trans E7').trans E9)).wrote K2 (by omega); have hO3 := (hO3.toB.ext E9).wrote K2 (by omega); have hs7 := On1.size; refine Wo_nil ?_; refine W_seq ?_; refine W_seq ?_; refine W_region rfl ?_
              refine Wo (v := .agg _) rfl (opv_load2 Try.isAgg25 Try.sizeOf25 rfl hB2) ?_; refine Wo rfl (opv_move (v := .int _ _) rfl) ?_
              refine Wo_call rfl (opc2 (a := .agg _) (b := .int _ _) Try.call57 rfl rfl) (hb' _ _ _ ((OwnedB.read hO1)) ((OwnedB.read hQ1))) ?_; rintro _ w11 ⟨rfl, E17⟩; have hs8 := E17.size; refine Wo rfl (opv_eql rfl rfl) ?_; refine Wo_nil ?_
              refine W_cond_dec rfl (fun h9 => ?_) (fun h9 => ?_); contradiction; refine W_skip ?_; refine W_region rfl ?_; refine Wo rfl (opv_move (v := u) rfl) ?_; refine Wo rfl (opv_move (v := .slice _ _ _) rfl) ?_
              refine Wo_buildSlice (ps := [(0, .slice _ _ _)]) (cs := [_]) rfl Try.underlying50 Try.sizeOf23 Try.zeroValue23 rfl rfl rfl rfl ?_; rintro b5 w12 hb5 E18 hB3; have hlb5 := hB3.lt; have hs9 := E18.size
              refine Wo_app1 rfl el50 rfl rfl hB3 (hO3.ext (E17.trans E18)) (hO2.toB.ext (E17.trans E18)).o (by omega) (by first | omega | (simp <;> omega)) (by omega) (by omega) ((E10.trans E17).trans E18) (by omega) ?_
              have hT1 := (hO3.ext (E17.trans E18)); rintro v1 w13 hO3 E19 M1; have E20 := M1.ext hT1 ((E11.trans E17).trans E18) (by omega); have szE20 := E20.size; have E21 := M1.ext hT1 ((E12.trans E17).trans E18) (by omega)
              have szE21 := E21.size; have E22 := M1.ext hT1 ((E13.trans E17).trans E18) (by omega); have szE22 := E22.size; have E23 := M1.ext hT1 ((E14.trans E17).trans E18) (by omega); have szE23 := E23.size
              have E24 := M1.ext hT1 ((E15.trans E17).trans E18) (by omega); have szE24 := E24.size; have hO2 := (hO2.toB.ext (E17.trans E18)).moves M1 hT1 (by omega); have hB2 := (hB2.ext (E17.trans E18)).moves M1 hT1 (by omega)
              have hB1 := (hB1.ext (E17.trans E18)).moves M1 hT1 (by omega); have hO1 := (hO1.ext (E17.trans E18)).moves M1 hT1 (by omega); have hQ1 := (hQ1.ext (E17.trans E18)).moves M1 hT1 (by omega); have hB3 := hB3.moves M1 hT1 (by omega)
              have hs10 := E19.size; have szM1 := M1.1.size; have icv1 := OwnedB.isC (Owned.toB hO3); refine Wo rfl (opv_assign (v := v1) rfl) ?_; refine Wo_nil ?_; refine W_region rfl ?_; refine Wo rfl (opv_move (v := .int _ _) rfl) ?_
              refine Wo rfl (opv_add rfl rfl (by omega)) ?_; refine Wo rfl (opv_assign (v := .int _ _) rfl) ?_; refine Wo_nil ?_; rotate_left; (exfalso; omega)
            all_goals refine ⟨(k + 1, v1), by repeat (first | exact trivial | refine And.intro rfl ?_), by repeat (first | with_reducible exact Same.refl | refine Same.upd rfl ?_ | refine Same.upds rfl ?_ | refine Same.mix rfl ?_), ⟨by assumption, by omega, (congrArg (Owned _ _ _ _) ?_).mp hO3⟩, by simp only; omega⟩
            all_goals first
              | exact rowsV_B (by omega) (by unfold sdNext; split <;> omega) (by omega) (by omega)
              | exact rowsV_A (by omega) (by unfold sdNext; split <;> omega) (by omega)
          · obtain rfl : k = X.length + Y.length := by omega
            focus
              have szE7' := E7'.size; have szE8 := E8.size; have szE5' := E5'.size; have szE7 := E7.size; have szE6 := E6.size; have szE5 := E5.size; have szE4 := E4.size; have szE3 := E3.size; have szE2 := E2.size; have szE1 := E1.size
              refine W_seq ?_; refine W_seq ?_; refine W_region rfl ?_; refine Wo rfl (opv_move (v := .int _ _) rfl) ?_; refine Wo rfl (opv_move (v := .int _ _) rfl) ?_; refine Wo rfl (opv_lss rfl rfl) ?_; refine Wo_nil ?_
              refine W_cond_dec rfl (fun h7 => ?_) (fun h7 => ?_); contradiction; refine W_exit ?_; refine exitX_same ?_; refine W_seq ?_; refine W_seq ?_; refine W_region rfl ?_; refine Wo rfl (opv_move (v := .int _ _) rfl) ?_
              refine Wo rfl (opv_eql rfl rfl) ?_; refine Wo_nil ?_; refine W_cond_dec rfl (fun h8 => ?_) (fun h8 => ?_); (exfalso; omega); refine W_skip ?_; refine W_seq ?_; refine W_region rfl ?_; refine Wo rfl (opv_move (v := u) rfl) ?_
              refine Wo rfl (opv_assign (v := u) rfl) ?_; refine Wo rfl (opv_assign (v := .bool _) rfl) ?_; refine Wo_nil ?_; refine W_ret ?_; refine at_ret (v := .tuple #[u, .bool _]) rfl ?_
              refine ⟨_, rfl, (((E4.trans E7).trans E5').trans E7'), ?_⟩
            refine (congrArg (Owned _ _ _ _) ?_).mp (hO3.mono (by omega))
            exact rowsV_end0 h11
    · rw [if_neg h4]
      focus
        refine W_seq ?_; refine W_region rfl ?_; refine Wo_box rfl rfl rfl ?_; rintro b1 w1 hb1 E1 hB1; have hlb1 := hB1.lt; have hs1 := E1.size; refine Wo rfl (opv_assign (v := .slice _ _ _) rfl) ?_
        refine Wo rfl (opv_assign (v := .bool _) rfl) ?_; refine Wo_nil ?_; refine W_seq ?_; refine W_region rfl ?_; refine Wo (v := .agg _) rfl (opv_load2 Try.isAgg25 Try.sizeOf25 rfl hB1) ?_
        refine Wo_call rfl (opc1 (a := .agg _) Try.call53 rfl) (k2 _ _ _ ((Mono.mono E1 h1)) ((Mono.mono E1 h2))) ?_; rintro _ w2 ⟨u3, q1, rfl, E2, hO1, hQ1, hd1⟩; have icu3 := OwnedB.isC (Owned.toB hO1)
        have cpu3 := OwnedB.capOk (Owned.toB hO1); have icq1 := OwnedB.isC (Owned.toB hQ1); have cpq1 := OwnedB.capOk (Owned.toB hQ1); have hs2 := E2.size; refine Wo_alloc2 rfl flat25 ?_; rintro b2 w3 hb2 E3 hB2; have hlb2 := hB2.lt
        have hs3 := E3.size; refine Wo_st2 rfl Try.sizeOf25 rfl rfl (by first | rfl | assumption) (by first | rfl | assumption) hB2 (by omega) ((E1.trans E2).trans E3) ?_; rintro w4 E4 hB2 K1 hz1
        have E5 := (E2.trans E3).wroteAt ((E1.trans E2).trans E3) E4 K1 hz1 (by omega); have szE5 := E5.size; have E6 := E3.wroteAt ((E1.trans E2).trans E3) E4 K1 hz1 (by omega); have szE6 := E6.size
        have hB1 := (hB1.ext (E2.trans E3)).of_heap (K1 _ (by omega)); have hO1 := (hO1.toB.ext E3).wrote K1 (by omega); have hQ1 := (hQ1.toB.ext E3).wrote K1 (by omega); refine Wo_nil ?_; refine W_seq ?_; refine W_region rfl ?_
        refine Wo rfl (opv_fieldAddr Try.underlying25 rfl rfl Try.sizeOf23 rfl) ?_; refine Wo (v := u3) rfl (opv_load Try.isAgg23 rfl (hB2.cell rfl)) ?_; refine Wo rfl (opv_len Try.underlying23 rfl (OwnedB.read hO1)) ?_
        refine Wo rfl (opv_fieldAddr Try.underlying25 rfl rfl Try.sizeOf23 rfl) ?_; refine Wo (v := q1) rfl (opv_load Try.isAgg23 rfl (hB2.cell rfl)) ?_; refine Wo rfl (opv_len Try.underlying23 rfl (OwnedB.read hQ1)) ?_
        refine Wo rfl (opv_add rfl rfl (by omega)) ?_; refine Wo rfl (opv_assign (v := .int _ _) rfl) ?_; refine Wo_nil ?_; refine W_seq ?_; refine W_seq ?_; refine W_region rfl ?_
        refine Wo (v := .agg _) rfl (opv_load2 Try.isAgg25 Try.sizeOf25 rfl hB1) ?_; refine Wo_call rfl (opc1 (a := .agg _) Try.call16 rfl) (k1 _ _ _ ((Mono.mono E4 h1)) ((Mono.mono E4 h2))) ?_; rintro _ w5 ⟨rfl, E7⟩; have hs4 := E7.size
        refine Wo rfl (opv_not rfl) ?_; refine Wo_split rfl (opv_move (v := .bool _) rfl) (fun h3 => ?_) (fun h3 => ?_); contradiction; refine Wo rfl (opv_move (v := .int _ _) rfl) ?_; refine Wo rfl (opv_gtr rfl rfl) ?_
        refine Wo rfl (opv_pick_f (v := .bool _) rfl rfl) ?_; refine Wo_nil ?_; refine W_cond_dec rfl (fun h5 => ?_) (fun h5 => ?_); refine W_seq ?_; refine W_region rfl ?_; refine Wo_lit0 (XSl 3 XInt) rfl el50 Try.sizeOf23 ?_
        rintro b3 w6 hb3 b3lt E8 hO2; have hs5 := E8.size; refine Wo rfl (opv_assign (v := .slice _ _ _) rfl) ?_; refine Wo rfl (opv_assign (v := .bool _) rfl) ?_; refine Wo_nil ?_; refine W_ret ?_
        refine at_ret (v := .tuple #[.slice _ _ _, .bool _]) rfl ?_; exact ⟨_, rfl, ((E4.trans E7).trans E8), hO2.toB.o.mono (by omega)⟩; (exfalso; omega)
  · have k1 := hok false (decide_eq_false hs)
    have eV : sdV A B = ([], false) := if_neg (fun h => hs h.1)
    rw [eV]
    rw [show shV A B = ([], []) from if_neg hs] at k2
    simp only at k2
    have hz9 : (([] : List Int).length : Int) = 0 := rfl
    refine fn_of_W2 Try.func40 rfl Try.results40 Try.ntmps40 rfl ?_
    focus
      refine W_seq ?_; refine W_region rfl ?_; refine Wo_box rfl rfl rfl ?_; rintro b1 w1 hb1 E1 hB1; have hlb1 := hB1.lt; have hs1 := E1.size; refine Wo rfl (opv_assign (v := .slice _ _ _) rfl) ?_
      refine Wo rfl (opv_assign (v := .bool _) rfl) ?_; refine Wo_nil ?_; refine W_seq ?_; refine W_region rfl ?_; refine Wo (v := .agg _) rfl (opv_load2 Try.isAgg25 Try.sizeOf25 rfl hB1) ?_
      refine Wo_call rfl (opc1 (a := .agg _) Try.call53 rfl) (k2 _ _ _ ((Mono.mono E1 h1)) ((Mono.mono E1 h2))) ?_; rintro _ w2 ⟨u3, q1, rfl, E2, hO1, hQ1, hd1⟩; have icu3 := OwnedB.isC (Owned.toB hO1)
      have cpu3 := OwnedB.capOk (Owned.toB hO1); have icq1 := OwnedB.isC (Owned.toB hQ1); have cpq1 := OwnedB.capOk (Owned.toB hQ1); have hs2 := E2.size; refine Wo_alloc2 rfl flat25 ?_; rintro b2 w3 hb2 E3 hB2; have hlb2 := hB2.lt
      have hs3 := E3.size; refine Wo_st2 rfl Try.sizeOf25 rfl rfl (by first | rfl | assumption) (by first | rfl | assumption) hB2 (by omega) ((E1.trans E2).trans E3) ?_; rintro w4 E4 hB2 K1 hz1
      have E5 := (E2.trans E3).wroteAt ((E1.trans E2).trans E3) E4 K1 hz1 (by omega); have szE5 := E5.size; have E6 := E3.wroteAt ((E1.trans E2).trans E3) E4 K1 hz1 (by omega); have szE6 := E6.size
      have hB1 := (hB1.ext (E2.trans E3)).of_heap (K1 _ (by omega)); have hO1 := (hO1.toB.ext E3).wrote K1 (by omega); have hQ1 := (hQ1.toB.ext E3).wrote K1 (by omega); refine Wo_nil ?_; refine W_seq ?_; refine W_region rfl ?_
      refine Wo rfl (opv_fieldAddr Try.underlying25 rfl rfl Try.sizeOf23 rfl) ?_; refine Wo (v := u3) rfl (opv_load Try.isAgg23 rfl (hB2.cell rfl)) ?_; refine Wo rfl (opv_len Try.underlying23 rfl (OwnedB.read hO1)) ?_
      refine Wo rfl (opv_fieldAddr Try.underlying25 rfl rfl Try.sizeOf23 rfl) ?_; refine Wo (v := q1) rfl (opv_load Try.isAgg23 rfl (hB2.cell rfl)) ?_; refine Wo rfl (opv_len Try.underlying23 rfl (OwnedB.read hQ1)) ?_
      refine Wo rfl (opv_add rfl rfl (by omega)) ?_; refine Wo rfl (opv_assign (v := .int _ _) rfl) ?_; refine Wo_nil ?_; refine W_seq ?_; refine W_seq ?_; refine W_region rfl ?_
      refine Wo (v := .agg _) rfl (opv_load2 Try.isAgg25 Try.sizeOf25 rfl hB1) ?_; refine Wo_call rfl (opc1 (a := .agg _) Try.call16 rfl) (k1 _ _ _ ((Mono.mono E4 h1)) ((Mono.mono E4 h2))) ?_; rintro _ w5 ⟨rfl, E7⟩; have hs4 := E7.size
      refine Wo rfl (opv_not rfl) ?_; refine Wo_split rfl (opv_move (v := .bool _) rfl) (fun h3 => ?_) (fun h3 => ?_); refine Wo_skip rfl ?_; refine Wo_skip rfl ?_; refine Wo rfl (opv_pick_t (v := .bool _) rfl rfl) ?_; refine Wo_nil ?_
      refine W_cond_true rfl ?_; refine W_seq ?_; refine W_region rfl ?_; refine Wo_lit0 (XSl 3 XInt) rfl el50 Try.sizeOf23 ?_; rintro b3 w6 hb3 b3lt E8 hO2; have hs5 := E8.size; refine Wo rfl (opv_assign (v := .slice _ _ _) rfl) ?_
      refine Wo rfl (opv_assign (v := .bool _) rfl) ?_; refine Wo_nil ?_; refine W_ret ?_; refine at_ret (v := .tuple #[.slice _ _ _, .bool _]) rfl ?_; exact ⟨_, rfl, ((E4.trans E7).trans E8), hO2.toB.o.mono (by omega)⟩; contradiction

end Go.Proofs.Ytlalfmialbolhaa
namespace Go.Proofs.Ytlalfmialbolhaa
open Go.Hs
set_option maxRecDepth 10000
set_option maxHeartbeats 4000000
set_option linter.unusedVariables false
set_option linter.unusedSimpArgs false

theorem streamBy_ok (w : World) (fid : FuncId) (cap : List Value) (g : Nat → Int) (a p : Nat) (ha : a ≤ 50) (hp : p ≤ 50) (hper : Per g a p) (hc : ∀ args w, Sem.run Try.prog (callFunc fid args) w = .ok (.enter fid args) w)
    (hf : ∀ (k : Nat) (w' : World), k < a + p → Ext w w' → Does Try.prog fid (.int .i64 (k : Int) :: cap) w' (Ret w' (.int .i64 (g k)))) :
    Does Try.prog 61 [.int .i64 (a : Int), .int .i64 (p : Int), .func (.func fid) [].toArray cap.toArray] w (RetS2 w 3 (shL g) (shR g)) := by
  have hp1 := hper.1
  have hsO : ∀ (w : World) (u1 u2 : Value), Ints w u1 (win g 0 a) → Ints w u2 (win g a p) → Does Try.prog 55 [.agg #[u1, u2]] w (RetS2 w 3 (shL g) (shR g)) := fun w u1 u2 h1 h2 => by
    have := shortOf_ok w u1 u2 _ _ h1 h2 (by rw [win_len]; omega) (by rw [win_len]; omega) (by rw [win_len]; omega)
    rw [bat_win hper] at this; exact this
  refine fn_of_Wc Try.func61 rfl Try.results61 Try.ntmps61 rfl Try.isAgg25 Try.sizeOf25 ?_
  focus
    refine W_seq ?_; refine W_region rfl ?_; refine Wo_alloc2 rfl flat25 ?_; rintro b1 w1 hb1 E1 hB1; have hlb1 := hB1.lt; have hs1 := E1.size; refine Wo_nil ?_; refine W_seq ?_; refine W_region rfl ?_
    refine Wo rfl (opv_build (ps := []) (cs := [_, _]) flat25 rfl rfl) ?_; refine Wo_alloc2 rfl flat25 ?_; rintro b2 w2 hb2 E2 hB2; have hlb2 := hB2.lt; have hs2 := E2.size
    refine Wo_st2 rfl Try.sizeOf25 rfl rfl (by first | rfl | assumption) (by first | rfl | assumption) hB2 (by omega) (E1.trans E2) ?_; rintro w3 E3 hB2 K1 hz1; have E4 := E2.wroteAt (E1.trans E2) E3 K1 hz1 (by omega)
    have szE4 := E4.size; have hB1 := (hB1.ext E2).of_heap (K1 _ (by omega)); refine Wo_nil ?_; refine W_seq ?_; refine W_seq ?_; refine W_region rfl ?_; refine Wo rfl (opv_move (v := .int _ _) rfl) ?_
    refine Wo rfl (opv_move (v := .int _ _) rfl) ?_; refine Wo_nil ?_; refine W_block ?_
  refine W_loop [8, 12, 13, 14, 15, 16, 17, 18, 19, 20, 21, 22, 23] (fun (k, o) => [(12, .int .i64 (k : Nat))]) (fun (k, (o : Value)) w' => Ext w1 w' ∧ w3.heap.size ≤ w'.heap.size ∧ k ≤ a ∧ Blk w' b2 [o, .slice none 0 0] ∧ Owned w3.heap.size XI w' o (win g 0 k)) (fun x => a - x.1) (0, .slice none 0 0) (by repeat (first | exact trivial | refine And.intro rfl ?_)) ?_ ?_
  · exact ⟨by assumption, Nat.le_refl _, Nat.zero_le _, by assumption, by simpa [win] using (Owned.nil : Owned w3.heap.size XI w3 (.slice none 0 0) [])⟩
  clear hB1 hB2
  rintro ⟨k, o⟩ ρj w4 ⟨E5, hs4, hk, hB2, hO⟩
  have hwl := win_len (f := g) (a := 0) (p := k)
  by_cases hka : k < a
  · have hsn : win g 0 (k + 1) = win g 0 k ++ [g k] := by rw [win_succ, Nat.zero_add]
    have hfk : ∀ (w' : World), Ext w w' → Does Try.prog fid (.int .i64 (k : Int) :: cap) w' (Ret w' (.int .i64 (g k))) := fun w' h => hf k w' (by omega) h
    focus
      have szE5 := E5.size; have szE4 := E4.size; have szE3 := E3.size; have szE2 := E2.size; have szE1 := E1.size; refine W_seq ?_; refine W_region rfl ?_; refine Wo rfl (opv_lss rfl rfl) ?_; refine Wo_nil ?_; refine W_seq ?_
      refine W_cond_dec rfl (fun h1 => ?_) (fun h1 => ?_); refine W_skip ?_; refine W_seq ?_; refine W_block ?_; refine W_seq ?_; refine W_region rfl ?_; refine Wo rfl (opv_move (v := .int _ _) rfl) ?_
      refine Wo rfl (opv_assign (v := .int _ _) rfl) ?_; refine Wo_nil ?_; refine W_held (fun _ => True) mixed rfl (by kernel_rfl) ?_; intro w5 E6 K2 hz2; have hs3 := E6.size
      refine Wh_take 0 rfl (by kernel_rfl) (by kernel_rfl) rfl (fun _ _ => opv_fieldAddr Try.underlying25 rfl rfl Try.sizeOf23 rfl) trivial ?_
      refine Wh_take 2 rfl (by kernel_rfl) (by kernel_rfl) rfl (fun _ _ => opv_move (v := .func _ _ _) rfl) trivial ?_; refine Wh_take 3 rfl (by kernel_rfl) (by kernel_rfl) rfl (fun _ _ => opv_move (v := .int _ _) rfl) trivial ?_
      refine Wh_all (rs := [1, 4]) (by kernel_rfl) rfl ?_; refine WhAll_cons rfl ?_ ?_; refine Wo (v := o) rfl (opv_load Try.isAgg23 rfl ((hB2.ext E6).cell rfl)) ?_; refine Wo_nil ?_; refine ⟨trivial, ?_⟩
      refine Wh_all (rs := [4]) (by kernel_rfl) rfl ?_; refine WhAll_cons rfl ?_ ?_; refine Wo_call rfl (opc_val1 (a := .int _ _) (by assumption) rfl rfl) (hfk _ (((E1.trans E5).trans E6))) ?_; rintro _ w6 ⟨rfl, E7⟩; have hs5 := E7.size
      refine Wo_nil ?_; refine ⟨trivial, ?_⟩; refine Wh_all (rs := [5]) (by kernel_rfl) rfl ?_; refine WhAll_cons rfl ?_ ?_
      refine Wo_buildSliceH (ps := [(0, .int _ _)]) (cs := [_]) rfl Try.underlying23 Try.sizeOf3 Try.zeroValue3 rfl rfl rfl rfl ?_; rintro b3 w7 hb3 E8 hB3 hHb3; have hlb3 := hB3.lt; have hs6 := E8.size; refine Wo_nil ?_
      refine ⟨trivial, ?_⟩; refine Wh_all (rs := [6]) (by kernel_rfl) rfl ?_; refine WhAll_cons rfl ?_ ?_
      refine Wo_app1 rfl el23 rfl rfl hB3 (hO.toB.ext ((E6.trans E7).trans E8)) Owned.int (Nat.le_refl _) (by first | omega | (simp <;> omega)) (by omega) (by omega) ((((E1.trans E5).trans E6).trans E7).trans E8) (by omega) ?_
      have hT1 := (hO.toB.ext ((E6.trans E7).trans E8)); rintro v1 w8 hO E9 M1; have E10 := M1.ext hT1 (((E5.trans E6).trans E7).trans E8) (by omega); have szE10 := E10.size
      have hB1 := (hB1.ext (((E5.trans E6).trans E7).trans E8)).moves M1 hT1 (by omega); have hB2 := (hB2.ext ((E6.trans E7).trans E8)).moves M1 hT1 (by omega); have hB3 := hB3.moves M1 hT1 (by omega); have hs7 := E9.size
      refine Wo_nil ?_; refine ⟨trivial, ?_⟩; refine Wh_take 7 rfl (by kernel_rfl) (by kernel_rfl) rfl (fun _ _ => opv_fieldAddr Try.underlying25 rfl rfl Try.sizeOf23 rfl) trivial ?_; refine Wh_all (rs := [8]) (by kernel_rfl) rfl ?_
      refine WhAll_cons rfl ?_ ?_; refine Wo_st (v := v1) rfl Try.sizeOf23 rfl rfl (OwnedB.isC hO.toB) hB2 (by simp) (by omega) E9 ?_; rintro w9 E11 hB2 K3 hz3; have E12 := E10.wroteAt E9 E11 K3 hz3 (by omega); have szE12 := E12.size
      simp only [List.set] at hB2; have hO := hO.toB.wrote K3 (by omega); have hB1 := hB1.of_heap (K3 _ (by omega)); have hB3 := hB3.of_heap (K3 _ (by omega)); refine Wo_nil ?_; refine ⟨trivial, ?_⟩; refine Wh_done (by kernel_rfl) ?_
      refine W_region rfl ?_; refine Wo rfl (opv_add rfl rfl (by omega)) ?_; refine Wo rfl (opv_move (v := .int _ _) rfl) ?_; refine Wo_nil ?_; rotate_left; exact WhAll_nil; exact WhAll_nil; exact WhAll_nil; exact WhAll_nil
      refine WhAll_cons rfl ?_ ?_; refine Wo_call rfl (opc_val1 (a := .int _ _) (by assumption) rfl rfl) (hfk _ (((E1.trans E5).trans E6))) ?_; rintro _ w6 ⟨rfl, E7⟩; have hs5 := E7.size; refine Wo_nil ?_; refine ⟨trivial, ?_⟩
      refine Wh_all (rs := [1, 5]) (by kernel_rfl) rfl ?_; refine WhAll_cons rfl ?_ ?_; refine Wo (v := o) rfl (opv_load Try.isAgg23 rfl ((hB2.ext (E6.trans E7)).cell rfl)) ?_; refine Wo_nil ?_; refine ⟨trivial, ?_⟩
      refine Wh_all (rs := [5]) (by kernel_rfl) rfl ?_; refine WhAll_cons rfl ?_ ?_; refine Wo_buildSliceH (ps := [(0, .int _ _)]) (cs := [_]) rfl Try.underlying23 Try.sizeOf3 Try.zeroValue3 rfl rfl rfl rfl ?_
      rintro b3 w7 hb3 E8 hB3 hHb3; have hlb3 := hB3.lt; have hs6 := E8.size; refine Wo_nil ?_; refine ⟨trivial, ?_⟩; refine Wh_all (rs := [6]) (by kernel_rfl) rfl ?_; refine WhAll_cons rfl ?_ ?_
      refine Wo_app1 rfl el23 rfl rfl hB3 (hO.toB.ext ((E6.trans E7).trans E8)) Owned.int (Nat.le_refl _) (by first | omega | (simp <;> omega)) (by omega) (by omega) ((((E1.trans E5).trans E6).trans E7).trans E8) (by omega) ?_
      have hT1 := (hO.toB.ext ((E6.trans E7).trans E8)); rintro v1 w8 hO E9 M1; have E10 := M1.ext hT1 (((E5.trans E6).trans E7).trans E8) (by omega); have szE10 := E10.size
      have hB1 := (hB1.ext (((E5.trans E6).trans E7).trans E8)).moves M1 hT1 (by omega); have hB2 := (hB2.ext ((E6.trans E7).trans E8)).moves M1 hT1 (by omega); have hB3 := hB3.moves M1 hT1 (by omega); have hs7 := E9.size
      refine Wo_nil ?_; refine ⟨trivial, ?_⟩; refine Wh_take 7 rfl (by kernel_rfl) (by kernel_rfl) rfl (fun _ _ => opv_fieldAddr Try.underlying25 rfl rfl Try.sizeOf23 rfl) trivial ?_; refine Wh_all (rs := [8]) (by kernel_rfl) rfl ?_
      refine WhAll_cons rfl ?_ ?_; refine Wo_st (v := v1) rfl Try.sizeOf23 rfl rfl (OwnedB.isC hO.toB) hB2 (by simp) (by omega) E9 ?_; rintro w9 E11 hB2 K3 hz3; have E12 := E10.wroteAt E9 E11 K3 hz3 (by omega); have szE12 := E12.size
      simp only [List.set] at hB2; have hO := hO.toB.wrote K3 (by omega); have hB1 := hB1.of_heap (K3 _ (by omega)); have hB3 := hB3.of_heap (K3 _ (by omega)); refine Wo_nil ?_; refine ⟨trivial, ?_⟩; refine Wh_done (by kernel_rfl) ?_
      refine W_region rfl ?_; refine Wo rfl (opv_add rfl rfl (by omega)) ?_; refine Wo rfl (opv_move (v := .int _ _) rfl) ?_; refine Wo_nil ?_; rotate_left; exact WhAll_nil; exact WhAll_nil; exact WhAll_nil; refine WhAll_cons rfl ?_ ?_
      refine Wo_buildSliceH (ps := [(0, .int _ _)]) (cs := [_]) rfl Try.underlying23 Try.sizeOf3 Try.zeroValue3 rfl rfl rfl rfl ?_; rintro b3 w7 hb3 E8 hB3 hHb3; have hlb3 := hB3.lt; have hs6 := E8.size; refine Wo_nil ?_
      refine ⟨trivial, ?_⟩; refine Wh_all (rs := [1]) (by kernel_rfl) rfl ?_; refine WhAll_cons rfl ?_ ?_; refine Wo (v := o) rfl (opv_load Try.isAgg23 rfl ((hB2.ext ((E6.trans E7).trans E8)).cell rfl)) ?_; refine Wo_nil ?_
      refine ⟨trivial, ?_⟩; refine Wh_all (rs := [6]) (by kernel_rfl) rfl ?_; refine WhAll_cons rfl ?_ ?_
      refine Wo_app1 rfl el23 rfl rfl hB3 (hO.toB.ext ((E6.trans E7).trans E8)) Owned.int (Nat.le_refl _) (by first | omega | (simp <;> omega)) (by omega) (by omega) ((((E1.trans E5).trans E6).trans E7).trans E8) (by omega) ?_
      have hT1 := (hO.toB.ext ((E6.trans E7).trans E8)); rintro v1 w8 hO E9 M1; have E10 := M1.ext hT1 (((E5.trans E6).trans E7).trans E8) (by omega); have szE10 := E10.size
      have hB1 := (hB1.ext (((E5.trans E6).trans E7).trans E8)).moves M1 hT1 (by omega); have hB2 := (hB2.ext ((E6.trans E7).trans E8)).moves M1 hT1 (by omega); have hB3 := hB3.moves M1 hT1 (by omega); have hs7 := E9.size
      refine Wo_nil ?_; refine ⟨trivial, ?_⟩; refine Wh_take 7 rfl (by kernel_rfl) (by kernel_rfl) rfl (fun _ _ => opv_fieldAddr Try.underlying25 rfl rfl Try.sizeOf23 rfl) trivial ?_; refine Wh_all (rs := [8]) (by kernel_rfl) rfl ?_
      refine WhAll_cons rfl ?_ ?_; refine Wo_st (v := v1) rfl Try.sizeOf23 rfl rfl (OwnedB.isC hO.toB) hB2 (by simp) (by omega) E9 ?_; rintro w9 E11 hB2 K3 hz3; have E12 := E10.wroteAt E9 E11 K3 hz3 (by omega); have szE12 := E12.size
      simp only [List.set] at hB2; have hO := hO.toB.wrote K3 (by omega); have hB1 := hB1.of_heap (K3 _ (by omega)); have hB3 := hB3.of_heap (K3 _ (by omega)); refine Wo_nil ?_; refine ⟨trivial, ?_⟩; refine Wh_done (by kernel_rfl) ?_
      refine W_region rfl ?_; refine Wo rfl (opv_add rfl rfl (by omega)) ?_; refine Wo rfl (opv_move (v := .int _ _) rfl) ?_; refine Wo_nil ?_; rotate_left; exact WhAll_nil; exact WhAll_nil; exact WhAll_nil; exact WhAll_nil
      exact WhAll_nil; (exfalso; omega)
    all_goals
      refine ⟨(k + 1, v1), by repeat (first | exact trivial | refine And.intro rfl ?_), by repeat (first | with_reducible exact Same.refl | refine Same.upd rfl ?_ | refine Same.upds rfl ?_ | refine Same.mix rfl ?_), ?_, ?_⟩
      · exact ⟨by assumption, by have := M1.1.size; omega, by omega, by assumption, by rw [hsn]; exact OwnedB.o (by assumption)⟩
      · simp only; omega
  · obtain rfl : k = a := by omega
    focus
      have szE5 := E5.size; have szE4 := E4.size; have szE3 := E3.size; have szE2 := E2.size; have szE1 := E1.size; refine W_seq ?_; refine W_region rfl ?_; refine Wo rfl (opv_lss rfl rfl) ?_; refine Wo_nil ?_; refine W_seq ?_
      refine W_cond_dec rfl (fun h1 => ?_) (fun h1 => ?_); (exfalso; omega); refine W_exit ?_; refine exitX_same ?_; refine W_seq ?_; refine W_seq ?_; refine W_region rfl ?_; refine Wo rfl (opv_move (v := .int _ _) rfl) ?_
      refine Wo rfl (opv_move (v := .int _ _) rfl) ?_; refine Wo_nil ?_; refine W_block ?_
    refine W_loop [9, 25, 26, 27, 28, 29, 30, 31, 32, 33, 34, 35, 36, 37, 38] (fun (j, q) => [(25, .int .i64 (j : Nat))]) (fun (j, (q : Value)) w' => Ext w1 w' ∧ w4.heap.size ≤ w'.heap.size ∧ j ≤ p ∧ Blk w' b2 [o, q] ∧ OwnedB w3.heap.size w4.heap.size XI w' o (win g 0 k) ∧ Owned w4.heap.size XI w' q (win g k j)) (fun x => p - x.1) (0, .slice none 0 0) (by repeat (first | exact trivial | refine And.intro rfl ?_)) ?_ ?_
    · exact ⟨E5, Nat.le_refl _, Nat.zero_le _, hB2, hO.toB, by simpa [win] using (Owned.nil : Owned w4.heap.size XI w4 (.slice none 0 0) [])⟩
    clear hB2 hO
    rintro ⟨j, q⟩ ρm w5 ⟨E6, hs5, hj, hB2, hO, hQ⟩
    have hwl2 := win_len (f := g) (a := k) (p := j)
    by_cases hjp : j < p
    · have hsn : win g k (j + 1) = win g k j ++ [g (k + j)] := win_succ
      have hfk : ∀ (w' : World), Ext w w' → Does Try.prog fid (.int .i64 ((k : Int) + (j : Int)) :: cap) w' (Ret w' (.int .i64 (g (k + j)))) := fun w' h => hf (k + j) w' (by omega) h
      focus
        have szE6 := E6.size; have szE5 := E5.size; have szE4 := E4.size; have szE3 := E3.size; have szE2 := E2.size; have szE1 := E1.size; refine W_seq ?_; refine W_region rfl ?_; refine Wo rfl (opv_lss rfl rfl) ?_; refine Wo_nil ?_
        refine W_seq ?_; refine W_cond_dec rfl (fun h2 => ?_) (fun h2 => ?_); refine W_skip ?_; refine W_seq ?_; refine W_block ?_; refine W_seq ?_; refine W_region rfl ?_; refine Wo rfl (opv_move (v := .int _ _) rfl) ?_
        refine Wo rfl (opv_assign (v := .int _ _) rfl) ?_; refine Wo_nil ?_; refine W_held (fun _ => True) mixed rfl (by kernel_rfl) ?_; intro w6 E7 K2 hz2; have hs3 := E7.size
        refine Wh_take 0 rfl (by kernel_rfl) (by kernel_rfl) rfl (fun _ _ => opv_fieldAddr Try.underlying25 rfl rfl Try.sizeOf23 rfl) trivial ?_
        refine Wh_take 2 rfl (by kernel_rfl) (by kernel_rfl) rfl (fun _ _ => opv_move (v := .func _ _ _) rfl) trivial ?_; refine Wh_take 3 rfl (by kernel_rfl) (by kernel_rfl) rfl (fun _ _ => opv_move (v := .int _ _) rfl) trivial ?_
        refine Wh_take 4 rfl (by kernel_rfl) (by kernel_rfl) rfl (fun _ _ => opv_move (v := .int _ _) rfl) trivial ?_; refine Wh_take 5 rfl (by kernel_rfl) (by kernel_rfl) rfl (fun _ _ => opv_add rfl rfl (by omega)) trivial ?_
        refine Wh_all (rs := [1, 6]) (by kernel_rfl) rfl ?_; refine WhAll_cons rfl ?_ ?_; refine Wo (v := q) rfl (opv_load Try.isAgg23 rfl ((hB2.ext E7).cell rfl)) ?_; refine Wo_nil ?_; refine ⟨trivial, ?_⟩
        refine Wh_all (rs := [6]) (by kernel_rfl) rfl ?_; refine WhAll_cons rfl ?_ ?_; refine Wo_call rfl (opc_val1 (a := .int _ _) (by assumption) rfl rfl) (hfk _ (((E1.trans E6).trans E7))) ?_; rintro _ w7 ⟨rfl, E8⟩; have hs6 := E8.size
        refine Wo_nil ?_; refine ⟨trivial, ?_⟩; refine Wh_all (rs := [7]) (by kernel_rfl) rfl ?_; refine WhAll_cons rfl ?_ ?_
        refine Wo_buildSliceH (ps := [(0, .int _ _)]) (cs := [_]) rfl Try.underlying23 Try.sizeOf3 Try.zeroValue3 rfl rfl rfl rfl ?_; rintro b3 w8 hb3 E9 hB3 hHb3; have hlb3 := hB3.lt; have hs7 := E9.size; refine Wo_nil ?_
        refine ⟨trivial, ?_⟩; refine Wh_all (rs := [8]) (by kernel_rfl) rfl ?_; refine WhAll_cons rfl ?_ ?_
        refine Wo_app1 rfl el23 rfl rfl hB3 (hQ.toB.ext ((E7.trans E8).trans E9)) Owned.int (Nat.le_refl _) (by first | omega | (simp <;> omega)) (by omega) (by omega) ((((E1.trans E6).trans E7).trans E8).trans E9) (by omega) ?_
        have hT1 := (hQ.toB.ext ((E7.trans E8).trans E9)); rintro v1 w9 hQ E10 M1; have E11 := M1.ext hT1 (((E6.trans E7).trans E8).trans E9) (by omega); have szE11 := E11.size
        have hB1 := (hB1.ext (((E6.trans E7).trans E8).trans E9)).moves M1 hT1 (by omega); have hB2 := (hB2.ext ((E7.trans E8).trans E9)).moves M1 hT1 (by omega); have hO := (hO.ext ((E7.trans E8).trans E9)).moves M1 hT1 (by omega)
        have hB3 := hB3.moves M1 hT1 (by omega); have hs8 := E10.size; refine Wo_nil ?_; refine ⟨trivial, ?_⟩
        refine Wh_take 9 rfl (by kernel_rfl) (by kernel_rfl) rfl (fun _ _ => opv_fieldAddr Try.underlying25 rfl rfl Try.sizeOf23 rfl) trivial ?_; refine Wh_all (rs := [10]) (by kernel_rfl) rfl ?_; refine WhAll_cons rfl ?_ ?_
        refine Wo_st (v := v1) rfl Try.sizeOf23 rfl rfl (OwnedB.isC hQ.toB) hB2 (by simp) (by omega) E10 ?_; rintro w10 E12 hB2 K3 hz3; have E13 := E11.wroteAt E10 E12 K3 hz3 (by omega); have szE13 := E13.size; simp only [List.set] at hB2
        have hQ := hQ.toB.wrote K3 (by omega); have hB1 := hB1.of_heap (K3 _ (by omega)); have hO := hO.wrote K3 (by omega); have hB3 := hB3.of_heap (K3 _ (by omega)); refine Wo_nil ?_; refine ⟨trivial, ?_⟩
        refine Wh_done (by kernel_rfl) ?_; refine W_region rfl ?_; refine Wo rfl (opv_add rfl rfl (by omega)) ?_; refine Wo rfl (opv_move (v := .int _ _) rfl) ?_; refine Wo_nil ?_; rotate_left; exact WhAll_nil; exact WhAll_nil
        exact WhAll_nil; exact WhAll_nil; refine WhAll_cons rfl ?_ ?_; refine Wo_call rfl (opc_val1 (a := .int _ _) (by assumption) rfl rfl) (hfk _ (((E1.trans E6).trans E7))) ?_; rintro _ w7 ⟨rfl, E8⟩; have hs6 := E8.size; refine Wo_nil ?_
        refine ⟨trivial, ?_⟩; refine Wh_all (rs := [1, 7]) (by kernel_rfl) rfl ?_; refine WhAll_cons rfl ?_ ?_; refine Wo (v := q) rfl (opv_load Try.isAgg23 rfl ((hB2.ext (E7.trans E8)).cell rfl)) ?_; refine Wo_nil ?_; refine ⟨trivial, ?_⟩
        refine Wh_all (rs := [7]) (by kernel_rfl) rfl ?_; refine WhAll_cons rfl ?_ ?_; refine Wo_buildSliceH (ps := [(0, .int _ _)]) (cs := [_]) rfl Try.underlying23 Try.sizeOf3 Try.zeroValue3 rfl rfl rfl rfl ?_
        rintro b3 w8 hb3 E9 hB3 hHb3; have hlb3 := hB3.lt; have hs7 := E9.size; refine Wo_nil ?_; refine ⟨trivial, ?_⟩; refine Wh_all (rs := [8]) (by kernel_rfl) rfl ?_; refine WhAll_cons rfl ?_ ?_
        refine Wo_app1 rfl el23 rfl rfl hB3 (hQ.toB.ext ((E7.trans E8).trans E9)) Owned.int (Nat.le_refl _) (by first | omega | (simp <;> omega)) (by omega) (by omega) ((((E1.trans E6).trans E7).trans E8).trans E9) (by omega) ?_
        have hT1 := (hQ.toB.ext ((E7.trans E8).trans E9)); rintro v1 w9 hQ E10 M1; have E11 := M1.ext hT1 (((E6.trans E7).trans E8).trans E9) (by omega); have szE11 := E11.size
        have hB1 := (hB1.ext (((E6.trans E7).trans E8).trans E9)).moves M1 hT1 (by omega); have hB2 := (hB2.ext ((E7.trans E8).trans E9)).moves M1 hT1 (by omega); have hO := (hO.ext ((E7.trans E8).trans E9)).moves M1 hT1 (by omega)
        have hB3 := hB3.moves M1 hT1 (by omega); have hs8 := E10.size; refine Wo_nil ?_; refine ⟨trivial, ?_⟩
        refine Wh_take 9 rfl (by kernel_rfl) (by kernel_rfl) rfl (fun _ _ => opv_fieldAddr Try.underlying25 rfl rfl Try.sizeOf23 rfl) trivial ?_; refine Wh_all (rs := [10]) (by kernel_rfl) rfl ?_; refine WhAll_cons rfl ?_ ?_
        refine Wo_st (v := v1) rfl Try.sizeOf23 rfl rfl (OwnedB.isC hQ.toB) hB2 (by simp) (by omega) E10 ?_; rintro w10 E12 hB2 K3 hz3; have E13 := E11.wroteAt E10 E12 K3 hz3 (by omega); have szE13 := E13.size; simp only [List.set] at hB2
        have hQ := hQ.toB.wrote K3 (by omega); have hB1 := hB1.of_heap (K3 _ (by omega)); have hO := hO.wrote K3 (by omega); have hB3 := hB3.of_heap (K3 _ (by omega)); refine Wo_nil ?_; refine ⟨trivial, ?_⟩
        refine Wh_done (by kernel_rfl) ?_; refine W_region rfl ?_; refine Wo rfl (opv_add rfl rfl (by omega)) ?_; refine Wo rfl (opv_move (v := .int _ _) rfl) ?_; refine Wo_nil ?_; rotate_left; exact WhAll_nil; exact WhAll_nil
        exact WhAll_nil; refine WhAll_cons rfl ?_ ?_; refine Wo_buildSliceH (ps := [(0, .int _ _)]) (cs := [_]) rfl Try.underlying23 Try.sizeOf3 Try.zeroValue3 rfl rfl rfl rfl ?_; rintro b3 w8 hb3 E9 hB3 hHb3; have hlb3 := hB3.lt
        have hs7 := E9.size; refine Wo_nil ?_; refine ⟨trivial, ?_⟩; refine Wh_all (rs := [1]) (by kernel_rfl) rfl ?_; refine WhAll_cons rfl ?_ ?_
        refine Wo (v := q) rfl (opv_load Try.isAgg23 rfl ((hB2.ext ((E7.trans E8).trans E9)).cell rfl)) ?_; refine Wo_nil ?_; refine ⟨trivial, ?_⟩; refine Wh_all (rs := [8]) (by kernel_rfl) rfl ?_; refine WhAll_cons rfl ?_ ?_
        refine Wo_app1 rfl el23 rfl rfl hB3 (hQ.toB.ext ((E7.trans E8).trans E9)) Owned.int (Nat.le_refl _) (by first | omega | (simp <;> omega)) (by omega) (by omega) ((((E1.trans E6).trans E7).trans E8).trans E9) (by omega) ?_
        have hT1 := (hQ.toB.ext ((E7.trans E8).trans E9)); rintro v1 w9 hQ E10 M1; have E11 := M1.ext hT1 (((E6.trans E7).trans E8).trans E9) (by omega); have szE11 := E11.size
        have hB1 := (hB1.ext (((E6.trans E7).trans E8).trans E9)).moves M1 hT1 (by omega); have hB2 := (hB2.ext ((E7.trans E8).trans E9)).moves M1 hT1 (by omega); have hO := (hO.ext ((E7.trans E8).trans E9)).moves M1 hT1 (by omega)
        have hB3 := hB3.moves M1 hT1 (by omega); have hs8 := E10.size; refine Wo_nil ?_; refine ⟨trivial, ?_⟩
        refine Wh_take 9 rfl (by kernel_rfl) (by kernel_rfl) rfl (fun _ _ => opv_fieldAddr Try.underlying25 rfl rfl Try.sizeOf23 rfl) trivial ?_; refine Wh_all (rs := [10]) (by kernel_rfl) rfl ?_; refine WhAll_cons rfl ?_ ?_
        refine Wo_st (v := v1) rfl Try.sizeOf23 rfl rfl (OwnedB.isC hQ.toB) hB2 (by simp) (by omega) E10 ?_; rintro w10 E12 hB2 K3 hz3; have E13 := E11.wroteAt E10 E12 K3 hz3 (by omega); have szE13 := E13.size; simp only [List.set] at hB2
        have hQ := hQ.toB.wrote K3 (by omega); have hB1 := hB1.of_heap (K3 _ (by omega)); have hO := hO.wrote K3 (by omega); have hB3 := hB3.of_heap (K3 _ (by omega)); refine Wo_nil ?_; refine ⟨trivial, ?_⟩
        refine Wh_done (by kernel_rfl) ?_; refine W_region rfl ?_; refine Wo rfl (opv_add rfl rfl (by omega)) ?_; refine Wo rfl (opv_move (v := .int _ _) rfl) ?_; refine Wo_nil ?_; rotate_left; exact WhAll_nil; exact WhAll_nil
        exact WhAll_nil; exact WhAll_nil; exact WhAll_nil; (exfalso; omega)
      all_goals
        refine ⟨(j + 1, v1), by repeat (first | exact trivial | refine And.intro rfl ?_), by repeat (first | with_reducible exact Same.refl | refine Same.upd rfl ?_ | refine Same.upds rfl ?_ | refine Same.mix rfl ?_), ?_, ?_⟩
        · exact ⟨by assumption, by have := M1.1.size; omega, by omega, by assumption, by assumption, by rw [hsn]; exact OwnedB.o (by assumption)⟩
        · simp only; omega
    · obtain rfl : j = p := by omega
      focus
        have szE6 := E6.size; have szE5 := E5.size; have szE4 := E4.size; have szE3 := E3.size; have szE2 := E2.size; have szE1 := E1.size; refine W_seq ?_; refine W_region rfl ?_; refine Wo rfl (opv_lss rfl rfl) ?_; refine Wo_nil ?_
        refine W_seq ?_; refine W_cond_dec rfl (fun h2 => ?_) (fun h2 => ?_); (exfalso; omega); refine W_exit ?_; refine exitX_same ?_; refine W_seq ?_; refine W_region rfl ?_
        refine Wo (v := .agg _) rfl (opv_load2 Try.isAgg25 Try.sizeOf25 rfl hB2) ?_; refine Wo_call rfl (opc1 (a := .agg _) Try.call55 rfl) (hsO _ _ _ ((OwnedB.read hO)) ((Owned.read hQ))) ?_; rintro _ w6 ⟨u1, q1, rfl, E7, hO1, hQ1, hd1⟩
        have icu1 := OwnedB.isC (Owned.toB hO1); have cpu1 := OwnedB.capOk (Owned.toB hO1); have icq1 := OwnedB.isC (Owned.toB hQ1); have cpq1 := OwnedB.capOk (Owned.toB hQ1); have hs3 := E7.size
        refine Wo_st2 rfl Try.sizeOf25 rfl rfl (by first | rfl | assumption) (by first | rfl | assumption) (hB1.ext (E6.trans E7)) (by omega) ((E1.trans E6).trans E7) ?_; rintro w7 E8 hB1 K2 hz2
        have hB2 := (hB2.ext E7).of_heap (K2 _ (by omega)); have hO := (hO.ext E7).wrote K2 (by omega); have hQ := (hQ.toB.ext E7).wrote K2 (by omega); have hO1 := hO1.toB.wrote K2 (by omega); have hQ1 := hQ1.toB.wrote K2 (by omega)
        refine Wo_nil ?_; refine W_ret ?_
      exact ⟨_, _, _, rfl, by assumption, _, _, rfl, by assumption, hO1.o.mono (by omega), hQ1.o.mono (by omega), hd1⟩

end Go.Proofs.Ytlalfmialbolhaa
namespace Go.Proofs.Ytlalfmialbolhaa
open Go.Hs
set_option maxRecDepth 10000
set_option maxHeartbeats 4000000
set_option linter.unusedVariables false
set_option linter.unusedSimpArgs false
def shf (f : Nat → Int) (n : Nat) : Nat → Int := fun k => f (k + n)
theorem per_shf {f : Nat → Int} {a p : Nat} (h : Per f a p) (n : Nat) : Per (shf f n) (a - n) p := ⟨h.1, fun m hm => by
  show f (m + p + n) = f (m + n)
  rw [show m + p + n = m + n + p by omega]; exact h.2 _ (by omega)⟩
noncomputable def rstV (A B : List Int) (z : Int) : List Int × List Int := if Stm A B ∧ 0 ≤ z ∧ z ≤ 99 then (shL (shf (bat A B) z.toNat), shR (shf (bat A B) z.toNat)) else ([], [])

theorem impl_RestOf_ok (w : World) (u1 u2 : Value) (A B : List Int) (h1 : Ints w u1 A) (h2 : Ints w u2 B) (hA : A.length ≤ 4000000) (hB : B.length ≤ 4000000) (z : Int) : Does Try.prog 20 [.agg #[u1, u2], .int .i64 z] w (RetS2 w 3 (rstV A B z).1 (rstV A B z).2) := by
  have hle1 := h1.le
  have hle2 := h2.le
  have hok : ∀ (x : Bool), decide (Stm A B) = x → ∀ (w : World) (u1 u2 : Value), Ints w u1 A → Ints w u2 B → Does Try.prog 54 [.agg #[u1, u2]] w (Ret w (.bool x)) := fun x e w u1 u2 h1 h2 => e ▸ isStream_ok w u1 u2 A B h1 h2 hA hB
  by_cases hs : Stm A B
  · have k1 := hok true (decide_eq_true hs)
    have hsl := hs.2.2
    by_cases hz : 0 ≤ z ∧ z ≤ 99
    · obtain ⟨n, rfl⟩ : ∃ n : Nat, z = (n : Int) := ⟨z.toNat, by omega⟩
      have e0 : rstV A B (n : Int) = (shL (shf (bat A B) n), shR (shf (bat A B) n)) := if_pos ⟨hs, hz⟩
      rw [e0]
      have hper := per_shf hs.per n
      have hcl : ∀ (w1 : World) (b1 b2 k : Nat), Ext w w1 → Blk w1 b1 [u1, u2] → Blk w1 b2 [.int .i64 (n : Int)] → k ≤ 100 → Does Try.prog 62 [.int .i64 (k : Int), .pointer (some ⟨b1, 0, none⟩), .pointer (some ⟨b2, 0, none⟩)] w1 (Ret w1 (.int .i64 (shf (bat A B) n k))) := by
        intro w1 b1 b2 k E0 hB1 hB2 hk
        have k2 : ∀ (w : World) (u1 u2 : Value), Ints w u1 A → Ints w u2 B → Does Try.prog 63 [.agg #[u1, u2], .int .i64 ((k : Int) + (n : Int))] w (Ret w (.int .i64 (shf (bat A B) n k))) := fun w u1 u2 h1 h2 => bitAt_ok w u1 u2 A B h1 h2 hs (k + n) (by omega)
        refine fn_of_W1 Try.func62 rfl Try.results62 Try.ntmps62 rfl ?_
        focus
          have szE0 := E0.size; refine W_seq ?_; refine W_region rfl ?_; refine Wo rfl (opv_assign (v := .int _ _) rfl) ?_; refine Wo_nil ?_; refine W_seq ?_; refine W_region rfl ?_
          refine Wo (v := .agg _) rfl (opv_load2 Try.isAgg25 Try.sizeOf25 rfl hB1) ?_; refine Wo rfl (opv_move (v := .int _ _) rfl) ?_; refine Wo (v := .int _ _) rfl (opv_load Try.isAgg3 rfl (hB2.cell rfl)) ?_
          refine Wo rfl (opv_add rfl rfl (by omega)) ?_; refine Wo_call rfl (opc2 (a := .agg _) (b := .int _ _) Try.call63 rfl rfl) (k2 _ _ _ ((Mono.mono E0 h1)) ((Mono.mono E0 h2))) ?_; rintro _ w2 ⟨rfl, E1⟩; have hs1 := E1.size
          refine Wo rfl (opv_assign (v := .int _ _) rfl) ?_; refine Wo_nil ?_; refine W_ret ?_; exact ⟨rfl, E1⟩
      have hsb : ∀ (w1 : World) (b1 b2 : Nat) (z : Int), Ext w w1 → Blk w1 b1 [u1, u2] → Blk w1 b2 [.int .i64 (n : Int)] → z = ((A.length - n : Nat) : Int) → Does Try.prog 61 [.int .i64 z, .int .i64 (B.length : Int), .func (.func 62) [].toArray [.pointer (some ⟨b1, 0, none⟩), .pointer (some ⟨b2, 0, none⟩)].toArray] w1 (RetS2 w1 3 (shL (shf (bat A B) n)) (shR (shf (bat A B) n))) := by
        intro w1 b1 b2 z E0 hB1 hB2 e
        subst e
        exact streamBy_ok w1 62 [.pointer (some ⟨b1, 0, none⟩), .pointer (some ⟨b2, 0, none⟩)] _ (A.length - n) B.length (by omega) (by omega) hper Try.call62 (fun k w' hk e => hcl w' b1 b2 k (E0.trans e) (hB1.ext e) (hB2.ext e) (by omega))
      clear hok hcl
      refine fn_of_Wc Try.func20 rfl Try.results20 Try.ntmps20 rfl Try.isAgg25 Try.sizeOf25 ?_
      focus
        refine W_seq ?_; refine W_region rfl ?_; refine Wo_box rfl rfl rfl ?_; rintro b1 w1 hb1 E1 hB1; have hlb1 := hB1.lt; have hs1 := E1.size; refine Wo_box rfl rfl rfl ?_; rintro b2 w2 hb2 E2 hB2; have hlb2 := hB2.lt
        have hs2 := E2.size; refine Wo_alloc2 rfl flat25 ?_; rintro b3 w3 hb3 E3 hB3; have hlb3 := hB3.lt; have hs3 := E3.size; refine Wo_nil ?_; refine W_seq ?_; refine W_seq ?_; refine W_region rfl ?_
        refine Wo (v := .agg _) rfl (opv_load2 Try.isAgg25 Try.sizeOf25 rfl (hB1.ext (E2.trans E3))) ?_
        refine Wo_call rfl (opc1 (a := .agg _) Try.call54 rfl) (k1 _ _ _ ((Mono.mono ((E1.trans E2).trans E3) h1)) ((Mono.mono ((E1.trans E2).trans E3) h2))) ?_; rintro _ w4 ⟨rfl, E4⟩; have hs4 := E4.size; refine Wo rfl (opv_not rfl) ?_
        refine Wo_split rfl (opv_move (v := .bool _) rfl) (fun h3 => ?_) (fun h3 => ?_); contradiction; refine Wo (v := .int _ _) rfl (opv_load Try.isAgg3 rfl ((hB2.ext (E3.trans E4)).cell rfl)) ?_; refine Wo rfl (opv_lss rfl rfl) ?_
        refine Wo rfl (opv_pick_f (v := .bool _) rfl rfl) ?_; refine Wo_split_dec rfl (opv_move (v := .bool _) rfl) (fun h4 => ?_) (fun h4 => ?_); contradiction
        refine Wo (v := .int _ _) rfl (opv_load Try.isAgg3 rfl ((hB2.ext (E3.trans E4)).cell rfl)) ?_; refine Wo rfl (opv_gtr rfl rfl) ?_; refine Wo rfl (opv_pick_f (v := .bool _) rfl rfl) ?_; refine Wo_nil ?_
        refine W_cond_dec rfl (fun h5 => ?_) (fun h5 => ?_); (exfalso; omega); refine W_skip ?_; refine W_seq ?_; refine W_region rfl ?_; refine Wo rfl (opv_fieldAddr Try.underlying25 rfl rfl Try.sizeOf23 rfl) ?_
        refine Wo (v := u1) rfl (opv_load Try.isAgg23 rfl ((hB1.ext ((E2.trans E3).trans E4)).cell rfl)) ?_; refine Wo rfl (opv_len Try.underlying23 rfl h1) ?_
        refine Wo (v := .int _ _) rfl (opv_load Try.isAgg3 rfl ((hB2.ext (E3.trans E4)).cell rfl)) ?_; refine Wo rfl (opv_sub rfl rfl (by omega)) ?_; refine Wo rfl (opv_max rfl rfl) ?_; refine Wo rfl (opv_assign (v := .int _ _) rfl) ?_
        refine Wo_nil ?_; refine W_seq ?_; refine W_region rfl ?_; refine Wo rfl (opv_move (v := .int _ _) rfl) ?_; refine Wo rfl (opv_fieldAddr Try.underlying25 rfl rfl Try.sizeOf23 rfl) ?_
        refine Wo (v := u2) rfl (opv_load Try.isAgg23 rfl ((hB1.ext ((E2.trans E3).trans E4)).cell rfl)) ?_; refine Wo rfl (opv_len Try.underlying23 rfl h2) ?_; refine Wo rfl (opv_makeFunc rfl rfl) ?_
        refine Wo_call rfl (opc3 (a := .int _ _) (b := .int _ _) (c := .func _ _ _) Try.call61 rfl rfl rfl) (hsb _ _ _ _ ((((E1.trans E2).trans E3).trans E4)) ((hB1.ext ((E2.trans E3).trans E4))) ((hB2.ext (E3.trans E4))) (by omega)) ?_
        rintro _ w5 ⟨u3, q1, rfl, E5, hO1, hQ1, hd1⟩; have icu3 := OwnedB.isC (Owned.toB hO1); have cpu3 := OwnedB.capOk (Owned.toB hO1); have icq1 := OwnedB.isC (Owned.toB hQ1); have cpq1 := OwnedB.capOk (Owned.toB hQ1)
        have hs5 := E5.size; refine Wo_st2 rfl Try.sizeOf25 rfl rfl (by first | rfl | assumption) (by first | rfl | assumption) (hB3.ext (E4.trans E5)) (by omega) ((((E1.trans E2).trans E3).trans E4).trans E5) ?_; rintro w6 E6 hB3 K1 hz1
        have E7 := (((E2.trans E3).trans E4).trans E5).wroteAt ((((E1.trans E2).trans E3).trans E4).trans E5) E6 K1 hz1 (by omega); have szE7 := E7.size
        have E8 := ((E3.trans E4).trans E5).wroteAt ((((E1.trans E2).trans E3).trans E4).trans E5) E6 K1 hz1 (by omega); have szE8 := E8.size; have hB1 := (hB1.ext (((E2.trans E3).trans E4).trans E5)).of_heap (K1 _ (by omega))
        have hB2 := (hB2.ext ((E3.trans E4).trans E5)).of_heap (K1 _ (by omega)); have hO1 := hO1.toB.wrote K1 (by omega); have hQ1 := hQ1.toB.wrote K1 (by omega); refine Wo_nil ?_; refine W_ret ?_
      exact ⟨_, _, _, rfl, hB3, _, _, rfl, by assumption, hO1.o.mono (by omega), hQ1.o.mono (by omega), hd1⟩
    · have e0 : rstV A B z = ([], []) := if_neg (fun h => hz h.2)
      rw [e0]
      clear hok
      refine fn_of_Wc Try.func20 rfl Try.results20 Try.ntmps20 rfl Try.isAgg25 Try.sizeOf25 ?_
      focus
        refine W_seq ?_; refine W_region rfl ?_; refine Wo_box rfl rfl rfl ?_; rintro b1 w1 hb1 E1 hB1; have hlb1 := hB1.lt; have hs1 := E1.size; refine Wo_box rfl rfl rfl ?_; rintro b2 w2 hb2 E2 hB2; have hlb2 := hB2.lt
        have hs2 := E2.size; refine Wo_alloc2 rfl flat25 ?_; rintro b3 w3 hb3 E3 hB3; have hlb3 := hB3.lt; have hs3 := E3.size; refine Wo_nil ?_; refine W_seq ?_; refine W_seq ?_; refine W_region rfl ?_
        refine Wo (v := .agg _) rfl (opv_load2 Try.isAgg25 Try.sizeOf25 rfl (hB1.ext (E2.trans E3))) ?_
        refine Wo_call rfl (opc1 (a := .agg _) Try.call54 rfl) (k1 _ _ _ ((Mono.mono ((E1.trans E2).trans E3) h1)) ((Mono.mono ((E1.trans E2).trans E3) h2))) ?_; rintro _ w4 ⟨rfl, E4⟩; have hs4 := E4.size; refine Wo rfl (opv_not rfl) ?_
        refine Wo_split rfl (opv_move (v := .bool _) rfl) (fun h3 => ?_) (fun h3 => ?_); contradiction; refine Wo (v := .int _ _) rfl (opv_load Try.isAgg3 rfl ((hB2.ext (E3.trans E4)).cell rfl)) ?_; refine Wo rfl (opv_lss rfl rfl) ?_
        refine Wo rfl (opv_pick_f (v := .bool _) rfl rfl) ?_; refine Wo_split_dec rfl (opv_move (v := .bool _) rfl) (fun h4 => ?_) (fun h4 => ?_); refine Wo_skip rfl ?_; refine Wo_skip rfl ?_
        refine Wo rfl (opv_pick_t (v := .bool _) rfl rfl) ?_; refine Wo_nil ?_; refine W_cond_true rfl ?_; refine W_seq ?_; refine W_region rfl ?_; refine Wo rfl (opv_build (ps := []) (cs := [_, _]) flat25 rfl rfl) ?_
        refine Wo_st2 rfl Try.sizeOf25 rfl rfl (by first | rfl | assumption) (by first | rfl | assumption) (hB3.ext E4) (by omega) (((E1.trans E2).trans E3).trans E4) ?_; rintro w5 E5 hB3 K1 hz1
        have E6 := ((E2.trans E3).trans E4).wroteAt (((E1.trans E2).trans E3).trans E4) E5 K1 hz1 (by omega); have szE6 := E6.size; have E7 := (E3.trans E4).wroteAt (((E1.trans E2).trans E3).trans E4) E5 K1 hz1 (by omega)
        have szE7 := E7.size; have hB1 := (hB1.ext ((E2.trans E3).trans E4)).of_heap (K1 _ (by omega)); have hB2 := (hB2.ext (E3.trans E4)).of_heap (K1 _ (by omega)); refine Wo_nil ?_; refine W_ret ?_; rotate_left
        refine Wo (v := .int _ _) rfl (opv_load Try.isAgg3 rfl ((hB2.ext (E3.trans E4)).cell rfl)) ?_; refine Wo rfl (opv_gtr rfl rfl) ?_; refine Wo rfl (opv_pick_f (v := .bool _) rfl rfl) ?_; refine Wo_nil ?_
        refine W_cond_dec rfl (fun h5 => ?_) (fun h5 => ?_); refine W_seq ?_; refine W_region rfl ?_; refine Wo rfl (opv_build (ps := []) (cs := [_, _]) flat25 rfl rfl) ?_
        refine Wo_st2 rfl Try.sizeOf25 rfl rfl (by first | rfl | assumption) (by first | rfl | assumption) (hB3.ext E4) (by omega) (((E1.trans E2).trans E3).trans E4) ?_; rintro w5 E5 hB3 K1 hz1
        have E6 := ((E2.trans E3).trans E4).wroteAt (((E1.trans E2).trans E3).trans E4) E5 K1 hz1 (by omega); have szE6 := E6.size; have E7 := (E3.trans E4).wroteAt (((E1.trans E2).trans E3).trans E4) E5 K1 hz1 (by omega)
        have szE7 := E7.size; have hB1 := (hB1.ext ((E2.trans E3).trans E4)).of_heap (K1 _ (by omega)); have hB2 := (hB2.ext (E3.trans E4)).of_heap (K1 _ (by omega)); refine Wo_nil ?_; refine W_ret ?_; rotate_left; (exfalso; omega)
      all_goals exact ⟨_, _, _, rfl, by assumption, _, _, rfl, by assumption, Owned.nil, Owned.nil, .inr rfl⟩
  · have k1 := hok false (decide_eq_false hs)
    have e0 : rstV A B z = ([], []) := if_neg (fun h => hs h.1)
    rw [e0]
    clear hok
    refine fn_of_Wc Try.func20 rfl Try.results20 Try.ntmps20 rfl Try.isAgg25 Try.sizeOf25 ?_
    focus
      refine W_seq ?_; refine W_region rfl ?_; refine Wo_box rfl rfl rfl ?_; rintro b1 w1 hb1 E1 hB1; have hlb1 := hB1.lt; have hs1 := E1.size; refine Wo_box rfl rfl rfl ?_; rintro b2 w2 hb2 E2 hB2; have hlb2 := hB2.lt
      have hs2 := E2.size; refine Wo_alloc2 rfl flat25 ?_; rintro b3 w3 hb3 E3 hB3; have hlb3 := hB3.lt; have hs3 := E3.size; refine Wo_nil ?_; refine W_seq ?_; refine W_seq ?_; refine W_region rfl ?_
      refine Wo (v := .agg _) rfl (opv_load2 Try.isAgg25 Try.sizeOf25 rfl (hB1.ext (E2.trans E3))) ?_
      refine Wo_call rfl (opc1 (a := .agg _) Try.call54 rfl) (k1 _ _ _ ((Mono.mono ((E1.trans E2).trans E3) h1)) ((Mono.mono ((E1.trans E2).trans E3) h2))) ?_; rintro _ w4 ⟨rfl, E4⟩; have hs4 := E4.size; refine Wo rfl (opv_not rfl) ?_
      refine Wo_split rfl (opv_move (v := .bool _) rfl) (fun h3 => ?_) (fun h3 => ?_); refine Wo_skip rfl ?_; refine Wo_skip rfl ?_; refine Wo rfl (opv_pick_t (v := .bool _) rfl rfl) ?_; refine Wo rfl (opv_move (v := .bool _) rfl) ?_
      refine Wo_skip rfl ?_; refine Wo_skip rfl ?_; refine Wo rfl (opv_pick_t (v := .bool _) rfl rfl) ?_; refine Wo_nil ?_; refine W_cond_true rfl ?_; refine W_seq ?_; refine W_region rfl ?_
      refine Wo rfl (opv_build (ps := []) (cs := [_, _]) flat25 rfl rfl) ?_; refine Wo_st2 rfl Try.sizeOf25 rfl rfl (by first | rfl | assumption) (by first | rfl | assumption) (hB3.ext E4) (by omega) (((E1.trans E2).trans E3).trans E4) ?_
      rintro w5 E5 hB3 K1 hz1; have E6 := ((E2.trans E3).trans E4).wroteAt (((E1.trans E2).trans E3).trans E4) E5 K1 hz1 (by omega); have szE6 := E6.size
      have E7 := (E3.trans E4).wroteAt (((E1.trans E2).trans E3).trans E4) E5 K1 hz1 (by omega); have szE7 := E7.size; have hB1 := (hB1.ext ((E2.trans E3).trans E4)).of_heap (K1 _ (by omega))
      have hB2 := (hB2.ext (E3.trans E4)).of_heap (K1 _ (by omega)); refine Wo_nil ?_; refine W_ret ?_; rotate_left; contradiction
    all_goals exact ⟨_, _, _, rfl, by assumption, _, _, rfl, by assumption, Owned.nil, Owned.nil, .inr rfl⟩

end Go.Proofs.Ytlalfmialbolhaa
namespace Go.Proofs.Ytlalfmialbolhaa
open Go.Hs
set_option maxRecDepth 10000
set_option maxHeartbeats 4000000
set_option linter.unusedVariables false
set_option linter.unusedSimpArgs false

end Go.Proofs.Ytlalfmialbolhaa
namespace Go.Proofs.Ytlalfmialbolhaa
open Go.Hs
set_option maxRecDepth 10000
set_option maxHeartbeats 4000000
set_option linter.unusedVariables false

theorem pick_ok {w0 : World} (w : World) {br m : Nat} (n : Int) (hr : Rdr w0 w br m) (hm : m ≤ 1000000000) :
    Does Try.prog 52 [.pointer (some ⟨br, 0, none⟩), .int .i64 n] w (RetD w0 w br (m + 1) (fun x : Nat => .int .i64 (x : Int)) (fun x _ => 1 ≤ n → (x : Int) < n)) := by
  obtain ⟨E0, hge, hlt, vb, bs, p, hb, hlen, hB, hp⟩ := hr
  have hbs := hb.le
  refine fn_of_W1 Try.func52 rfl Try.results52 Try.ntmps52 rfl ?_
  have hG : w.grownBy w (some br) := grownBy_refl _ _
  have hp1 : (p : Int) + 1 - 1 = p := by omega
  rcases Nat.eq_zero_or_pos bs.length with h0 | h0
  · have e0 : bs = [] := List.eq_nil_of_length_eq_zero h0
    focus
      have szE0 := E0.size; refine W_seq ?_; refine W_region rfl ?_; refine Wo rfl (opv_assign (v := .int _ _) rfl) ?_; refine Wo_nil ?_; refine W_seq ?_; refine W_region rfl ?_; refine Wo rfl (opv_move (v := .pointer _) rfl) ?_
      refine Wo rfl (opv_move (v := .pointer _) rfl) ?_; refine Wo rfl (opv_nilCheck rfl) ?_; refine Wo rfl (opv_fieldAddr Try.underlying73 rfl rfl Try.sizeOf3 rfl) ?_
      refine Wo (v := .int _ _) rfl (opv_load Try.isAgg3 rfl (hB.cell rfl)) ?_; refine Wo rfl (opv_add rfl rfl (by omega)) ?_; refine Wo rfl (opv_nilCheck rfl) ?_; refine Wo rfl (opv_fieldAddr Try.underlying73 rfl rfl Try.sizeOf3 rfl) ?_
      refine Wo_st (v := .int _ _) rfl Try.sizeOf3 rfl rfl rfl hB (by simp) (by omega) E0 ?_; rintro w1 E1 hB K1 hz1; simp only [List.set] at hB; have hG := grownBy_wrote hG E0 E1 K1 hz1 (by first | exact .inr rfl | omega)
      refine Wo_nil ?_; refine W_seq ?_; refine W_seq ?_; refine W_region rfl ?_; refine Wo rfl (opv_move (v := .int _ _) rfl) ?_; refine Wo rfl (opv_lss rfl rfl) ?_
      refine Wo_split_dec rfl (opv_move (v := .bool _) rfl) (fun h1 => ?_) (fun h1 => ?_); refine Wo_skip rfl ?_; refine Wo_skip rfl ?_; refine Wo_skip rfl ?_; refine Wo_skip rfl ?_; refine Wo_skip rfl ?_; refine Wo_skip rfl ?_
      refine Wo rfl (opv_pick_t (v := .bool _) rfl rfl) ?_; refine Wo_nil ?_; refine W_cond_true rfl ?_; refine W_seq ?_; refine W_region rfl ?_; refine Wo rfl (opv_assign (v := .int _ _) rfl) ?_; refine Wo_nil ?_; refine W_ret ?_
      refine at_ret (v := .int _ _) rfl ?_; rotate_left; refine Wo rfl (opv_move (v := .pointer _) rfl) ?_; refine Wo rfl (opv_nilCheck rfl) ?_; refine Wo rfl (opv_fieldAddr Try.underlying73 rfl rfl Try.sizeOf22 rfl) ?_
      refine Wo (v := vb) rfl (opv_load Try.isAgg22 rfl (hB.cell rfl)) ?_; refine Wo rfl (opv_len Try.underlying22 rfl hb) ?_; refine Wo rfl (opv_eql rfl rfl) ?_; refine Wo rfl (opv_pick_f (v := .bool _) rfl rfl) ?_; refine Wo_nil ?_
      refine W_cond_dec rfl (fun h2 => ?_) (fun h2 => ?_); refine W_seq ?_; refine W_region rfl ?_; refine Wo rfl (opv_assign (v := .int _ _) rfl) ?_; refine Wo_nil ?_; refine W_ret ?_; refine at_ret (v := .int _ _) rfl ?_; rotate_left
      (exfalso; omega)
    all_goals exact ⟨0, rfl, hG, ⟨by assumption, hge, hB.lt, vb, bs, p + 1, hb, hlen, hB, by omega⟩, fun h => by omega⟩
  have hL : (0 : Int) < (bs.length : Int) := by omega
  have hm1 := Int.emod_lt_of_pos (p : Int) hL
  have hm2 := Int.emod_nonneg (p : Int) (show (bs.length : Int) ≠ 0 by omega)
  have hm3 := Int.emod_lt_of_pos ((p : Int) * 7 + 3) hL
  have hm4 := Int.emod_nonneg ((p : Int) * 7 + 3) (show (bs.length : Int) ≠ 0 by omega)
  have hm5 : (p : Int) / (bs.length : Int) ≤ p := Int.ediv_le_self _ (by omega)
  have hm6 : 0 ≤ (p : Int) / (bs.length : Int) := Int.ediv_nonneg (by omega) (by omega)
  have hm1 := Int.emod_lt_of_pos ((p : Int) + 1 - 1) hL
  have hm2 := Int.emod_nonneg ((p : Int) + 1 - 1) (show (bs.length : Int) ≠ 0 by omega)
  have hm3 := Int.emod_lt_of_pos (((p : Int) + 1 - 1) * 7 + 3) hL
  have hm4 := Int.emod_nonneg (((p : Int) + 1 - 1) * 7 + 3) (show (bs.length : Int) ≠ 0 by omega)
  have hm5 : ((p : Int) + 1 - 1) / (bs.length : Int) ≤ p := by rw [hp1]; exact hm5
  have hm6 : 0 ≤ ((p : Int) + 1 - 1) / (bs.length : Int) := by rw [hp1]; exact hm6
  focus
    have szE0 := E0.size; refine W_seq ?_; refine W_region rfl ?_; refine Wo rfl (opv_assign (v := .int _ _) rfl) ?_; refine Wo_nil ?_; refine W_seq ?_; refine W_region rfl ?_; refine Wo rfl (opv_move (v := .pointer _) rfl) ?_
    refine Wo rfl (opv_move (v := .pointer _) rfl) ?_; refine Wo rfl (opv_nilCheck rfl) ?_; refine Wo rfl (opv_fieldAddr Try.underlying73 rfl rfl Try.sizeOf3 rfl) ?_
    refine Wo (v := .int _ _) rfl (opv_load Try.isAgg3 rfl (hB.cell rfl)) ?_; refine Wo rfl (opv_add rfl rfl (by omega)) ?_; refine Wo rfl (opv_nilCheck rfl) ?_; refine Wo rfl (opv_fieldAddr Try.underlying73 rfl rfl Try.sizeOf3 rfl) ?_
    refine Wo_st (v := .int _ _) rfl Try.sizeOf3 rfl rfl rfl hB (by simp) (by omega) E0 ?_; rintro w1 E1 hB K1 hz1; simp only [List.set] at hB; have hG := grownBy_wrote hG E0 E1 K1 hz1 (by first | exact .inr rfl | omega)
    refine Wo_nil ?_; refine W_seq ?_; refine W_seq ?_; refine W_region rfl ?_; refine Wo rfl (opv_move (v := .int _ _) rfl) ?_; refine Wo rfl (opv_lss rfl rfl) ?_
    refine Wo_split_dec rfl (opv_move (v := .bool _) rfl) (fun h1 => ?_) (fun h1 => ?_); refine Wo_skip rfl ?_; refine Wo_skip rfl ?_; refine Wo_skip rfl ?_; refine Wo_skip rfl ?_; refine Wo_skip rfl ?_; refine Wo_skip rfl ?_
    refine Wo rfl (opv_pick_t (v := .bool _) rfl rfl) ?_; refine Wo_nil ?_; refine W_cond_true rfl ?_; refine W_seq ?_; refine W_region rfl ?_; refine Wo rfl (opv_assign (v := .int _ _) rfl) ?_; refine Wo_nil ?_; refine W_ret ?_
    refine at_ret (v := .int _ _) rfl ?_; rotate_left; refine Wo rfl (opv_move (v := .pointer _) rfl) ?_; refine Wo rfl (opv_nilCheck rfl) ?_; refine Wo rfl (opv_fieldAddr Try.underlying73 rfl rfl Try.sizeOf22 rfl) ?_
    refine Wo (v := vb) rfl (opv_load Try.isAgg22 rfl (hB.cell rfl)) ?_; refine Wo rfl (opv_len Try.underlying22 rfl hb) ?_; refine Wo rfl (opv_eql rfl rfl) ?_; refine Wo rfl (opv_pick_f (v := .bool _) rfl rfl) ?_; refine Wo_nil ?_
    refine W_cond_dec rfl (fun h2 => ?_) (fun h2 => ?_); (exfalso; omega); refine W_skip ?_; refine W_seq ?_; refine W_region rfl ?_; refine Wo rfl (opv_move (v := .pointer _) rfl) ?_; refine Wo rfl (opv_nilCheck rfl) ?_
    refine Wo rfl (opv_fieldAddr Try.underlying73 rfl rfl Try.sizeOf3 rfl) ?_; refine Wo (v := .int _ _) rfl (opv_load Try.isAgg3 rfl (hB.cell rfl)) ?_; refine Wo rfl (opv_sub rfl rfl (by omega)) ?_
    refine Wo rfl (opv_assign (v := .int _ _) rfl) ?_; refine Wo_nil ?_; refine W_seq ?_; refine W_seq ?_; refine W_region rfl ?_; refine Wo rfl (opv_move (v := .int _ _) rfl) ?_; refine Wo rfl (opv_move (v := .pointer _) rfl) ?_
    refine Wo rfl (opv_nilCheck rfl) ?_; refine Wo rfl (opv_fieldAddr Try.underlying73 rfl rfl Try.sizeOf22 rfl) ?_; refine Wo (v := vb) rfl (opv_load Try.isAgg22 rfl (hB.cell rfl)) ?_; refine Wo rfl (opv_len Try.underlying22 rfl hb) ?_
    refine Wo rfl (opv_lss rfl rfl) ?_; refine Wo_nil ?_; refine W_cond_dec rfl (fun h3 => ?_) (fun h3 => ?_); refine W_seq ?_; refine W_region rfl ?_; refine Wo rfl (opv_move (v := .pointer _) rfl) ?_
    refine Wo rfl (opv_nilCheck rfl) ?_; refine Wo rfl (opv_fieldAddr Try.underlying73 rfl rfl Try.sizeOf22 rfl) ?_; refine Wo (v := vb) rfl (opv_load Try.isAgg22 rfl (hB.cell rfl)) ?_; refine Wo rfl (opv_move (v := .int _ _) rfl) ?_
    refine Wo_getB_z Try.underlying22 Try.sizeOf5 Try.isAgg5 rfl (fun _ => rfl) rfl hb E1 rfl (by first | omega | (simp <;> omega)) ?_; rintro _ n1 hn1 hn1'; refine Wo rfl (opv_conv_int Try.underlying5 Try.underlying3 rfl (by omega)) ?_
    refine Wo rfl (opv_move (v := .int _ _) rfl) ?_; refine Wo rfl (opv_rem rfl rfl (by omega)) ?_; refine Wo rfl (opv_assign (v := .int _ _) rfl) ?_; refine Wo_nil ?_; refine W_ret ?_; refine at_ret (v := .int _ _) rfl ?_; rotate_left
    refine W_skip ?_; refine W_seq ?_; refine W_draw mixed (by kernel_rfl) rfl ?_; refine Wq_o rfl (fun _ _ => opv_move (v := .pointer _) rfl) ?_; refine Wq_o rfl (fun _ _ => opv_nilCheck rfl) ?_
    refine Wq_o rfl (fun _ _ => opv_fieldAddr Try.underlying73 rfl rfl Try.sizeOf22 rfl) ?_; refine Wq_o (v := vb) rfl (fun w' hw' => opv_load Try.isAgg22 rfl ((hB.ext hw').cell rfl)) ?_
    refine Wq_o rfl (fun _ _ => opv_move (v := .int _ _) rfl) ?_; refine Wq_o rfl (fun _ _ => opv_move (v := .pointer _) rfl) ?_; refine Wq_o rfl (fun _ _ => opv_nilCheck rfl) ?_
    refine Wq_o rfl (fun _ _ => opv_fieldAddr Try.underlying73 rfl rfl Try.sizeOf22 rfl) ?_; refine Wq_o (v := vb) rfl (fun w' hw' => opv_load Try.isAgg22 rfl ((hB.ext hw').cell rfl)) ?_
    refine Wq_o rfl (fun _ _ => opv_len Try.underlying22 rfl hb) ?_; refine Wq_o rfl (fun _ _ => opv_rem rfl rfl (by omega)) ?_
    refine Wq_getB_z Try.underlying22 Try.sizeOf5 Try.isAgg5 rfl (fun _ => rfl) rfl hb E1 rfl (by first | omega | (simp <;> omega)) ?_; rintro _ n1 hn1 hn1'
    refine Wq_o rfl (fun _ _ => opv_conv_int Try.underlying5 Try.underlying3 rfl (by omega)) ?_; refine Wq_o rfl (fun _ _ => opv_mul rfl rfl (by omega)) ?_; refine Wq_o rfl (fun _ _ => opv_move (v := .pointer _) rfl) ?_
    refine Wq_o rfl (fun _ _ => opv_nilCheck rfl) ?_; refine Wq_o rfl (fun _ _ => opv_fieldAddr Try.underlying73 rfl rfl Try.sizeOf22 rfl) ?_; refine Wq_o (v := vb) rfl (fun w' hw' => opv_load Try.isAgg22 rfl ((hB.ext hw').cell rfl)) ?_
    refine Wq_o rfl (fun _ _ => opv_move (v := .int _ _) rfl) ?_; refine Wq_o rfl (fun _ _ => opv_mul rfl rfl (by omega)) ?_; refine Wq_o rfl (fun _ _ => opv_add rfl rfl (by omega)) ?_
    refine Wq_o rfl (fun _ _ => opv_move (v := .pointer _) rfl) ?_; refine Wq_o rfl (fun _ _ => opv_nilCheck rfl) ?_; refine Wq_o rfl (fun _ _ => opv_fieldAddr Try.underlying73 rfl rfl Try.sizeOf22 rfl) ?_
    refine Wq_o (v := vb) rfl (fun w' hw' => opv_load Try.isAgg22 rfl ((hB.ext hw').cell rfl)) ?_; refine Wq_o rfl (fun _ _ => opv_len Try.underlying22 rfl hb) ?_; refine Wq_o rfl (fun _ _ => opv_rem rfl rfl (by omega)) ?_
    refine Wq_getB_z Try.underlying22 Try.sizeOf5 Try.isAgg5 rfl (fun _ => rfl) rfl hb E1 rfl (by first | omega | (simp <;> omega)) ?_; rintro _ n2 hn2 hn2'
    refine Wq_o rfl (fun _ _ => opv_conv_int Try.underlying5 Try.underlying3 rfl (by omega)) ?_; refine Wq_o rfl (fun _ _ => opv_mul rfl rfl (by omega)) ?_; refine Wq_o rfl (fun _ _ => opv_add rfl rfl (by omega)) ?_
    refine Wq_o rfl (fun _ _ => opv_move (v := .int _ _) rfl) ?_; refine Wq_o rfl (fun _ _ => opv_mul rfl rfl (by omega)) ?_; refine Wq_o rfl (fun _ _ => opv_add rfl rfl (by omega)) ?_
    refine Wq_o rfl (fun _ _ => opv_move (v := .int _ _) rfl) ?_; refine Wq_o rfl (fun _ _ => opv_move (v := .pointer _) rfl) ?_; refine Wq_o rfl (fun _ _ => opv_nilCheck rfl) ?_
    refine Wq_o rfl (fun _ _ => opv_fieldAddr Try.underlying73 rfl rfl Try.sizeOf22 rfl) ?_; refine Wq_o (v := vb) rfl (fun w' hw' => opv_load Try.isAgg22 rfl ((hB.ext hw').cell rfl)) ?_
    refine Wq_o rfl (fun _ _ => opv_len Try.underlying22 rfl hb) ?_; refine Wq_o rfl (fun _ _ => opv_quo rfl rfl (by omega)) ?_; refine Wq_o rfl (fun _ _ => opv_mul rfl rfl (by omega)) ?_
    refine Wq_o rfl (fun _ _ => opv_add rfl rfl (by omega)) ?_; refine Wq_o rfl (fun _ _ => opv_assign (v := .int _ _) rfl) ?_; refine Wq_nil (fun w2 E2 => ?_); have hG := grownBy_ext hG E2; have hs1 := E2.size; refine W_seq ?_
    refine W_region rfl ?_; refine Wo rfl (opv_move (v := .int _ _) rfl) ?_; refine Wo rfl (opv_move (v := .int _ _) rfl) ?_; refine Wo rfl (opv_quo rfl rfl (by omega)) ?_; refine Wo rfl (opv_xor rfl rfl (by omega)) ?_
    refine Wo rfl (opv_assign (v := .int _ _) rfl) ?_; refine Wo_nil ?_; refine W_seq ?_; refine W_region rfl ?_; refine Wo rfl (opv_move (v := .int _ _) rfl) ?_; refine Wo rfl (opv_move (v := .int _ _) rfl) ?_
    refine Wo rfl (opv_rem rfl rfl (by omega)) ?_; refine Wo rfl (opv_assign (v := .int _ _) rfl) ?_; refine Wo_nil ?_; refine W_ret ?_; refine at_ret (v := .int _ _) rfl ?_; rotate_left
  · exact ⟨0, rfl, hG, ⟨by assumption, hge, hB.lt, vb, bs, p + 1, hb, hlen, hB, by omega⟩, fun h => by omega⟩
  · have e := Int.emod_nonneg (n1 : Int) (show n ≠ 0 by omega)
    refine ⟨((n1 : Int) % n).toNat, by simp only [Int.toNat_of_nonneg e], hG, ⟨by assumption, hge, hB.lt, vb, bs, p + 1, hb, hlen, hB, by omega⟩, fun h => ?_⟩
    simp only [Int.toNat_of_nonneg e]
    exact Int.emod_lt_of_pos _ (by omega)
  · refine at_ret (v := .int .i64 _) rfl ?_
    generalize hz : ((((n1 * 131 : Int) + n2 * 1117 + ((p : Int) + 1 - 1) * 29 + ((p : Int) + 1 - 1) / (bs.length : Int) * 53).toNat ^^^ (((n1 * 131 : Int) + n2 * 1117 + ((p : Int) + 1 - 1) * 29 + ((p : Int) + 1 - 1) / (bs.length : Int) * 53) / 64).toNat : Nat) : Int) = z
    have hz0 : 0 ≤ z := by rw [← hz]; omega
    have hB := hB.ext (show Ext w1 w2 by assumption)
    have e := Int.emod_nonneg z (show n ≠ 0 by omega)
    refine ⟨(z % n).toNat, by simp only [Int.toNat_of_nonneg e], hG, ⟨E1.trans (by assumption), hge, hB.lt, vb, bs, p + 1, hb, hlen, hB, by omega⟩, fun h => ?_⟩
    simp only [Int.toNat_of_nonneg e]
    exact Int.emod_lt_of_pos _ (by omega)

theorem odd_ok {w0 : World} (w : World) {br m : Nat} (n : Int) (hr : Rdr w0 w br m) (hm : m ≤ 1000000000) (hn : -1000000 ≤ n ∧ n ≤ 1000000) :
    Does Try.prog 79 [.pointer (some ⟨br, 0, none⟩), .int .i64 n] w (RetD w0 w br (m + 1) Value.bool (fun _ _ => True)) := by
  refine fn_of_W1 Try.func79 rfl Try.results79 Try.ntmps79 rfl ?_
  have hG : w.grownBy w (some br) := grownBy_refl _ _
  focus
    refine W_seq ?_; refine W_region rfl ?_; refine Wo rfl (opv_assign (v := .bool _) rfl) ?_; refine Wo_nil ?_; refine W_seq ?_; refine W_region rfl ?_; refine Wo rfl (opv_move (v := .int _ _) rfl) ?_
    refine Wo rfl (opv_gtr rfl rfl) ?_; refine Wo_split_dec rfl (opv_move (v := .bool _) rfl) (fun h1 => ?_) (fun h1 => ?_); refine Wo rfl (opv_move (v := .pointer _) rfl) ?_; refine Wo rfl (opv_move (v := .int _ _) rfl) ?_
    refine Wo_call rfl (opc2 (a := .pointer _) (b := .int _ _) Try.call52 rfl rfl) (pick_ok _ _ (by assumption) (by assumption)) ?_; rintro _ w1 ⟨y1, rfl, E1, hr1, hy1⟩; (try dsimp only at hy1); have hlhr1 := hr1.lt
    have Ehr1 := hr1.old; have hG := grownBy_trans hG E1; have hs1 := E1.size; refine Wo rfl (opv_move (v := .int _ _) rfl) ?_; refine Wo rfl (opv_sub rfl rfl (by omega)) ?_; refine Wo rfl (opv_eql rfl rfl) ?_
    refine Wo rfl (opv_pick_t (v := .bool _) rfl rfl) ?_; refine Wo rfl (opv_assign (v := .bool _) rfl) ?_; refine Wo_nil ?_; refine W_ret ?_; refine at_ret (v := .bool _) rfl ?_; rotate_left; refine Wo_skip rfl ?_
    refine Wo_skip rfl ?_; refine Wo_skip rfl ?_; refine Wo_skip rfl ?_; refine Wo_skip rfl ?_; refine Wo_skip rfl ?_; refine Wo rfl (opv_pick_f (v := .bool _) rfl rfl) ?_; refine Wo rfl (opv_assign (v := .bool _) rfl) ?_
    refine Wo_nil ?_; refine W_ret ?_; refine at_ret (v := .bool _) rfl ?_; rotate_left
  all_goals first | exact ⟨_, rfl, hG, hr1, trivial⟩ | exact ⟨_, rfl, hG, hr.le (by omega), trivial⟩


theorem flat73 : Flat Try.prog 73 [.slice none 0 0, .int .i64 0] := ⟨_, Try.underlying73, fun _ => by kernel_rfl, fun _ => by kernel_rfl⟩
theorem open_ok (w : World) (v : Value) (xs : List UInt8) (h : Bytes w v xs) (hc : CapOk v) :
    Does Try.prog 50 [v] w (RetX w (fun br : Nat => .pointer (some ⟨br, 0, none⟩)) (fun br w' => Rdr w w' br 0)) := by
  refine fn_of_W1 Try.func50 rfl Try.results50 Try.ntmps50 rfl ?_
  have hl := h.le
  obtain ⟨a, c, rfl, hR⟩ := id h
  obtain ⟨a', l', c', e, hcap⟩ := hc
  cases e
  by_cases h2 : 2000 < xs.length
  · obtain ⟨b, o, u, rfl, _⟩ := hR.at (show 0 < xs.length by omega)
    have hT := h.take (cap' := c) 2000 (by omega)
    focus
      refine W_seq ?_; refine W_region rfl ?_; refine Wo rfl (opv_assign (v := .pointer _) rfl) ?_; refine Wo_nil ?_; refine W_seq ?_; refine W_seq ?_; refine W_region rfl ?_; refine Wo rfl (opv_move (v := .slice _ _ _) rfl) ?_
      refine Wo rfl (opv_len Try.underlying22 rfl h) ?_; refine Wo rfl (opv_gtr rfl rfl) ?_; refine Wo_nil ?_; refine W_cond_dec rfl (fun h1 => ?_) (fun h1 => ?_); refine W_region rfl ?_
      refine Wo rfl (opv_move (v := .slice _ _ _) rfl) ?_; refine Wo rfl (opv_slice_sl_hi Try.underlying22 Try.sizeOf5 rfl rfl (by omega)) ?_; refine Wo rfl (opv_assign (v := .slice _ _ _) rfl) ?_; refine Wo_nil ?_; refine W_seq ?_
      refine W_region rfl ?_; refine Wo rfl (opv_move (v := .slice _ _ _) rfl) ?_; refine Wo rfl (opv_build (ps := [(0, .slice _ _ _)]) (cs := [_, _]) flat73 rfl rfl) ?_; refine Wo_box rfl rfl rfl ?_; rintro b1 w1 hb1 E1 hB1
      have hlb1 := hB1.lt; have hs1 := E1.size; refine Wo rfl (opv_assign (v := .pointer _) rfl) ?_; refine Wo_nil ?_; refine W_ret ?_; refine at_ret (v := .pointer _) rfl ?_; refine ⟨E1, _, rfl, ?_⟩; (try dsimp only); rotate_left
      (exfalso; omega)
    all_goals exact ⟨by assumption, by assumption, by assumption, _, _, 0, hT, by simp; omega, by assumption, by omega⟩
  · focus
      refine W_seq ?_; refine W_region rfl ?_; refine Wo rfl (opv_assign (v := .pointer _) rfl) ?_; refine Wo_nil ?_; refine W_seq ?_; refine W_seq ?_; refine W_region rfl ?_; refine Wo rfl (opv_move (v := .slice _ _ _) rfl) ?_
      refine Wo rfl (opv_len Try.underlying22 rfl h) ?_; refine Wo rfl (opv_gtr rfl rfl) ?_; refine Wo_nil ?_; refine W_cond_dec rfl (fun h1 => ?_) (fun h1 => ?_); (exfalso; omega); refine W_skip ?_; refine W_seq ?_
      refine W_region rfl ?_; refine Wo rfl (opv_move (v := .slice _ _ _) rfl) ?_; refine Wo rfl (opv_build (ps := [(0, .slice _ _ _)]) (cs := [_, _]) flat73 rfl rfl) ?_; refine Wo_box rfl rfl rfl ?_; rintro b1 w1 hb1 E1 hB1
      have hlb1 := hB1.lt; have hs1 := E1.size; refine Wo rfl (opv_assign (v := .pointer _) rfl) ?_; refine Wo_nil ?_; refine W_ret ?_; refine at_ret (v := .pointer _) rfl ?_; refine ⟨E1, _, rfl, ?_⟩; (try dsimp only)
    all_goals exact ⟨by assumption, by assumption, by assumption, _, _, 0, h, by omega, by assumption, by omega⟩
end Go.Proofs.Ytlalfmialbolhaa
namespace Go.Proofs.Ytlalfmialbolhaa
open Go.Hs
set_option maxRecDepth 10000
set_option maxHeartbeats 4000000
set_option linter.unusedVariables false
set_option linter.unusedSimpArgs false

end Go.Proofs.Ytlalfmialbolhaa
namespace Go.Proofs.Ytlalfmialbolhaa
open Go.Hs
set_option maxRecDepth 10000
set_option maxHeartbeats 4000000
set_option linter.unusedVariables false
set_option linter.unusedSimpArgs false

theorem Stream_ok {w0 : World} (w : World) {br m : Nat} (n : Int) (hr : Rdr w0 w br m) (hm : m ≤ 100000000) (hn : 0 ≤ n ∧ n ≤ 1000) :
    Does Try.prog 51 [.pointer (some ⟨br, 0, none⟩), .int .i64 n] w (RetDS w0 w br (m + 12) 3 (fun A B => A.length ≤ 12 ∧ B.length ≤ 8)) := by
  refine fn_of_Wc Try.func51 rfl Try.results51 Try.ntmps51 rfl Try.isAgg25 Try.sizeOf25 ?_
  have hG : w.grownBy w (some br) := grownBy_refl _ _
  have hlr := hr.lt
  have hgr := hr.ge
  have E0 := hr.old
  have litown : True := trivial
  focus
    have szE0 := E0.size; refine W_seq ?_; refine W_region rfl ?_; refine Wo_alloc2 rfl flat25 ?_; rintro b1 w1 hb1 E1 hB1; have hlb1 := hB1.lt; have hr := hr.ext E1; have hG := grownBy_ext hG E1; have hs1 := E1.size; refine Wo_nil ?_
    refine W_seq ?_; refine W_region rfl ?_; refine Wo rfl (opv_build (ps := []) (cs := [_, _]) flat25 rfl rfl) ?_; refine Wo_alloc2 rfl flat25 ?_; rintro b2 w2 hb2 E2 hB2; have hlb2 := hB2.lt; have hr := hr.ext E2
    have hG := grownBy_ext hG E2; have hs2 := E2.size; refine Wo_st2 rfl Try.sizeOf25 rfl rfl (by first | rfl | assumption) (by first | rfl | assumption) hB2 (by omega) ((E0.trans E1).trans E2) ?_; rintro w3 E3 hB2 K1 hz1
    have E4 := (E1.trans E2).wroteAt ((E0.trans E1).trans E2) E3 K1 hz1 (by omega); have szE4 := E4.size; have E5 := E2.wroteAt ((E0.trans E1).trans E2) E3 K1 hz1 (by omega); have szE5 := E5.size
    have hB1 := (hB1.ext E2).of_heap (K1 _ (by omega)); have hr := hr.wrote E3 (K1 _ (by omega)) hz1; have hG := grownBy_wrote hG ((E0.trans E1).trans E2) E3 K1 hz1 (by first | exact .inr rfl | omega); refine Wo_nil ?_; refine W_seq ?_
    refine W_seq ?_; refine W_region rfl ?_; refine Wo rfl (opv_move (v := .pointer _) rfl) ?_; refine Wo_call rfl (opc2 (a := .pointer _) (b := .int _ _) Try.call52 rfl rfl) (pick_ok _ _ (by assumption) (by omega)) ?_
    rintro _ w4 ⟨y1, rfl, E6, hr1, hy1⟩; (try dsimp only at hy1); have hlhr1 := hr1.lt; have Ehr1 := hr1.old; have hB2 := hB2.grown E6 (by simp only [ne_eq, Option.some.injEq]; omega)
    have hB1 := hB1.grown E6 (by simp only [ne_eq, Option.some.injEq]; omega); have hG := grownBy_trans hG E6; have hs3 := E6.size; refine Wo rfl (opv_assign (v := .int _ _) rfl) ?_; refine Wo_nil ?_; refine W_block ?_
  have hy1' := hy1 (by omega)
  have hs4 := hG.size
  clear hr E6
  refine W_loop [6, 11, 12, 13, 14, 15, 16, 17, 18, 19, 20, 21] (fun ((k, o, A) : Nat × Value × List Int) => [(6, .int .i64 (k : Int))]) (fun (k, o, A) w' => w.grownBy w' (some br) ∧ Rdr w0 w' br (m + 1 + (y1 - k)) ∧ k ≤ y1 ∧ w4.heap.size ≤ w'.heap.size ∧ Blk w' b1 [.slice none 0 0, .slice none 0 0] ∧ Blk w' b2 [o, .slice none 0 0] ∧ Owned w4.heap.size XI w' o A ∧ A.length + k = y1) (fun x => x.1) (y1, .slice none 0 0, []) (by repeat (first | exact trivial | refine And.intro rfl ?_)) ?_ ?_
  · exact ⟨hG, hr1.le (by omega), Nat.le_refl _, Nat.le_refl _, hB1, hB2, Owned.nil, by simp⟩
  clear hB1 hB2 hr1 hG
  rintro ⟨k, o, A⟩ ρj w5 ⟨hG, hr, hk, hs5, hB1, hB2, hO, hA⟩
  have E5 := hr.old
  have hlr5 := hr.lt
  have hs6 := hG.size
  by_cases hk0 : 0 < k
  · focus
      have szE5 := E5.size; have szEhr1 := Ehr1.size; have szE5 := E5.size; have szE4 := E4.size; have szE3 := E3.size; have szE2 := E2.size; have szE1 := E1.size; have szE0 := E0.size; refine W_seq ?_; refine W_seq ?_
      refine W_region rfl ?_; refine Wo rfl (opv_move (v := .int _ _) rfl) ?_; refine Wo rfl (opv_gtr rfl rfl) ?_; refine Wo_nil ?_; refine W_cond_dec rfl (fun h1 => ?_) (fun h1 => ?_); refine W_skip ?_; refine W_seq ?_; refine W_block ?_
      refine W_held (fun _ => True) mixed rfl (by kernel_rfl) ?_; intro w6 E6 K2 hz2; have hG := grownBy_ext hG E6; have hr := hr.ext E6; have hs7 := E6.size
      refine Wh_take 0 rfl (by kernel_rfl) (by kernel_rfl) rfl (fun _ _ => opv_fieldAddr Try.underlying25 rfl rfl Try.sizeOf23 rfl) trivial ?_
      refine Wh_take 2 rfl (by kernel_rfl) (by kernel_rfl) rfl (fun _ _ => opv_move (v := .pointer _) rfl) trivial ?_; refine Wh_all (rs := [1, 3]) (by kernel_rfl) rfl ?_; refine WhAll_cons rfl ?_ ?_
      refine Wo (v := o) rfl (opv_load Try.isAgg23 rfl ((hB2.ext E6).cell rfl)) ?_; refine Wo_nil ?_; refine ⟨trivial, ?_⟩; refine Wh_all (rs := [3]) (by kernel_rfl) rfl ?_; refine WhAll_cons rfl ?_ ?_
      refine Wo_call rfl (opc2 (a := .pointer _) (b := .int _ _) Try.call52 rfl rfl) (pick_ok _ _ (by assumption) (by omega)) ?_; rintro _ w7 ⟨y2, rfl, E7, hr1, hy2⟩; (try dsimp only at hy2); have hlhr1 := hr1.lt; have Ehr1 := hr1.old
      have hB1 := (hB1.ext E6).grown E7 (by simp only [ne_eq, Option.some.injEq]; omega); have hB2 := (hB2.ext E6).grown E7 (by simp only [ne_eq, Option.some.injEq]; omega); have hO := (hO.toB.ext E6).grown E7 (by omega)
      have hG := grownBy_trans hG E7; have hs8 := E7.size; refine Wo_nil ?_; refine ⟨trivial, ?_⟩; refine Wh_all (rs := [4]) (by kernel_rfl) rfl ?_; refine WhAll_cons rfl ?_ ?_
      refine Wo_buildSliceH (ps := [(0, .int _ _)]) (cs := [_]) rfl Try.underlying23 Try.sizeOf3 Try.zeroValue3 rfl rfl rfl rfl ?_; rintro b3 w8 hb3 E8 hB3 hHb3; have hlb3 := hB3.lt; have hLb3 := own_lit1 hHb3 hb3; clear hHb3
      have hr1 := hr1.ext E8; have hG := grownBy_ext hG E8; have hs9 := E8.size; refine Wo_nil ?_; refine ⟨trivial, ?_⟩; refine Wh_all (rs := [5]) (by kernel_rfl) rfl ?_; refine WhAll_cons rfl ?_ ?_
      refine Wo_app1 rfl el23 rfl rfl hB3 (hO.ext E8) Owned.int (Nat.le_refl _) (by first | omega | (simp <;> omega)) (by omega) (by omega) (Ehr1.trans E8) (by omega) ?_; have hT1 := (hO.ext E8); rintro v1 w9 hO E9 M1
      have hB1 := (hB1.ext E8).moves M1 hT1 (by omega); have hB2 := (hB2.ext E8).moves M1 hT1 (by omega); have hB3 := hB3.moves M1 hT1 (by omega); have hLb3 := hLb3.toB.moves M1 hT1 (by omega); have hr1 := hr1.moves E9 M1 hT1 (by omega)
      have hG := grownBy_moves hG M1 hT1 (by omega); have hs10 := E9.size; have szM1 := M1.1.size; have icv1 := OwnedB.isC (Owned.toB hO); refine Wo_nil ?_; refine ⟨trivial, ?_⟩
      refine Wh_take 6 rfl (by kernel_rfl) (by kernel_rfl) rfl (fun _ _ => opv_fieldAddr Try.underlying25 rfl rfl Try.sizeOf23 rfl) trivial ?_; refine Wh_all (rs := [7]) (by kernel_rfl) rfl ?_; refine WhAll_cons rfl ?_ ?_
      refine Wo_st (v := v1) rfl Try.sizeOf23 rfl rfl (OwnedB.isC hO.toB) hB2 (by simp) (by omega) E9 ?_; rintro w10 E10 hB2 K3 hz3; simp only [List.set] at hB2; have hO := hO.toB.wrote K3 (by omega)
      have hB1 := hB1.of_heap (K3 _ (by omega)); have hB3 := hB3.of_heap (K3 _ (by omega)); have hLb3 := hLb3.wrote K3 (by omega); have hr1 := hr1.wrote E10 (K3 _ (by omega)) hz3
      have hG := grownBy_wrote hG E9 E10 K3 hz3 (by first | exact .inr rfl | omega); refine Wo_nil ?_; refine ⟨trivial, ?_⟩; refine Wh_done (by kernel_rfl) ?_; refine W_region rfl ?_; refine Wo rfl (opv_move (v := .int _ _) rfl) ?_
      refine Wo rfl (opv_sub rfl rfl (by omega)) ?_; refine Wo rfl (opv_assign (v := .int _ _) rfl) ?_; refine Wo_nil ?_; rotate_left; exact WhAll_nil; exact WhAll_nil; exact WhAll_nil; exact WhAll_nil; refine WhAll_cons rfl ?_ ?_
      refine Wo_call rfl (opc2 (a := .pointer _) (b := .int _ _) Try.call52 rfl rfl) (pick_ok _ _ (by assumption) (by omega)) ?_; rintro _ w7 ⟨y2, rfl, E7, hr1, hy2⟩; (try dsimp only at hy2); have hlhr1 := hr1.lt; have Ehr1 := hr1.old
      have hB1 := (hB1.ext E6).grown E7 (by simp only [ne_eq, Option.some.injEq]; omega); have hB2 := (hB2.ext E6).grown E7 (by simp only [ne_eq, Option.some.injEq]; omega); have hO := (hO.toB.ext E6).grown E7 (by omega)
      have hG := grownBy_trans hG E7; have hs8 := E7.size; refine Wo_nil ?_; refine ⟨trivial, ?_⟩; refine Wh_all (rs := [1, 4]) (by kernel_rfl) rfl ?_; refine WhAll_cons rfl ?_ ?_
      refine Wo (v := o) rfl (opv_load Try.isAgg23 rfl (hB2.cell rfl)) ?_; refine Wo_nil ?_; refine ⟨trivial, ?_⟩; refine Wh_all (rs := [4]) (by kernel_rfl) rfl ?_; refine WhAll_cons rfl ?_ ?_
      refine Wo_buildSliceH (ps := [(0, .int _ _)]) (cs := [_]) rfl Try.underlying23 Try.sizeOf3 Try.zeroValue3 rfl rfl rfl rfl ?_; rintro b3 w8 hb3 E8 hB3 hHb3; have hlb3 := hB3.lt; have hLb3 := own_lit1 hHb3 hb3; clear hHb3
      have hr1 := hr1.ext E8; have hG := grownBy_ext hG E8; have hs9 := E8.size; refine Wo_nil ?_; refine ⟨trivial, ?_⟩; refine Wh_all (rs := [5]) (by kernel_rfl) rfl ?_; refine WhAll_cons rfl ?_ ?_
      refine Wo_app1 rfl el23 rfl rfl hB3 (hO.ext E8) Owned.int (Nat.le_refl _) (by first | omega | (simp <;> omega)) (by omega) (by omega) (Ehr1.trans E8) (by omega) ?_; have hT1 := (hO.ext E8); rintro v1 w9 hO E9 M1
      have hB1 := (hB1.ext E8).moves M1 hT1 (by omega); have hB2 := (hB2.ext E8).moves M1 hT1 (by omega); have hB3 := hB3.moves M1 hT1 (by omega); have hLb3 := hLb3.toB.moves M1 hT1 (by omega); have hr1 := hr1.moves E9 M1 hT1 (by omega)
      have hG := grownBy_moves hG M1 hT1 (by omega); have hs10 := E9.size; have szM1 := M1.1.size; have icv1 := OwnedB.isC (Owned.toB hO); refine Wo_nil ?_; refine ⟨trivial, ?_⟩
      refine Wh_take 6 rfl (by kernel_rfl) (by kernel_rfl) rfl (fun _ _ => opv_fieldAddr Try.underlying25 rfl rfl Try.sizeOf23 rfl) trivial ?_; refine Wh_all (rs := [7]) (by kernel_rfl) rfl ?_; refine WhAll_cons rfl ?_ ?_
      refine Wo_st (v := v1) rfl Try.sizeOf23 rfl rfl (OwnedB.isC hO.toB) hB2 (by simp) (by omega) E9 ?_; rintro w10 E10 hB2 K3 hz3; simp only [List.set] at hB2; have hO := hO.toB.wrote K3 (by omega)
      have hB1 := hB1.of_heap (K3 _ (by omega)); have hB3 := hB3.of_heap (K3 _ (by omega)); have hLb3 := hLb3.wrote K3 (by omega); have hr1 := hr1.wrote E10 (K3 _ (by omega)) hz3
      have hG := grownBy_wrote hG E9 E10 K3 hz3 (by first | exact .inr rfl | omega); refine Wo_nil ?_; refine ⟨trivial, ?_⟩; refine Wh_done (by kernel_rfl) ?_; refine W_region rfl ?_; refine Wo rfl (opv_move (v := .int _ _) rfl) ?_
      refine Wo rfl (opv_sub rfl rfl (by omega)) ?_; refine Wo rfl (opv_assign (v := .int _ _) rfl) ?_; refine Wo_nil ?_; rotate_left; exact WhAll_nil; exact WhAll_nil; exact WhAll_nil; refine WhAll_cons rfl ?_ ?_
      refine Wo_buildSliceH (ps := [(0, .int _ _)]) (cs := [_]) rfl Try.underlying23 Try.sizeOf3 Try.zeroValue3 rfl rfl rfl rfl ?_; rintro b3 w8 hb3 E8 hB3 hHb3; have hlb3 := hB3.lt; have hLb3 := own_lit1 hHb3 hb3; clear hHb3
      have hr1 := hr1.ext E8; have hG := grownBy_ext hG E8; have hs9 := E8.size; refine Wo_nil ?_; refine ⟨trivial, ?_⟩; refine Wh_all (rs := [1]) (by kernel_rfl) rfl ?_; refine WhAll_cons rfl ?_ ?_
      refine Wo (v := o) rfl (opv_load Try.isAgg23 rfl ((hB2.ext E8).cell rfl)) ?_; refine Wo_nil ?_; refine ⟨trivial, ?_⟩; refine Wh_all (rs := [5]) (by kernel_rfl) rfl ?_; refine WhAll_cons rfl ?_ ?_
      refine Wo_app1 rfl el23 rfl rfl hB3 (hO.ext E8) Owned.int (Nat.le_refl _) (by first | omega | (simp <;> omega)) (by omega) (by omega) (Ehr1.trans E8) (by omega) ?_; have hT1 := (hO.ext E8); rintro v1 w9 hO E9 M1
      have hB1 := (hB1.ext E8).moves M1 hT1 (by omega); have hB2 := (hB2.ext E8).moves M1 hT1 (by omega); have hB3 := hB3.moves M1 hT1 (by omega); have hLb3 := hLb3.toB.moves M1 hT1 (by omega); have hr1 := hr1.moves E9 M1 hT1 (by omega)
      have hG := grownBy_moves hG M1 hT1 (by omega); have hs10 := E9.size; have szM1 := M1.1.size; have icv1 := OwnedB.isC (Owned.toB hO); refine Wo_nil ?_; refine ⟨trivial, ?_⟩
      refine Wh_take 6 rfl (by kernel_rfl) (by kernel_rfl) rfl (fun _ _ => opv_fieldAddr Try.underlying25 rfl rfl Try.sizeOf23 rfl) trivial ?_; refine Wh_all (rs := [7]) (by kernel_rfl) rfl ?_; refine WhAll_cons rfl ?_ ?_
      refine Wo_st (v := v1) rfl Try.sizeOf23 rfl rfl (OwnedB.isC hO.toB) hB2 (by simp) (by omega) E9 ?_; rintro w10 E10 hB2 K3 hz3; simp only [List.set] at hB2; have hO := hO.toB.wrote K3 (by omega)
      have hB1 := hB1.of_heap (K3 _ (by omega)); have hB3 := hB3.of_heap (K3 _ (by omega)); have hLb3 := hLb3.wrote K3 (by omega); have hr1 := hr1.wrote E10 (K3 _ (by omega)) hz3
      have hG := grownBy_wrote hG E9 E10 K3 hz3 (by first | exact .inr rfl | omega); refine Wo_nil ?_; refine ⟨trivial, ?_⟩; refine Wh_done (by kernel_rfl) ?_; refine W_region rfl ?_; refine Wo rfl (opv_move (v := .int _ _) rfl) ?_
      refine Wo rfl (opv_sub rfl rfl (by omega)) ?_; refine Wo rfl (opv_assign (v := .int _ _) rfl) ?_; refine Wo_nil ?_; rotate_left; exact WhAll_nil; exact WhAll_nil; exact WhAll_nil; exact WhAll_nil; exact WhAll_nil; (exfalso; omega)
    all_goals
      refine ⟨(k - 1, v1, A ++ [(y2 : Int)]), ⟨congrArg (Value.int .i64) (show (k : Int) - 1 = ((k - 1 : Nat) : Int) by omega), trivial⟩, by repeat (first | with_reducible exact Same.refl | refine Same.upd rfl ?_ | refine Same.upds rfl ?_ | refine Same.mix rfl ?_), ?_, by simp only; omega⟩
      exact ⟨hG, hr1.le (by omega), by omega, by omega, hB1, hB2, hO.o, by simp; omega⟩
  obtain rfl : k = 0 := by omega
  have hA2 : A.length ≤ 2 := by omega
  clear hA
  focus
    have szE5 := E5.size; have szEhr1 := Ehr1.size; have szE5 := E5.size; have szE4 := E4.size; have szE3 := E3.size; have szE2 := E2.size; have szE1 := E1.size; have szE0 := E0.size; refine W_seq ?_; refine W_seq ?_
    refine W_region rfl ?_; refine Wo rfl (opv_move (v := .int _ _) rfl) ?_; refine Wo rfl (opv_gtr rfl rfl) ?_; refine Wo_nil ?_; refine W_cond_dec rfl (fun h1 => ?_) (fun h1 => ?_); contradiction; refine W_exit ?_
    refine exitX_same ?_; refine W_seq ?_; refine W_seq ?_; refine W_region rfl ?_; refine Wo rfl (opv_move (v := .pointer _) rfl) ?_
    refine Wo_call rfl (opc2 (a := .pointer _) (b := .int _ _) Try.call52 rfl rfl) (pick_ok _ _ (by assumption) (by omega)) ?_; rintro _ w6 ⟨y2, rfl, E6, hr1, hy2⟩; (try dsimp only at hy2); have hlhr1 := hr1.lt; have Ehr1 := hr1.old
    have hG := grownBy_trans hG E6; have hB1 := hB1.grown E6 (by simp only [ne_eq, Option.some.injEq]; omega); have hB2 := hB2.grown E6 (by simp only [ne_eq, Option.some.injEq]; omega); have hO := hO.toB.grown E6 (by omega)
    have hs7 := E6.size; refine Wo rfl (opv_add rfl rfl (by omega)) ?_; refine Wo rfl (opv_assign (v := .int _ _) rfl) ?_; refine Wo_nil ?_; refine W_block ?_
  have hy2' := hy2 (by omega)
  have hsA := hG.size
  clear hr
  refine W_loop [7, 25, 26, 27, 28, 29, 30, 31, 32, 33, 34, 35] (fun ((k, q, B) : Nat × Value × List Int) => [(7, .int .i64 (k : Int))]) (fun (k, q, B) w' => w.grownBy w' (some br) ∧ Rdr w0 w' br (m + 4 + (5 - k)) ∧ k ≤ 1 + y2 ∧ w6.heap.size ≤ w'.heap.size ∧ Blk w' b1 [.slice none 0 0, .slice none 0 0] ∧ Blk w' b2 [o, q] ∧ OwnedB w4.heap.size w5.heap.size XI w' o A ∧ Owned w6.heap.size XI w' q B ∧ B.length + k = 1 + y2) (fun x => x.1) (1 + y2, .slice none 0 0, []) (by repeat (first | exact trivial | refine And.intro rfl ?_)) ?_ ?_
  · exact ⟨hG, hr1.le (by omega), by omega, Nat.le_refl _, hB1, hB2, hO, Owned.nil, by simp⟩
  clear hB1 hB2 hr1 hG hO
  rintro ⟨k, q, B⟩ ρk w7 ⟨hG, hr, hk, hs7, hB1, hB2, hO, hQ, hB⟩
  have E7 := hr.old
  have hlr7 := hr.lt
  have hs8 := hG.size
  by_cases hk0 : 0 < k
  · focus
      have szE7 := E7.size; have szEhr1 := Ehr1.size; have szE5 := E5.size; have szEhr1 := Ehr1.size; have szE5 := E5.size; have szE4 := E4.size; have szE3 := E3.size; have szE2 := E2.size; have szE1 := E1.size; have szE0 := E0.size
      refine W_seq ?_; refine W_seq ?_; refine W_region rfl ?_; refine Wo rfl (opv_move (v := .int _ _) rfl) ?_; refine Wo rfl (opv_gtr rfl rfl) ?_; refine Wo_nil ?_; refine W_cond_dec rfl (fun h2 => ?_) (fun h2 => ?_); refine W_skip ?_
      refine W_seq ?_; refine W_block ?_; refine W_held (fun _ => True) mixed rfl (by kernel_rfl) ?_; intro w8 E8 K2 hz2; have hG := grownBy_ext hG E8; have hr := hr.ext E8; have hs9 := E8.size
      refine Wh_take 0 rfl (by kernel_rfl) (by kernel_rfl) rfl (fun _ _ => opv_fieldAddr Try.underlying25 rfl rfl Try.sizeOf23 rfl) trivial ?_
      refine Wh_take 2 rfl (by kernel_rfl) (by kernel_rfl) rfl (fun _ _ => opv_move (v := .pointer _) rfl) trivial ?_; refine Wh_all (rs := [1, 3]) (by kernel_rfl) rfl ?_; refine WhAll_cons rfl ?_ ?_
      refine Wo (v := q) rfl (opv_load Try.isAgg23 rfl ((hB2.ext E8).cell rfl)) ?_; refine Wo_nil ?_; refine ⟨trivial, ?_⟩; refine Wh_all (rs := [3]) (by kernel_rfl) rfl ?_; refine WhAll_cons rfl ?_ ?_
      refine Wo_call rfl (opc2 (a := .pointer _) (b := .int _ _) Try.call52 rfl rfl) (pick_ok _ _ (by assumption) (by omega)) ?_; rintro _ w9 ⟨y3, rfl, E9, hr1, hy3⟩; (try dsimp only at hy3); have hlhr1 := hr1.lt; have Ehr1 := hr1.old
      have hB1 := (hB1.ext E8).grown E9 (by simp only [ne_eq, Option.some.injEq]; omega); have hB2 := (hB2.ext E8).grown E9 (by simp only [ne_eq, Option.some.injEq]; omega); have hO := (hO.ext E8).grown E9 (by omega)
      have hQ := (hQ.toB.ext E8).grown E9 (by omega); have hG := grownBy_trans hG E9; have hs10 := E9.size; refine Wo_nil ?_; refine ⟨trivial, ?_⟩; refine Wh_all (rs := [4]) (by kernel_rfl) rfl ?_; refine WhAll_cons rfl ?_ ?_
      refine Wo_buildSliceH (ps := [(0, .int _ _)]) (cs := [_]) rfl Try.underlying23 Try.sizeOf3 Try.zeroValue3 rfl rfl rfl rfl ?_; rintro b3 w10 hb3 E10 hB3 hHb3; have hlb3 := hB3.lt; have hLb3 := own_lit1 hHb3 hb3; clear hHb3
      have hr1 := hr1.ext E10; have hG := grownBy_ext hG E10; have hs11 := E10.size; refine Wo_nil ?_; refine ⟨trivial, ?_⟩; refine Wh_all (rs := [5]) (by kernel_rfl) rfl ?_; refine WhAll_cons rfl ?_ ?_
      refine Wo_app1 rfl el23 rfl rfl hB3 (hQ.ext E10) Owned.int (Nat.le_refl _) (by first | omega | (simp <;> omega)) (by omega) (by omega) (Ehr1.trans E10) (by omega) ?_; have hT1 := (hQ.ext E10); rintro v1 w11 hQ E11 M1
      have hB1 := (hB1.ext E10).moves M1 hT1 (by omega); have hB2 := (hB2.ext E10).moves M1 hT1 (by omega); have hO := (hO.ext E10).moves M1 hT1 (by omega); have hB3 := hB3.moves M1 hT1 (by omega)
      have hLb3 := hLb3.toB.moves M1 hT1 (by omega); have hr1 := hr1.moves E11 M1 hT1 (by omega); have hG := grownBy_moves hG M1 hT1 (by omega); have hs12 := E11.size; have szM1 := M1.1.size; have icv1 := OwnedB.isC (Owned.toB hQ)
      refine Wo_nil ?_; refine ⟨trivial, ?_⟩; refine Wh_take 6 rfl (by kernel_rfl) (by kernel_rfl) rfl (fun _ _ => opv_fieldAddr Try.underlying25 rfl rfl Try.sizeOf23 rfl) trivial ?_; refine Wh_all (rs := [7]) (by kernel_rfl) rfl ?_
      refine WhAll_cons rfl ?_ ?_; refine Wo_st (v := v1) rfl Try.sizeOf23 rfl rfl (OwnedB.isC hQ.toB) hB2 (by simp) (by omega) E11 ?_; rintro w12 E12 hB2 K3 hz3; simp only [List.set] at hB2; have hQ := hQ.toB.wrote K3 (by omega)
      have hB1 := hB1.of_heap (K3 _ (by omega)); have hO := hO.wrote K3 (by omega); have hB3 := hB3.of_heap (K3 _ (by omega)); have hLb3 := hLb3.wrote K3 (by omega); have hr1 := hr1.wrote E12 (K3 _ (by omega)) hz3
      have hG := grownBy_wrote hG E11 E12 K3 hz3 (by first | exact .inr rfl | omega); refine Wo_nil ?_; refine ⟨trivial, ?_⟩; refine Wh_done (by kernel_rfl) ?_; refine W_region rfl ?_; refine Wo rfl (opv_move (v := .int _ _) rfl) ?_
      refine Wo rfl (opv_sub rfl rfl (by omega)) ?_; refine Wo rfl (opv_assign (v := .int _ _) rfl) ?_; refine Wo_nil ?_; rotate_left; exact WhAll_nil; exact WhAll_nil; exact WhAll_nil; exact WhAll_nil; refine WhAll_cons rfl ?_ ?_
      refine Wo_call rfl (opc2 (a := .pointer _) (b := .int _ _) Try.call52 rfl rfl) (pick_ok _ _ (by assumption) (by omega)) ?_; rintro _ w9 ⟨y3, rfl, E9, hr1, hy3⟩; (try dsimp only at hy3); have hlhr1 := hr1.lt; have Ehr1 := hr1.old
      have hB1 := (hB1.ext E8).grown E9 (by simp only [ne_eq, Option.some.injEq]; omega); have hB2 := (hB2.ext E8).grown E9 (by simp only [ne_eq, Option.some.injEq]; omega); have hO := (hO.ext E8).grown E9 (by omega)
      have hQ := (hQ.toB.ext E8).grown E9 (by omega); have hG := grownBy_trans hG E9; have hs10 := E9.size; refine Wo_nil ?_; refine ⟨trivial, ?_⟩; refine Wh_all (rs := [1, 4]) (by kernel_rfl) rfl ?_; refine WhAll_cons rfl ?_ ?_
      refine Wo (v := q) rfl (opv_load Try.isAgg23 rfl (hB2.cell rfl)) ?_; refine Wo_nil ?_; refine ⟨trivial, ?_⟩; refine Wh_all (rs := [4]) (by kernel_rfl) rfl ?_; refine WhAll_cons rfl ?_ ?_
      refine Wo_buildSliceH (ps := [(0, .int _ _)]) (cs := [_]) rfl Try.underlying23 Try.sizeOf3 Try.zeroValue3 rfl rfl rfl rfl ?_; rintro b3 w10 hb3 E10 hB3 hHb3; have hlb3 := hB3.lt; have hLb3 := own_lit1 hHb3 hb3; clear hHb3
      have hr1 := hr1.ext E10; have hG := grownBy_ext hG E10; have hs11 := E10.size; refine Wo_nil ?_; refine ⟨trivial, ?_⟩; refine Wh_all (rs := [5]) (by kernel_rfl) rfl ?_; refine WhAll_cons rfl ?_ ?_
      refine Wo_app1 rfl el23 rfl rfl hB3 (hQ.ext E10) Owned.int (Nat.le_refl _) (by first | omega | (simp <;> omega)) (by omega) (by omega) (Ehr1.trans E10) (by omega) ?_; have hT1 := (hQ.ext E10); rintro v1 w11 hQ E11 M1
      have hB1 := (hB1.ext E10).moves M1 hT1 (by omega); have hB2 := (hB2.ext E10).moves M1 hT1 (by omega); have hO := (hO.ext E10).moves M1 hT1 (by omega); have hB3 := hB3.moves M1 hT1 (by omega)
      have hLb3 := hLb3.toB.moves M1 hT1 (by omega); have hr1 := hr1.moves E11 M1 hT1 (by omega); have hG := grownBy_moves hG M1 hT1 (by omega); have hs12 := E11.size; have szM1 := M1.1.size; have icv1 := OwnedB.isC (Owned.toB hQ)
      refine Wo_nil ?_; refine ⟨trivial, ?_⟩; refine Wh_take 6 rfl (by kernel_rfl) (by kernel_rfl) rfl (fun _ _ => opv_fieldAddr Try.underlying25 rfl rfl Try.sizeOf23 rfl) trivial ?_; refine Wh_all (rs := [7]) (by kernel_rfl) rfl ?_
      refine WhAll_cons rfl ?_ ?_; refine Wo_st (v := v1) rfl Try.sizeOf23 rfl rfl (OwnedB.isC hQ.toB) hB2 (by simp) (by omega) E11 ?_; rintro w12 E12 hB2 K3 hz3; simp only [List.set] at hB2; have hQ := hQ.toB.wrote K3 (by omega)
      have hB1 := hB1.of_heap (K3 _ (by omega)); have hO := hO.wrote K3 (by omega); have hB3 := hB3.of_heap (K3 _ (by omega)); have hLb3 := hLb3.wrote K3 (by omega); have hr1 := hr1.wrote E12 (K3 _ (by omega)) hz3
      have hG := grownBy_wrote hG E11 E12 K3 hz3 (by first | exact .inr rfl | omega); refine Wo_nil ?_; refine ⟨trivial, ?_⟩; refine Wh_done (by kernel_rfl) ?_; refine W_region rfl ?_; refine Wo rfl (opv_move (v := .int _ _) rfl) ?_
      refine Wo rfl (opv_sub rfl rfl (by omega)) ?_; refine Wo rfl (opv_assign (v := .int _ _) rfl) ?_; refine Wo_nil ?_; rotate_left; exact WhAll_nil; exact WhAll_nil; exact WhAll_nil; refine WhAll_cons rfl ?_ ?_
      refine Wo_buildSliceH (ps := [(0, .int _ _)]) (cs := [_]) rfl Try.underlying23 Try.sizeOf3 Try.zeroValue3 rfl rfl rfl rfl ?_; rintro b3 w10 hb3 E10 hB3 hHb3; have hlb3 := hB3.lt; have hLb3 := own_lit1 hHb3 hb3; clear hHb3
      have hr1 := hr1.ext E10; have hG := grownBy_ext hG E10; have hs11 := E10.size; refine Wo_nil ?_; refine ⟨trivial, ?_⟩; refine Wh_all (rs := [1]) (by kernel_rfl) rfl ?_; refine WhAll_cons rfl ?_ ?_
      refine Wo (v := q) rfl (opv_load Try.isAgg23 rfl ((hB2.ext E10).cell rfl)) ?_; refine Wo_nil ?_; refine ⟨trivial, ?_⟩; refine Wh_all (rs := [5]) (by kernel_rfl) rfl ?_; refine WhAll_cons rfl ?_ ?_
      refine Wo_app1 rfl el23 rfl rfl hB3 (hQ.ext E10) Owned.int (Nat.le_refl _) (by first | omega | (simp <;> omega)) (by omega) (by omega) (Ehr1.trans E10) (by omega) ?_; have hT1 := (hQ.ext E10); rintro v1 w11 hQ E11 M1
      have hB1 := (hB1.ext E10).moves M1 hT1 (by omega); have hB2 := (hB2.ext E10).moves M1 hT1 (by omega); have hO := (hO.ext E10).moves M1 hT1 (by omega); have hB3 := hB3.moves M1 hT1 (by omega)
      have hLb3 := hLb3.toB.moves M1 hT1 (by omega); have hr1 := hr1.moves E11 M1 hT1 (by omega); have hG := grownBy_moves hG M1 hT1 (by omega); have hs12 := E11.size; have szM1 := M1.1.size; have icv1 := OwnedB.isC (Owned.toB hQ)
      refine Wo_nil ?_; refine ⟨trivial, ?_⟩; refine Wh_take 6 rfl (by kernel_rfl) (by kernel_rfl) rfl (fun _ _ => opv_fieldAddr Try.underlying25 rfl rfl Try.sizeOf23 rfl) trivial ?_; refine Wh_all (rs := [7]) (by kernel_rfl) rfl ?_
      refine WhAll_cons rfl ?_ ?_; refine Wo_st (v := v1) rfl Try.sizeOf23 rfl rfl (OwnedB.isC hQ.toB) hB2 (by simp) (by omega) E11 ?_; rintro w12 E12 hB2 K3 hz3; simp only [List.set] at hB2; have hQ := hQ.toB.wrote K3 (by omega)
      have hB1 := hB1.of_heap (K3 _ (by omega)); have hO := hO.wrote K3 (by omega); have hB3 := hB3.of_heap (K3 _ (by omega)); have hLb3 := hLb3.wrote K3 (by omega); have hr1 := hr1.wrote E12 (K3 _ (by omega)) hz3
      have hG := grownBy_wrote hG E11 E12 K3 hz3 (by first | exact .inr rfl | omega); refine Wo_nil ?_; refine ⟨trivial, ?_⟩; refine Wh_done (by kernel_rfl) ?_; refine W_region rfl ?_; refine Wo rfl (opv_move (v := .int _ _) rfl) ?_
      refine Wo rfl (opv_sub rfl rfl (by omega)) ?_; refine Wo rfl (opv_assign (v := .int _ _) rfl) ?_; refine Wo_nil ?_; rotate_left; exact WhAll_nil; exact WhAll_nil; exact WhAll_nil; exact WhAll_nil; exact WhAll_nil; (exfalso; omega)
    all_goals
      refine ⟨(k - 1, v1, B ++ [(y3 : Int)]), ⟨congrArg (Value.int .i64) (show (k : Int) - 1 = ((k - 1 : Nat) : Int) by omega), trivial⟩, by repeat (first | with_reducible exact Same.refl | refine Same.upd rfl ?_ | refine Same.upds rfl ?_ | refine Same.mix rfl ?_), ?_, by simp only; omega⟩
      exact ⟨hG, hr1.le (by omega), by omega, by omega, hB1, hB2, hO, hQ.o, by simp; omega⟩
  obtain rfl : k = 0 := by omega
  have hB4 : 1 ≤ B.length ∧ B.length ≤ 4 := by omega
  clear hB
  have stop10 : True := trivial
  focus
    have szE7 := E7.size; have szEhr1 := Ehr1.size; have szE5 := E5.size; have szEhr1 := Ehr1.size; have szE5 := E5.size; have szE4 := E4.size; have szE3 := E3.size; have szE2 := E2.size; have szE1 := E1.size; have szE0 := E0.size
    refine W_seq ?_; refine W_seq ?_; refine W_region rfl ?_; refine Wo rfl (opv_move (v := .int _ _) rfl) ?_; refine Wo rfl (opv_gtr rfl rfl) ?_; refine Wo_nil ?_; refine W_cond_dec rfl (fun h2 => ?_) (fun h2 => ?_); contradiction
    refine W_exit ?_; refine exitX_same ?_; refine W_seq ?_; refine W_seq ?_
  clear stop10
  refine W_mid [36, 37, 38] (fun (x : Bool) => [(38, .bool x)]) (fun x w' => w.grownBy w' (some br) ∧ Rdr w0 w' br (m + 10) ∧ w7.heap.size ≤ w'.heap.size ∧ Blk w' b1 [.slice none 0 0, .slice none 0 0] ∧ Blk w' b2 [o, q] ∧ OwnedB w4.heap.size w5.heap.size XI w' o A ∧ OwnedB w6.heap.size w7.heap.size XI w' q B) ?_ ?_
  · have hQ := hQ.toB
    focus
      have szE7 := E7.size; have szEhr1 := Ehr1.size; have szE5 := E5.size; have szEhr1 := Ehr1.size; have szE5 := E5.size; have szE4 := E4.size; have szE3 := E3.size; have szE2 := E2.size; have szE1 := E1.size; have szE0 := E0.size
      refine W_region rfl ?_; refine Wo rfl (opv_move (v := .pointer _) rfl) ?_; refine Wo_call rfl (opc2 (a := .pointer _) (b := .int _ _) Try.call52 rfl rfl) (pick_ok _ _ (by assumption) (by omega)) ?_
      rintro _ w8 ⟨y3, rfl, E8, hr1, hy3⟩; (try dsimp only at hy3); have hlhr1 := hr1.lt; have Ehr1 := hr1.old; have hG := grownBy_trans hG E8; have hB1 := hB1.grown E8 (by simp only [ne_eq, Option.some.injEq]; omega)
      have hB2 := hB2.grown E8 (by simp only [ne_eq, Option.some.injEq]; omega); have hO := hO.grown E8 (by omega); have hQ := hQ.grown E8 (by omega); have hs9 := E8.size; refine Wo rfl (opv_eql rfl rfl) ?_; refine Wo_nil ?_
    exact ⟨_, ⟨rfl, trivial⟩, by repeat (first | with_reducible exact Same.refl | refine Same.upd rfl ?_ | refine Same.upds rfl ?_ | refine Same.mix rfl ?_), hG, hr1.le (by omega), by assumption, hB1, hB2, hO, hQ⟩
  clear hG hr hB1 hB2 hO hQ
  rintro x ρ8 w8 ⟨hG, hr, hs9, hB1, hB2, hO, hQ⟩
  have E8 := hr.old
  have hlr8 := hr.lt
  refine W_mid [39, 40, 41, 42, 43, 44, 45, 46] (fun (_ : Value × List Int) => []) (fun (q', B') w' => w.grownBy w' (some br) ∧ Rdr w0 w' br (m + 10) ∧ w7.heap.size ≤ w'.heap.size ∧ Blk w' b1 [.slice none 0 0, .slice none 0 0] ∧ Blk w' b2 [o, q'] ∧ OwnedB w4.heap.size w5.heap.size XI w' o A ∧ Owned w6.heap.size XI w' q' B' ∧ 1 ≤ B'.length ∧ B'.length ≤ 8) ?_ ?_
  · cases x
    · focus
        have szE8 := E8.size; have szE7 := E7.size; have szEhr1 := Ehr1.size; have szE5 := E5.size; have szEhr1 := Ehr1.size; have szE5 := E5.size; have szE4 := E4.size; have szE3 := E3.size; have szE2 := E2.size; have szE1 := E1.size
        have szE0 := E0.size; refine W_cond_false rfl ?_; refine W_skip ?_
      exact ⟨(q, B), trivial, by repeat (first | with_reducible exact Same.refl | refine Same.upd rfl ?_ | refine Same.upds rfl ?_ | refine Same.mix rfl ?_), hG, hr, hs9, hB1, hB2, hO, hQ.o, by omega, by omega⟩
    · focus
        have szE8 := E8.size; have szE7 := E7.size; have szEhr1 := Ehr1.size; have szE5 := E5.size; have szEhr1 := Ehr1.size; have szE5 := E5.size; have szE4 := E4.size; have szE3 := E3.size; have szE2 := E2.size; have szE1 := E1.size
        have szE0 := E0.size; refine W_cond_true rfl ?_; refine W_held (fun _ => True) mixed rfl (by kernel_rfl) ?_; intro w9 E9 K2 hz2; have hG := grownBy_ext hG E9; have hr := hr.ext E9; have hs10 := E9.size
        refine Wh_take 1 rfl (by kernel_rfl) (by kernel_rfl) rfl (fun _ _ => opv_fieldAddr Try.underlying25 rfl rfl Try.sizeOf23 rfl) trivial ?_
        refine Wh_take 4 rfl (by kernel_rfl) (by kernel_rfl) rfl (fun _ _ => opv_fieldAddr Try.underlying25 rfl rfl Try.sizeOf23 rfl) trivial ?_; refine Wh_all (rs := [0, 2, 5]) (by kernel_rfl) rfl ?_; refine WhAll_cons rfl ?_ ?_
        refine Wo_lit0 XInt rfl el23 Try.sizeOf3 ?_; rintro b3 w10 hb3 b3lt E10 hO1; have hG := grownBy_ext hG E10; have hr := hr.ext E10; have hs11 := E10.size; refine Wo_nil ?_; refine ⟨trivial, ?_⟩
        refine Wh_all (rs := [2, 5]) (by kernel_rfl) rfl ?_; refine WhAll_cons rfl ?_ ?_; refine Wo (v := q) rfl (opv_load Try.isAgg23 rfl ((hB2.ext (E9.trans E10)).cell rfl)) ?_; refine Wo_nil ?_; refine ⟨trivial, ?_⟩
        refine Wh_all (rs := [3, 5]) (by kernel_rfl) rfl ?_; refine WhAll_cons rfl ?_ ?_
        refine Wo_appS rfl el23 rfl rfl (Mono.mono (E9.trans E10) (OwnedB.read hQ)) hO1.toB (by first | omega | (simp <;> omega)) (by omega) (by omega) ((E8.trans E9).trans E10) (by omega) ?_; have hT1 := hO1.toB; rintro v1 w11 hO1 E11 M1
        have E12 := M1.ext hT1 (E9.trans E10) (by omega); have szE12 := E12.size; have E13 := M1.ext hT1 E10 (by omega); have szE13 := E13.size; have hB1 := (hB1.ext (E9.trans E10)).moves M1 hT1 (by omega)
        have hB2 := (hB2.ext (E9.trans E10)).moves M1 hT1 (by omega); have hO := (hO.ext (E9.trans E10)).moves M1 hT1 (by omega); have hQ := (hQ.ext (E9.trans E10)).moves M1 hT1 (by omega); have hG := grownBy_moves hG M1 hT1 (by omega)
        have hr := hr.moves E11 M1 hT1 (by omega); have hs12 := E11.size; have szM1 := M1.1.size; have icv1 := OwnedB.isC (Owned.toB hO1); refine Wo_nil ?_; refine ⟨trivial, ?_⟩; refine Wh_all (rs := [5]) (by kernel_rfl) rfl ?_
        refine WhAll_cons rfl ?_ ?_; refine Wo (v := q) rfl (opv_load Try.isAgg23 rfl (hB2.cell rfl)) ?_; refine Wo_nil ?_; refine ⟨trivial, ?_⟩; refine Wh_all (rs := [6]) (by kernel_rfl) rfl ?_; refine WhAll_cons rfl ?_ ?_
        refine Wo_appS rfl el23 rfl rfl (OwnedB.read hQ) hO1.toB (by first | omega | (simp <;> omega)) (by omega) (by omega) E11 (by omega) ?_; have hT2 := hO1.toB; rintro v2 w12 hO1 E14 M2; have E15 := M2.ext hT2 E12 (by omega)
        have szE15 := E15.size; have E16 := M2.ext hT2 E13 (by omega); have szE16 := E16.size; have hB1 := hB1.moves M2 hT2 (by omega); have hB2 := hB2.moves M2 hT2 (by omega); have hO := hO.moves M2 hT2 (by omega)
        have hQ := hQ.moves M2 hT2 (by omega); have hG := grownBy_moves hG M2 hT2 (by omega); have hr := hr.moves E14 M2 hT2 (by omega); have hs13 := E14.size; have szM2 := M2.1.size; have icv2 := OwnedB.isC (Owned.toB hO1)
        refine Wo_nil ?_; refine ⟨trivial, ?_⟩; refine Wh_take 7 rfl (by kernel_rfl) (by kernel_rfl) rfl (fun _ _ => opv_fieldAddr Try.underlying25 rfl rfl Try.sizeOf23 rfl) trivial ?_; refine Wh_all (rs := [8]) (by kernel_rfl) rfl ?_
        refine WhAll_cons rfl ?_ ?_; refine Wo_st (v := v2) rfl Try.sizeOf23 rfl rfl (OwnedB.isC hO1.toB) hB2 (by simp) (by omega) E14 ?_; rintro w13 E17 hB2 K3 hz3; simp only [List.set] at hB2; have hO1 := hO1.toB.wrote K3 (by omega)
        have hB1 := hB1.of_heap (K3 _ (by omega)); have hO := hO.wrote K3 (by omega); have hQ := hQ.wrote K3 (by omega); have hG := grownBy_wrote hG E14 E17 K3 hz3 (by first | exact .inr rfl | omega)
        have hr := hr.wrote E17 (K3 _ (by omega)) hz3; refine Wo_nil ?_; refine ⟨trivial, ?_⟩; refine Wh_done (by kernel_rfl) ?_; rotate_left; exact WhAll_nil; exact WhAll_nil; exact WhAll_nil; refine WhAll_cons rfl ?_ ?_
        refine Wo (v := q) rfl (opv_load Try.isAgg23 rfl ((hB2.ext (E9.trans E10)).cell rfl)) ?_; refine Wo_nil ?_; refine ⟨trivial, ?_⟩; refine Wh_all (rs := [3]) (by kernel_rfl) rfl ?_; refine WhAll_cons rfl ?_ ?_
        refine Wo_appS rfl el23 rfl rfl (Mono.mono (E9.trans E10) (OwnedB.read hQ)) hO1.toB (by first | omega | (simp <;> omega)) (by omega) (by omega) ((E8.trans E9).trans E10) (by omega) ?_; have hT1 := hO1.toB; rintro v1 w11 hO1 E11 M1
        have E12 := M1.ext hT1 (E9.trans E10) (by omega); have szE12 := E12.size; have E13 := M1.ext hT1 E10 (by omega); have szE13 := E13.size; have hB1 := (hB1.ext (E9.trans E10)).moves M1 hT1 (by omega)
        have hB2 := (hB2.ext (E9.trans E10)).moves M1 hT1 (by omega); have hO := (hO.ext (E9.trans E10)).moves M1 hT1 (by omega); have hQ := (hQ.ext (E9.trans E10)).moves M1 hT1 (by omega); have hG := grownBy_moves hG M1 hT1 (by omega)
        have hr := hr.moves E11 M1 hT1 (by omega); have hs12 := E11.size; have szM1 := M1.1.size; have icv1 := OwnedB.isC (Owned.toB hO1); refine Wo_nil ?_; refine ⟨trivial, ?_⟩; refine Wh_all (rs := [6]) (by kernel_rfl) rfl ?_
        refine WhAll_cons rfl ?_ ?_; refine Wo_appS rfl el23 rfl rfl (OwnedB.read hQ) hO1.toB (by first | omega | (simp <;> omega)) (by omega) (by omega) E11 (by omega) ?_; have hT2 := hO1.toB; rintro v2 w12 hO1 E14 M2
        have E15 := M2.ext hT2 E12 (by omega); have szE15 := E15.size; have E16 := M2.ext hT2 E13 (by omega); have szE16 := E16.size; have hB1 := hB1.moves M2 hT2 (by omega); have hB2 := hB2.moves M2 hT2 (by omega)
        have hO := hO.moves M2 hT2 (by omega); have hQ := hQ.moves M2 hT2 (by omega); have hG := grownBy_moves hG M2 hT2 (by omega); have hr := hr.moves E14 M2 hT2 (by omega); have hs13 := E14.size; have szM2 := M2.1.size
        have icv2 := OwnedB.isC (Owned.toB hO1); refine Wo_nil ?_; refine ⟨trivial, ?_⟩; refine Wh_take 7 rfl (by kernel_rfl) (by kernel_rfl) rfl (fun _ _ => opv_fieldAddr Try.underlying25 rfl rfl Try.sizeOf23 rfl) trivial ?_
        refine Wh_all (rs := [8]) (by kernel_rfl) rfl ?_; refine WhAll_cons rfl ?_ ?_; refine Wo_st (v := v2) rfl Try.sizeOf23 rfl rfl (OwnedB.isC hO1.toB) hB2 (by simp) (by omega) E14 ?_; rintro w13 E17 hB2 K3 hz3
        simp only [List.set] at hB2; have hO1 := hO1.toB.wrote K3 (by omega); have hB1 := hB1.of_heap (K3 _ (by omega)); have hO := hO.wrote K3 (by omega); have hQ := hQ.wrote K3 (by omega)
        have hG := grownBy_wrote hG E14 E17 K3 hz3 (by first | exact .inr rfl | omega); have hr := hr.wrote E17 (K3 _ (by omega)) hz3; refine Wo_nil ?_; refine ⟨trivial, ?_⟩; refine Wh_done (by kernel_rfl) ?_; rotate_left; exact WhAll_nil
        exact WhAll_nil; exact WhAll_nil; exact WhAll_nil; refine WhAll_cons rfl ?_ ?_; refine Wo (v := q) rfl (opv_load Try.isAgg23 rfl ((hB2.ext (E9.trans E10)).cell rfl)) ?_; refine Wo_nil ?_; refine ⟨trivial, ?_⟩
        refine Wh_all (rs := [2]) (by kernel_rfl) rfl ?_; refine WhAll_cons rfl ?_ ?_; refine Wo (v := q) rfl (opv_load Try.isAgg23 rfl ((hB2.ext (E9.trans E10)).cell rfl)) ?_; refine Wo_nil ?_; refine ⟨trivial, ?_⟩
        refine Wh_all (rs := [3]) (by kernel_rfl) rfl ?_; refine WhAll_cons rfl ?_ ?_
        refine Wo_appS rfl el23 rfl rfl (Mono.mono (E9.trans E10) (OwnedB.read hQ)) hO1.toB (by first | omega | (simp <;> omega)) (by omega) (by omega) ((E8.trans E9).trans E10) (by omega) ?_; have hT1 := hO1.toB; rintro v1 w11 hO1 E11 M1
        have E12 := M1.ext hT1 (E9.trans E10) (by omega); have szE12 := E12.size; have E13 := M1.ext hT1 E10 (by omega); have szE13 := E13.size; have hB1 := (hB1.ext (E9.trans E10)).moves M1 hT1 (by omega)
        have hB2 := (hB2.ext (E9.trans E10)).moves M1 hT1 (by omega); have hO := (hO.ext (E9.trans E10)).moves M1 hT1 (by omega); have hQ := (hQ.ext (E9.trans E10)).moves M1 hT1 (by omega); have hG := grownBy_moves hG M1 hT1 (by omega)
        have hr := hr.moves E11 M1 hT1 (by omega); have hs12 := E11.size; have szM1 := M1.1.size; have icv1 := OwnedB.isC (Owned.toB hO1); refine Wo_nil ?_; refine ⟨trivial, ?_⟩; refine Wh_all (rs := [6]) (by kernel_rfl) rfl ?_
        refine WhAll_cons rfl ?_ ?_; refine Wo_appS rfl el23 rfl rfl (OwnedB.read hQ) hO1.toB (by first | omega | (simp <;> omega)) (by omega) (by omega) E11 (by omega) ?_; have hT2 := hO1.toB; rintro v2 w12 hO1 E14 M2
        have E15 := M2.ext hT2 E12 (by omega); have szE15 := E15.size; have E16 := M2.ext hT2 E13 (by omega); have szE16 := E16.size; have hB1 := hB1.moves M2 hT2 (by omega); have hB2 := hB2.moves M2 hT2 (by omega)
        have hO := hO.moves M2 hT2 (by omega); have hQ := hQ.moves M2 hT2 (by omega); have hG := grownBy_moves hG M2 hT2 (by omega); have hr := hr.moves E14 M2 hT2 (by omega); have hs13 := E14.size; have szM2 := M2.1.size
        have icv2 := OwnedB.isC (Owned.toB hO1); refine Wo_nil ?_; refine ⟨trivial, ?_⟩; refine Wh_take 7 rfl (by kernel_rfl) (by kernel_rfl) rfl (fun _ _ => opv_fieldAddr Try.underlying25 rfl rfl Try.sizeOf23 rfl) trivial ?_
        refine Wh_all (rs := [8]) (by kernel_rfl) rfl ?_; refine WhAll_cons rfl ?_ ?_; refine Wo_st (v := v2) rfl Try.sizeOf23 rfl rfl (OwnedB.isC hO1.toB) hB2 (by simp) (by omega) E14 ?_; rintro w13 E17 hB2 K3 hz3
        simp only [List.set] at hB2; have hO1 := hO1.toB.wrote K3 (by omega); have hB1 := hB1.of_heap (K3 _ (by omega)); have hO := hO.wrote K3 (by omega); have hQ := hQ.wrote K3 (by omega)
        have hG := grownBy_wrote hG E14 E17 K3 hz3 (by first | exact .inr rfl | omega); have hr := hr.wrote E17 (K3 _ (by omega)) hz3; refine Wo_nil ?_; refine ⟨trivial, ?_⟩; refine Wh_done (by kernel_rfl) ?_; rotate_left; exact WhAll_nil
        exact WhAll_nil; exact WhAll_nil; exact WhAll_nil; exact WhAll_nil; refine WhAll_cons rfl ?_ ?_; refine Wo (v := q) rfl (opv_load Try.isAgg23 rfl ((hB2.ext E9).cell rfl)) ?_; refine Wo_nil ?_; refine ⟨trivial, ?_⟩
        refine Wh_all (rs := [0, 5]) (by kernel_rfl) rfl ?_; refine WhAll_cons rfl ?_ ?_; refine Wo_lit0 XInt rfl el23 Try.sizeOf3 ?_; rintro b3 w10 hb3 b3lt E10 hO1; have hG := grownBy_ext hG E10; have hr := hr.ext E10
        have hs11 := E10.size; refine Wo_nil ?_; refine ⟨trivial, ?_⟩; refine Wh_all (rs := [3, 5]) (by kernel_rfl) rfl ?_; refine WhAll_cons rfl ?_ ?_
        refine Wo_appS rfl el23 rfl rfl (Mono.mono (E9.trans E10) (OwnedB.read hQ)) hO1.toB (by first | omega | (simp <;> omega)) (by omega) (by omega) ((E8.trans E9).trans E10) (by omega) ?_; have hT1 := hO1.toB; rintro v1 w11 hO1 E11 M1
        have E12 := M1.ext hT1 (E9.trans E10) (by omega); have szE12 := E12.size; have E13 := M1.ext hT1 E10 (by omega); have szE13 := E13.size; have hB1 := (hB1.ext (E9.trans E10)).moves M1 hT1 (by omega)
        have hB2 := (hB2.ext (E9.trans E10)).moves M1 hT1 (by omega); have hO := (hO.ext (E9.trans E10)).moves M1 hT1 (by omega); have hQ := (hQ.ext (E9.trans E10)).moves M1 hT1 (by omega); have hG := grownBy_moves hG M1 hT1 (by omega)
        have hr := hr.moves E11 M1 hT1 (by omega); have hs12 := E11.size; have szM1 := M1.1.size; have icv1 := OwnedB.isC (Owned.toB hO1); refine Wo_nil ?_; refine ⟨trivial, ?_⟩; refine Wh_all (rs := [5]) (by kernel_rfl) rfl ?_
        refine WhAll_cons rfl ?_ ?_; refine Wo (v := q) rfl (opv_load Try.isAgg23 rfl (hB2.cell rfl)) ?_; refine Wo_nil ?_; refine ⟨trivial, ?_⟩; refine Wh_all (rs := [6]) (by kernel_rfl) rfl ?_; refine WhAll_cons rfl ?_ ?_
        refine Wo_appS rfl el23 rfl rfl (OwnedB.read hQ) hO1.toB (by first | omega | (simp <;> omega)) (by omega) (by omega) E11 (by omega) ?_; have hT2 := hO1.toB; rintro v2 w12 hO1 E14 M2; have E15 := M2.ext hT2 E12 (by omega)
        have szE15 := E15.size; have E16 := M2.ext hT2 E13 (by omega); have szE16 := E16.size; have hB1 := hB1.moves M2 hT2 (by omega); have hB2 := hB2.moves M2 hT2 (by omega); have hO := hO.moves M2 hT2 (by omega)
        have hQ := hQ.moves M2 hT2 (by omega); have hG := grownBy_moves hG M2 hT2 (by omega); have hr := hr.moves E14 M2 hT2 (by omega); have hs13 := E14.size; have szM2 := M2.1.size; have icv2 := OwnedB.isC (Owned.toB hO1)
        refine Wo_nil ?_; refine ⟨trivial, ?_⟩; refine Wh_take 7 rfl (by kernel_rfl) (by kernel_rfl) rfl (fun _ _ => opv_fieldAddr Try.underlying25 rfl rfl Try.sizeOf23 rfl) trivial ?_; refine Wh_all (rs := [8]) (by kernel_rfl) rfl ?_
        refine WhAll_cons rfl ?_ ?_; refine Wo_st (v := v2) rfl Try.sizeOf23 rfl rfl (OwnedB.isC hO1.toB) hB2 (by simp) (by omega) E14 ?_; rintro w13 E17 hB2 K3 hz3; simp only [List.set] at hB2; have hO1 := hO1.toB.wrote K3 (by omega)
        have hB1 := hB1.of_heap (K3 _ (by omega)); have hO := hO.wrote K3 (by omega); have hQ := hQ.wrote K3 (by omega); have hG := grownBy_wrote hG E14 E17 K3 hz3 (by first | exact .inr rfl | omega)
        have hr := hr.wrote E17 (K3 _ (by omega)) hz3; refine Wo_nil ?_; refine ⟨trivial, ?_⟩; refine Wh_done (by kernel_rfl) ?_; rotate_left; exact WhAll_nil; exact WhAll_nil; exact WhAll_nil; refine WhAll_cons rfl ?_ ?_
        refine Wo (v := q) rfl (opv_load Try.isAgg23 rfl ((hB2.ext (E9.trans E10)).cell rfl)) ?_; refine Wo_nil ?_; refine ⟨trivial, ?_⟩; refine Wh_all (rs := [3]) (by kernel_rfl) rfl ?_; refine WhAll_cons rfl ?_ ?_
        refine Wo_appS rfl el23 rfl rfl (Mono.mono (E9.trans E10) (OwnedB.read hQ)) hO1.toB (by first | omega | (simp <;> omega)) (by omega) (by omega) ((E8.trans E9).trans E10) (by omega) ?_; have hT1 := hO1.toB; rintro v1 w11 hO1 E11 M1
        have E12 := M1.ext hT1 (E9.trans E10) (by omega); have szE12 := E12.size; have E13 := M1.ext hT1 E10 (by omega); have szE13 := E13.size; have hB1 := (hB1.ext (E9.trans E10)).moves M1 hT1 (by omega)
        have hB2 := (hB2.ext (E9.trans E10)).moves M1 hT1 (by omega); have hO := (hO.ext (E9.trans E10)).moves M1 hT1 (by omega); have hQ := (hQ.ext (E9.trans E10)).moves M1 hT1 (by omega); have hG := grownBy_moves hG M1 hT1 (by omega)
        have hr := hr.moves E11 M1 hT1 (by omega); have hs12 := E11.size; have szM1 := M1.1.size; have icv1 := OwnedB.isC (Owned.toB hO1); refine Wo_nil ?_; refine ⟨trivial, ?_⟩; refine Wh_all (rs := [6]) (by kernel_rfl) rfl ?_
        refine WhAll_cons rfl ?_ ?_; refine Wo_appS rfl el23 rfl rfl (OwnedB.read hQ) hO1.toB (by first | omega | (simp <;> omega)) (by omega) (by omega) E11 (by omega) ?_; have hT2 := hO1.toB; rintro v2 w12 hO1 E14 M2
        have E15 := M2.ext hT2 E12 (by omega); have szE15 := E15.size; have E16 := M2.ext hT2 E13 (by omega); have szE16 := E16.size; have hB1 := hB1.moves M2 hT2 (by omega); have hB2 := hB2.moves M2 hT2 (by omega)
        have hO := hO.moves M2 hT2 (by omega); have hQ := hQ.moves M2 hT2 (by omega); have hG := grownBy_moves hG M2 hT2 (by omega); have hr := hr.moves E14 M2 hT2 (by omega); have hs13 := E14.size; have szM2 := M2.1.size
        have icv2 := OwnedB.isC (Owned.toB hO1); refine Wo_nil ?_; refine ⟨trivial, ?_⟩; refine Wh_take 7 rfl (by kernel_rfl) (by kernel_rfl) rfl (fun _ _ => opv_fieldAddr Try.underlying25 rfl rfl Try.sizeOf23 rfl) trivial ?_
        refine Wh_all (rs := [8]) (by kernel_rfl) rfl ?_; refine WhAll_cons rfl ?_ ?_; refine Wo_st (v := v2) rfl Try.sizeOf23 rfl rfl (OwnedB.isC hO1.toB) hB2 (by simp) (by omega) E14 ?_; rintro w13 E17 hB2 K3 hz3
        simp only [List.set] at hB2; have hO1 := hO1.toB.wrote K3 (by omega); have hB1 := hB1.of_heap (K3 _ (by omega)); have hO := hO.wrote K3 (by omega); have hQ := hQ.wrote K3 (by omega)
        have hG := grownBy_wrote hG E14 E17 K3 hz3 (by first | exact .inr rfl | omega); have hr := hr.wrote E17 (K3 _ (by omega)) hz3; refine Wo_nil ?_; refine ⟨trivial, ?_⟩; refine Wh_done (by kernel_rfl) ?_; rotate_left; exact WhAll_nil
        exact WhAll_nil; exact WhAll_nil; exact WhAll_nil; refine WhAll_cons rfl ?_ ?_; refine Wo (v := q) rfl (opv_load Try.isAgg23 rfl ((hB2.ext E9).cell rfl)) ?_; refine Wo_nil ?_; refine ⟨trivial, ?_⟩
        refine Wh_all (rs := [0]) (by kernel_rfl) rfl ?_; refine WhAll_cons rfl ?_ ?_; refine Wo_lit0 XInt rfl el23 Try.sizeOf3 ?_; rintro b3 w10 hb3 b3lt E10 hO1; have hG := grownBy_ext hG E10; have hr := hr.ext E10; have hs11 := E10.size
        refine Wo_nil ?_; refine ⟨trivial, ?_⟩; refine Wh_all (rs := [3]) (by kernel_rfl) rfl ?_; refine WhAll_cons rfl ?_ ?_
        refine Wo_appS rfl el23 rfl rfl (Mono.mono (E9.trans E10) (OwnedB.read hQ)) hO1.toB (by first | omega | (simp <;> omega)) (by omega) (by omega) ((E8.trans E9).trans E10) (by omega) ?_; have hT1 := hO1.toB; rintro v1 w11 hO1 E11 M1
        have E12 := M1.ext hT1 (E9.trans E10) (by omega); have szE12 := E12.size; have E13 := M1.ext hT1 E10 (by omega); have szE13 := E13.size; have hB1 := (hB1.ext (E9.trans E10)).moves M1 hT1 (by omega)
        have hB2 := (hB2.ext (E9.trans E10)).moves M1 hT1 (by omega); have hO := (hO.ext (E9.trans E10)).moves M1 hT1 (by omega); have hQ := (hQ.ext (E9.trans E10)).moves M1 hT1 (by omega); have hG := grownBy_moves hG M1 hT1 (by omega)
        have hr := hr.moves E11 M1 hT1 (by omega); have hs12 := E11.size; have szM1 := M1.1.size; have icv1 := OwnedB.isC (Owned.toB hO1); refine Wo_nil ?_; refine ⟨trivial, ?_⟩; refine Wh_all (rs := [6]) (by kernel_rfl) rfl ?_
        refine WhAll_cons rfl ?_ ?_; refine Wo_appS rfl el23 rfl rfl (OwnedB.read hQ) hO1.toB (by first | omega | (simp <;> omega)) (by omega) (by omega) E11 (by omega) ?_; have hT2 := hO1.toB; rintro v2 w12 hO1 E14 M2
        have E15 := M2.ext hT2 E12 (by omega); have szE15 := E15.size; have E16 := M2.ext hT2 E13 (by omega); have szE16 := E16.size; have hB1 := hB1.moves M2 hT2 (by omega); have hB2 := hB2.moves M2 hT2 (by omega)
        have hO := hO.moves M2 hT2 (by omega); have hQ := hQ.moves M2 hT2 (by omega); have hG := grownBy_moves hG M2 hT2 (by omega); have hr := hr.moves E14 M2 hT2 (by omega); have hs13 := E14.size; have szM2 := M2.1.size
        have icv2 := OwnedB.isC (Owned.toB hO1); refine Wo_nil ?_; refine ⟨trivial, ?_⟩; refine Wh_take 7 rfl (by kernel_rfl) (by kernel_rfl) rfl (fun _ _ => opv_fieldAddr Try.underlying25 rfl rfl Try.sizeOf23 rfl) trivial ?_
        refine Wh_all (rs := [8]) (by kernel_rfl) rfl ?_; refine WhAll_cons rfl ?_ ?_; refine Wo_st (v := v2) rfl Try.sizeOf23 rfl rfl (OwnedB.isC hO1.toB) hB2 (by simp) (by omega) E14 ?_; rintro w13 E17 hB2 K3 hz3
        simp only [List.set] at hB2; have hO1 := hO1.toB.wrote K3 (by omega); have hB1 := hB1.of_heap (K3 _ (by omega)); have hO := hO.wrote K3 (by omega); have hQ := hQ.wrote K3 (by omega)
        have hG := grownBy_wrote hG E14 E17 K3 hz3 (by first | exact .inr rfl | omega); have hr := hr.wrote E17 (K3 _ (by omega)) hz3; refine Wo_nil ?_; refine ⟨trivial, ?_⟩; refine Wh_done (by kernel_rfl) ?_; rotate_left; exact WhAll_nil
        exact WhAll_nil; exact WhAll_nil; exact WhAll_nil; exact WhAll_nil; refine WhAll_cons rfl ?_ ?_; refine Wo (v := q) rfl (opv_load Try.isAgg23 rfl ((hB2.ext E9).cell rfl)) ?_; refine Wo_nil ?_; refine ⟨trivial, ?_⟩
        refine Wh_all (rs := [0, 2]) (by kernel_rfl) rfl ?_; refine WhAll_cons rfl ?_ ?_; refine Wo_lit0 XInt rfl el23 Try.sizeOf3 ?_; rintro b3 w10 hb3 b3lt E10 hO1; have hG := grownBy_ext hG E10; have hr := hr.ext E10
        have hs11 := E10.size; refine Wo_nil ?_; refine ⟨trivial, ?_⟩; refine Wh_all (rs := [2]) (by kernel_rfl) rfl ?_; refine WhAll_cons rfl ?_ ?_; refine Wo (v := q) rfl (opv_load Try.isAgg23 rfl ((hB2.ext (E9.trans E10)).cell rfl)) ?_
        refine Wo_nil ?_; refine ⟨trivial, ?_⟩; refine Wh_all (rs := [3]) (by kernel_rfl) rfl ?_; refine WhAll_cons rfl ?_ ?_
        refine Wo_appS rfl el23 rfl rfl (Mono.mono (E9.trans E10) (OwnedB.read hQ)) hO1.toB (by first | omega | (simp <;> omega)) (by omega) (by omega) ((E8.trans E9).trans E10) (by omega) ?_; have hT1 := hO1.toB; rintro v1 w11 hO1 E11 M1
        have E12 := M1.ext hT1 (E9.trans E10) (by omega); have szE12 := E12.size; have E13 := M1.ext hT1 E10 (by omega); have szE13 := E13.size; have hB1 := (hB1.ext (E9.trans E10)).moves M1 hT1 (by omega)
        have hB2 := (hB2.ext (E9.trans E10)).moves M1 hT1 (by omega); have hO := (hO.ext (E9.trans E10)).moves M1 hT1 (by omega); have hQ := (hQ.ext (E9.trans E10)).moves M1 hT1 (by omega); have hG := grownBy_moves hG M1 hT1 (by omega)
        have hr := hr.moves E11 M1 hT1 (by omega); have hs12 := E11.size; have szM1 := M1.1.size; have icv1 := OwnedB.isC (Owned.toB hO1); refine Wo_nil ?_; refine ⟨trivial, ?_⟩; refine Wh_all (rs := [6]) (by kernel_rfl) rfl ?_
        refine WhAll_cons rfl ?_ ?_; refine Wo_appS rfl el23 rfl rfl (OwnedB.read hQ) hO1.toB (by first | omega | (simp <;> omega)) (by omega) (by omega) E11 (by omega) ?_; have hT2 := hO1.toB; rintro v2 w12 hO1 E14 M2
        have E15 := M2.ext hT2 E12 (by omega); have szE15 := E15.size; have E16 := M2.ext hT2 E13 (by omega); have szE16 := E16.size; have hB1 := hB1.moves M2 hT2 (by omega); have hB2 := hB2.moves M2 hT2 (by omega)
        have hO := hO.moves M2 hT2 (by omega); have hQ := hQ.moves M2 hT2 (by omega); have hG := grownBy_moves hG M2 hT2 (by omega); have hr := hr.moves E14 M2 hT2 (by omega); have hs13 := E14.size; have szM2 := M2.1.size
        have icv2 := OwnedB.isC (Owned.toB hO1); refine Wo_nil ?_; refine ⟨trivial, ?_⟩; refine Wh_take 7 rfl (by kernel_rfl) (by kernel_rfl) rfl (fun _ _ => opv_fieldAddr Try.underlying25 rfl rfl Try.sizeOf23 rfl) trivial ?_
        refine Wh_all (rs := [8]) (by kernel_rfl) rfl ?_; refine WhAll_cons rfl ?_ ?_; refine Wo_st (v := v2) rfl Try.sizeOf23 rfl rfl (OwnedB.isC hO1.toB) hB2 (by simp) (by omega) E14 ?_; rintro w13 E17 hB2 K3 hz3
        simp only [List.set] at hB2; have hO1 := hO1.toB.wrote K3 (by omega); have hB1 := hB1.of_heap (K3 _ (by omega)); have hO := hO.wrote K3 (by omega); have hQ := hQ.wrote K3 (by omega)
        have hG := grownBy_wrote hG E14 E17 K3 hz3 (by first | exact .inr rfl | omega); have hr := hr.wrote E17 (K3 _ (by omega)) hz3; refine Wo_nil ?_; refine ⟨trivial, ?_⟩; refine Wh_done (by kernel_rfl) ?_; rotate_left; exact WhAll_nil
        exact WhAll_nil; exact WhAll_nil; exact WhAll_nil; refine WhAll_cons rfl ?_ ?_; refine Wo (v := q) rfl (opv_load Try.isAgg23 rfl ((hB2.ext E9).cell rfl)) ?_; refine Wo_nil ?_; refine ⟨trivial, ?_⟩
        refine Wh_all (rs := [0]) (by kernel_rfl) rfl ?_; refine WhAll_cons rfl ?_ ?_; refine Wo_lit0 XInt rfl el23 Try.sizeOf3 ?_; rintro b3 w10 hb3 b3lt E10 hO1; have hG := grownBy_ext hG E10; have hr := hr.ext E10; have hs11 := E10.size
        refine Wo_nil ?_; refine ⟨trivial, ?_⟩; refine Wh_all (rs := [3]) (by kernel_rfl) rfl ?_; refine WhAll_cons rfl ?_ ?_
        refine Wo_appS rfl el23 rfl rfl (Mono.mono (E9.trans E10) (OwnedB.read hQ)) hO1.toB (by first | omega | (simp <;> omega)) (by omega) (by omega) ((E8.trans E9).trans E10) (by omega) ?_; have hT1 := hO1.toB; rintro v1 w11 hO1 E11 M1
        have E12 := M1.ext hT1 (E9.trans E10) (by omega); have szE12 := E12.size; have E13 := M1.ext hT1 E10 (by omega); have szE13 := E13.size; have hB1 := (hB1.ext (E9.trans E10)).moves M1 hT1 (by omega)
        have hB2 := (hB2.ext (E9.trans E10)).moves M1 hT1 (by omega); have hO := (hO.ext (E9.trans E10)).moves M1 hT1 (by omega); have hQ := (hQ.ext (E9.trans E10)).moves M1 hT1 (by omega); have hG := grownBy_moves hG M1 hT1 (by omega)
        have hr := hr.moves E11 M1 hT1 (by omega); have hs12 := E11.size; have szM1 := M1.1.size; have icv1 := OwnedB.isC (Owned.toB hO1); refine Wo_nil ?_; refine ⟨trivial, ?_⟩; refine Wh_all (rs := [6]) (by kernel_rfl) rfl ?_
        refine WhAll_cons rfl ?_ ?_; refine Wo_appS rfl el23 rfl rfl (OwnedB.read hQ) hO1.toB (by first | omega | (simp <;> omega)) (by omega) (by omega) E11 (by omega) ?_; have hT2 := hO1.toB; rintro v2 w12 hO1 E14 M2
        have E15 := M2.ext hT2 E12 (by omega); have szE15 := E15.size; have E16 := M2.ext hT2 E13 (by omega); have szE16 := E16.size; have hB1 := hB1.moves M2 hT2 (by omega); have hB2 := hB2.moves M2 hT2 (by omega)
        have hO := hO.moves M2 hT2 (by omega); have hQ := hQ.moves M2 hT2 (by omega); have hG := grownBy_moves hG M2 hT2 (by omega); have hr := hr.moves E14 M2 hT2 (by omega); have hs13 := E14.size; have szM2 := M2.1.size
        have icv2 := OwnedB.isC (Owned.toB hO1); refine Wo_nil ?_; refine ⟨trivial, ?_⟩; refine Wh_take 7 rfl (by kernel_rfl) (by kernel_rfl) rfl (fun _ _ => opv_fieldAddr Try.underlying25 rfl rfl Try.sizeOf23 rfl) trivial ?_
        refine Wh_all (rs := [8]) (by kernel_rfl) rfl ?_; refine WhAll_cons rfl ?_ ?_; refine Wo_st (v := v2) rfl Try.sizeOf23 rfl rfl (OwnedB.isC hO1.toB) hB2 (by simp) (by omega) E14 ?_; rintro w13 E17 hB2 K3 hz3
        simp only [List.set] at hB2; have hO1 := hO1.toB.wrote K3 (by omega); have hB1 := hB1.of_heap (K3 _ (by omega)); have hO := hO.wrote K3 (by omega); have hQ := hQ.wrote K3 (by omega)
        have hG := grownBy_wrote hG E14 E17 K3 hz3 (by first | exact .inr rfl | omega); have hr := hr.wrote E17 (K3 _ (by omega)) hz3; refine Wo_nil ?_; refine ⟨trivial, ?_⟩; refine Wh_done (by kernel_rfl) ?_; rotate_left; exact WhAll_nil
        exact WhAll_nil; exact WhAll_nil; exact WhAll_nil; exact WhAll_nil; exact WhAll_nil
      all_goals exact ⟨(v2, ([] ++ B) ++ B), trivial, by repeat (first | with_reducible exact Same.refl | refine Same.upd rfl ?_ | refine Same.upds rfl ?_ | refine Same.mix rfl ?_), hG, hr, by omega, hB1, hB2, hO, hO1.o.mono (by omega), by simp; omega, by simp; omega⟩
  clear hG hr hB1 hB2 hO hQ hB4
  rintro ⟨q', B'⟩ ρ9 w9 ⟨hG, hr, hs10, hB1, hB2, hO, hQ, hB4, hB8⟩
  have E9 := hr.old
  have hlr9 := hr.lt
  obtain ⟨qb, qc, rfl, _⟩ := hQ.lit (by omega)
  have hqb := hQ.lt_own (k := qb) rfl
  have hQ := hQ.toB
  have ico := OwnedB.isC hO
  focus
    have szE9 := E9.size; have szE8 := E8.size; have szE7 := E7.size; have szEhr1 := Ehr1.size; have szE5 := E5.size; have szEhr1 := Ehr1.size; have szE5 := E5.size; have szE4 := E4.size; have szE3 := E3.size; have szE2 := E2.size
    have szE1 := E1.size; have szE0 := E0.size; refine W_seq ?_; refine W_seq ?_; refine W_region rfl ?_; refine Wo rfl (opv_move (v := .pointer _) rfl) ?_; refine Wo rfl (opv_move (v := .int _ _) rfl) ?_
    refine Wo_call rfl (opc2 (a := .pointer _) (b := .int _ _) Try.call79 rfl rfl) (odd_ok _ _ (by assumption) (by omega) (by omega)) ?_; rintro _ w10 ⟨y3, rfl, E10, hr1, hy3⟩; (try dsimp only at hy3); have hlhr1 := hr1.lt
    have Ehr1 := hr1.old; have hG := grownBy_trans hG E10; have hB1 := hB1.grown E10 (by simp only [ne_eq, Option.some.injEq]; omega); have hO := hO.grown E10 (by omega)
    have hB2 := hB2.grown E10 (by simp only [ne_eq, Option.some.injEq]; omega); have hQ := hQ.grown E10 (by omega); have hs11 := E10.size; refine Wo_nil ?_; refine W_cond rfl (fun h3 => ?_) (fun h3 => ?_); refine W_seq ?_
    refine W_region rfl ?_; refine Wo rfl (opv_move (v := .pointer _) rfl) ?_; refine Wo_call rfl (opc2 (a := .pointer _) (b := .int _ _) Try.call52 rfl rfl) (pick_ok _ _ (by assumption) (by omega)) ?_
    rintro _ w11 ⟨y4, rfl, E11, hr2, hy4⟩; (try dsimp only at hy4); have hlhr2 := hr2.lt; have Ehr2 := hr2.old; have hG := grownBy_trans hG E11; have hB1 := hB1.grown E11 (by simp only [ne_eq, Option.some.injEq]; omega)
    have hO := hO.grown E11 (by omega); have hB2 := hB2.grown E11 (by simp only [ne_eq, Option.some.injEq]; omega); have hQ := hQ.grown E11 (by omega); have hs12 := E11.size; refine Wo_nil ?_; refine W_block ?_; refine W_seq ?_
    refine W_region rfl ?_; refine Wo rfl (opv_eql rfl rfl) ?_; refine Wo rfl (opv_assign (v := .bool _) rfl) ?_; refine Wo_nil ?_; refine W_cond_dec rfl (fun h4 => ?_) (fun h4 => ?_); refine W_region rfl ?_
    refine Wo_lit0 XInt rfl el23 Try.sizeOf3 ?_; rintro b3 w12 hb3 b3lt E12 hO1; have hr2 := hr2.ext E12; have hG := grownBy_ext hG E12; have hs13 := E12.size; refine Wo rfl (opv_fieldAddr Try.underlying25 rfl rfl Try.sizeOf23 rfl) ?_
    refine Wo_st (v := .slice _ _ _) rfl Try.sizeOf23 rfl rfl rfl (hB2.ext E12) (by simp) (by omega) (Ehr2.trans E12) ?_; rintro w13 E13 hB2 K2 hz2; simp only [List.set] at hB2; have hB1 := (hB1.ext E12).of_heap (K2 _ (by omega))
    have hO := (hO.ext E12).wrote K2 (by omega); have hQ := (hQ.ext E12).wrote K2 (by omega); have hO1 := hO1.toB.wrote K2 (by omega); have hr2 := hr2.wrote E13 (K2 _ (by omega)) hz2
    have hG := grownBy_wrote hG (Ehr2.trans E12) E13 K2 hz2 (by first | exact .inr rfl | omega); refine Wo_nil ?_; refine W_seq ?_; refine W_region rfl ?_; refine Wo (v := .agg _) rfl (opv_load2 Try.isAgg25 Try.sizeOf25 rfl hB2) ?_
    refine Wo_st2 rfl Try.sizeOf25 rfl rfl (by first | rfl | assumption) (by first | rfl | assumption) hB1 (by omega) E13 ?_; rintro w14 E14 hB1 K3 hz3; have hB2 := hB2.of_heap (K3 _ (by omega)); have hO := hO.wrote K3 (by omega)
    have hQ := hQ.wrote K3 (by omega); have hO1 := hO1.wrote K3 (by omega); have hr2 := hr2.wrote E14 (K3 _ (by omega)) hz3; have hG := grownBy_wrote hG E13 E14 K3 hz3 (by first | exact .inr rfl | omega); refine Wo_nil ?_
    refine W_ret ?_; rotate_left; refine W_seq ?_; refine W_region rfl ?_; refine Wo rfl (opv_eql rfl rfl) ?_; refine Wo rfl (opv_assign (v := .bool _) rfl) ?_; refine Wo_nil ?_; refine W_cond_dec rfl (fun h5 => ?_) (fun h5 => ?_)
    refine W_region rfl ?_; refine Wo rfl (opv_fieldAddr Try.underlying25 rfl rfl Try.sizeOf23 rfl) ?_; refine Wo (v := .slice _ _ _) rfl (opv_load Try.isAgg23 rfl (hB2.cell rfl)) ?_
    refine Wo rfl (opv_indexAddr (k := 0) Try.underlying23 Try.sizeOf3 rfl rfl (by omega)) ?_; refine Wo_set rfl Try.sizeOf3 rfl rfl hQ (by first | omega | (simp <;> omega)) Owned.int (Nat.le_refl _) (by omega) ?_
    rintro w12 hQ On1 K2 hz2; have E12 := On1.ext1 Ehr2 (by omega); have hr2 := hr2.wrote E12 (K2 _ (by omega)) hz2; have hG := grownBy_wrote hG Ehr2 E12 K2 hz2 (by first | exact .inr rfl | omega)
    have hB1 := hB1.of_heap (K2 _ (by omega)); have hO := hO.wrote K2 (by omega); have hB2 := hB2.of_heap (K2 _ (by omega)); have hs13 := On1.size; refine Wo_nil ?_; refine W_seq ?_; refine W_region rfl ?_
    refine Wo (v := .agg _) rfl (opv_load2 Try.isAgg25 Try.sizeOf25 rfl hB2) ?_; refine Wo_st2 rfl Try.sizeOf25 rfl rfl (by first | rfl | assumption) (by first | rfl | assumption) hB1 (by omega) E12 ?_; rintro w13 E13 hB1 K3 hz3
    have hQ := hQ.toB.wrote K3 (by omega); have hr2 := hr2.wrote E13 (K3 _ (by omega)) hz3; have hG := grownBy_wrote hG E12 E13 K3 hz3 (by first | exact .inr rfl | omega); have hO := hO.wrote K3 (by omega)
    have hB2 := hB2.of_heap (K3 _ (by omega)); refine Wo_nil ?_; refine W_ret ?_; rotate_left; refine W_region rfl ?_; refine Wo_makeI rfl el23 (int_z (by omega) rfl) (by omega) ?_; rintro b3 w12 hb3 b3lt E12 hO1
    have hr2 := hr2.ext E12; have hG := grownBy_ext hG E12; have hs13 := E12.size; refine Wo rfl (opv_fieldAddr Try.underlying25 rfl rfl Try.sizeOf23 rfl) ?_
    refine Wo_st (v := .slice _ _ _) rfl Try.sizeOf23 rfl rfl rfl (hB2.ext E12) (by simp) (by omega) (Ehr2.trans E12) ?_; rintro w13 E13 hB2 K2 hz2; simp only [List.set] at hB2; have hB1 := (hB1.ext E12).of_heap (K2 _ (by omega))
    have hO := (hO.ext E12).wrote K2 (by omega); have hQ := (hQ.ext E12).wrote K2 (by omega); have hO1 := hO1.toB.wrote K2 (by omega); have hr2 := hr2.wrote E13 (K2 _ (by omega)) hz2
    have hG := grownBy_wrote hG (Ehr2.trans E12) E13 K2 hz2 (by first | exact .inr rfl | omega); refine Wo_nil ?_; refine W_seq ?_; refine W_region rfl ?_; refine Wo (v := .agg _) rfl (opv_load2 Try.isAgg25 Try.sizeOf25 rfl hB2) ?_
    refine Wo_st2 rfl Try.sizeOf25 rfl rfl (by first | rfl | assumption) (by first | rfl | assumption) hB1 (by omega) E13 ?_; rintro w14 E14 hB1 K3 hz3; have hB2 := hB2.of_heap (K3 _ (by omega)); have hO := hO.wrote K3 (by omega)
    have hQ := hQ.wrote K3 (by omega); have hO1 := hO1.wrote K3 (by omega); have hr2 := hr2.wrote E14 (K3 _ (by omega)) hz3; have hG := grownBy_wrote hG E13 E14 K3 hz3 (by first | exact .inr rfl | omega); refine Wo_nil ?_
    refine W_ret ?_; rotate_left; refine W_skip ?_; refine W_seq ?_; refine W_region rfl ?_; refine Wo (v := .agg _) rfl (opv_load2 Try.isAgg25 Try.sizeOf25 rfl hB2) ?_
    refine Wo_st2 rfl Try.sizeOf25 rfl rfl (by first | rfl | assumption) (by first | rfl | assumption) hB1 (by omega) Ehr1 ?_; rintro w11 E11 hB1 K2 hz2; have hr1 := hr1.wrote E11 (K2 _ (by omega)) hz2
    have hG := grownBy_wrote hG Ehr1 E11 K2 hz2 (by first | exact .inr rfl | omega); have hO := hO.wrote K2 (by omega); have hB2 := hB2.of_heap (K2 _ (by omega)); have hQ := hQ.wrote K2 (by omega); refine Wo_nil ?_; refine W_ret ?_
    rotate_left
  · exact ⟨_, _, _, rfl, by assumption, _, _, _, _, rfl, hG, hr2.le (by omega), hO.o.mono (by omega), hO1.o.mono (by omega), by omega, by simp⟩
  · exact ⟨_, _, _, rfl, by assumption, _, _, _, _, rfl, hG, hr2.le (by omega), hO.o.mono (by omega), hQ.o.mono (by omega), by omega, by simp; omega⟩
  · exact ⟨_, _, _, rfl, by assumption, _, _, _, _, rfl, hG, hr2.le (by omega), hO1.o.mono (by omega), hQ.o.mono (by omega), by simp, by omega⟩
  · exact ⟨_, _, _, rfl, by assumption, _, _, _, _, rfl, hG, hr1.le (by omega), hO.o.mono (by omega), hQ.o.mono (by omega), by omega, by omega⟩

end Go.Proofs.Ytlalfmialbolhaa
namespace Go.Proofs.Ytlalfmialbolhaa
open Go.Hs
set_option maxRecDepth 10000
set_option maxHeartbeats 4000000
set_option linter.unusedVariables false
set_option linter.unusedSimpArgs false
def smallS (A B : List Int) : Prop := A.length ≤ 24 ∧ B.length ≤ 24

theorem DrawStreamDrawn_ok (w : World) (v : Value) (xs : List UInt8) (h : Bytes w v xs) (hc : CapOk v) : Does Try.prog 45 [v] w (RetE1 w 3 smallS) := by
  have hle := h.le
  have litown : True := trivial
  refine fn_of_Wc Try.func45 rfl Try.results45 Try.ntmps45 rfl Try.isAgg25 Try.sizeOf25 ?_
  focus
    refine W_seq ?_; refine W_region rfl ?_; refine Wo_alloc2 rfl flat25 ?_; rintro b1 w1 hb1 E1 hB1; have hlb1 := hB1.lt; have hs1 := E1.size; refine Wo_nil ?_; refine W_seq ?_; refine W_region rfl ?_
    refine Wo rfl (opv_move (v := v) rfl) ?_; refine Wo_call rfl (opc1 (a := v) Try.call50 rfl) (open_ok _ _ _ ((Mono.mono E1 h)) (by assumption)) ?_; rintro _ w2 ⟨E2, y1, rfl, hy1⟩; have hlhy1 := hy1.lt; have hghy1 := hy1.ge
    have hs2 := E2.size; refine Wo_call rfl (opc2 (a := .pointer _) (b := .int _ _) Try.call51 rfl rfl) (Stream_ok _ _ (by assumption) (by omega) (by omega)) ?_; rintro _ w3 ⟨u1, q1, x1, y2, rfl, E3, hr1, hO1, hQ1, hy2⟩
    have icu1 := OwnedB.isC (Owned.toB hO1); have cpu1 := OwnedB.capOk (Owned.toB hO1); have icq1 := OwnedB.isC (Owned.toB hQ1); have cpq1 := OwnedB.capOk (Owned.toB hQ1); (try dsimp only at hy2); have hlhr1 := hr1.lt
    have Ehr1 := hr1.old; have hB1 := (hB1.ext E2).grown E3 (by simp only [ne_eq, Option.some.injEq]; omega); have hs3 := E3.size
    refine Wo_st2 rfl Try.sizeOf25 rfl rfl (by first | rfl | assumption) (by first | rfl | assumption) hB1 (by omega) (E1.trans Ehr1) ?_; rintro w4 E4 hB1 K1 hz1; have hO1 := hO1.toB.wrote K1 (by omega)
    have hQ1 := hQ1.toB.wrote K1 (by omega); refine Wo_nil ?_; refine W_ret ?_
  exact ⟨_, _, _, rfl, by assumption, _, _, _, _, rfl, by assumption, hO1.o.mono (by omega), hQ1.o.mono (by omega), by unfold smallS; omega⟩

end Go.Proofs.Ytlalfmialbolhaa
set_option linter.unusedSimpArgs false
namespace Go.Hs
variable {P : Program} {ρ : Env} {w : World} {ty t t' : TypeId} {x y : Operand} {a b : Int}

theorem opv_shr {k : IntKind} (hx : evalE ρ x = .int .i64 a) (hy : evalE ρ y = .int k b) (h : 0 ≤ a ∧ a ≤ 9223372036854775807 ∧ 0 ≤ b) :
    OpV P (.binOp .shr t x y t') ty ρ w (.int .i64 ((a.toNat >>> b.toNat : Nat) : Int)) := by
  obtain ⟨A, rfl⟩ := Int.eq_ofNat_of_zero_le h.1
  obtain ⟨B, rfl⟩ := Int.eq_ofNat_of_zero_le h.2.2
  have key : ((A : Int) / 2 ^ min B 64 : Int) = ((A >>> B : Nat) : Int) := by
    rw [Nat.shiftRight_eq_div_pow]
    by_cases hb : B ≤ 64
    · rw [Nat.min_eq_left hb]; simp
    · rw [Nat.min_eq_right (by omega)]
      have h1 : A / 2 ^ B = 0 := Nat.div_eq_of_lt (Nat.lt_of_lt_of_le (show A < 2 ^ 64 by omega) (Nat.pow_le_pow_right (by omega) (by omega)))
      rw [h1]
      omega
  simp [OpV, execOp, hx, hy, eqGuard, binOp, shift_shr_any, IntKind.bits]
  exact key
theorem opv_and (hx : evalE ρ x = .int .i64 a) (hy : evalE ρ y = .int .i64 b) (h : 0 ≤ a ∧ 0 ≤ b ∧ b ≤ 9223372036854775807) :
    OpV P (.binOp .and t x y t') ty ρ w (.int .i64 ((a.toNat &&& b.toNat : Nat) : Int)) := by
  obtain ⟨A, rfl⟩ := Int.eq_ofNat_of_zero_le h.1
  obtain ⟨B, rfl⟩ := Int.eq_ofNat_of_zero_le h.2.1
  have hB : B < 2 ^ 63 := by omega
  have hx' : A &&& B ≤ B := Nat.and_le_right
  have key : IntKind.i64.wrap ((BitVec.ofInt 64 (A : Int) &&& BitVec.ofInt 64 (B : Int)).toNat : Int) = ((A &&& B : Nat) : Int) := by
    have e1 : (BitVec.ofInt 64 (A : Int)).toNat = A % 2 ^ 64 := by simp
    have e2 : (BitVec.ofInt 64 (B : Int)).toNat = B := by simp; omega
    have e3 : (A % 2 ^ 64) &&& B = A &&& B := by
      apply Nat.eq_of_testBit_eq
      intro i
      rw [Nat.testBit_and, Nat.testBit_and, Nat.testBit_mod_two_pow]
      by_cases hi : i < 64
      · simp [hi]
      · have : B.testBit i = false := Nat.testBit_lt_two_pow (Nat.lt_of_lt_of_le hB (Nat.pow_le_pow_right (by omega) (by omega)))
        simp [this]
    rw [BitVec.toNat_and, e1, e2, e3, IntKind.wrap_i64]
    omega
  simp [OpV, execOp, hx, hy, eqGuard, binOp, Op.intBits]
  exact key
end Go.Hs
namespace Go.Proofs.Ytlalfmialbolhaa
open Go.Hs
set_option maxRecDepth 10000
set_option maxHeartbeats 4000000
set_option linter.unusedVariables false
set_option linter.unusedSimpArgs false

theorem isCode_ok (n : Int) (w : World) : Does Try.prog 81 [.int .i64 n] w (Ret w (.bool (decide (0 ≤ n ∧ n ≤ 65535)))) := by
  refine fn_of_W1 Try.func81 rfl Try.results81 Try.ntmps81 rfl ?_
  focus
    refine W_seq ?_; refine W_region rfl ?_; refine Wo rfl (opv_assign (v := .bool _) rfl) ?_; refine Wo_nil ?_; refine W_seq ?_; refine W_region rfl ?_; refine Wo rfl (opv_move (v := .int _ _) rfl) ?_
    refine Wo rfl (opv_geq rfl rfl) ?_; refine Wo_split_dec rfl (opv_move (v := .bool _) rfl) (fun h1 => ?_) (fun h1 => ?_); refine Wo rfl (opv_move (v := .int _ _) rfl) ?_; refine Wo rfl (opv_leq rfl rfl) ?_
    refine Wo rfl (opv_pick_t (v := .bool _) rfl rfl) ?_; refine Wo rfl (opv_assign (v := .bool _) rfl) ?_; refine Wo_nil ?_; refine W_ret ?_; refine at_ret (v := .bool _) rfl ?_; refine ⟨congrArg Value.bool ?_, (Ext.refl _)⟩
    rotate_left; refine Wo_skip rfl ?_; refine Wo_skip rfl ?_; refine Wo rfl (opv_pick_f (v := .bool _) rfl rfl) ?_; refine Wo rfl (opv_assign (v := .bool _) rfl) ?_; refine Wo_nil ?_; refine W_ret ?_
    refine at_ret (v := .bool _) rfl ?_; refine ⟨congrArg Value.bool ?_, (Ext.refl _)⟩; rotate_left
  · exact decide_eq_decide.2 (by omega)
  · exact (decide_eq_false (by omega)).symm

def hasC (n m : Int) : Bool := decide (0 ≤ n ∧ n ≤ 65535 ∧ 0 ≤ m ∧ m ≤ 15) && n.toNat.testBit m.toNat
theorem and_one (x : Nat) (k : Nat) : (((x >>> k) &&& 1 : Nat) : Int) = 1 ↔ x.testBit k = true := by
  rw [Nat.testBit_eq_decide_div_mod_eq, Nat.and_one_is_mod, Nat.shiftRight_eq_div_pow, decide_eq_true_iff]
  generalize x / 2 ^ k = q
  omega
theorem Has_ok (n m : Int) (w : World) : Does Try.prog 59 [.int .i64 n, .int .i64 m] w (Ret w (.bool (hasC n m))) := by
  refine fn_of_W1 Try.func59 rfl Try.results59 Try.ntmps59 rfl ?_
  focus
    refine W_seq ?_; refine W_region rfl ?_; refine Wo rfl (opv_assign (v := .bool _) rfl) ?_; refine Wo_nil ?_; refine W_seq ?_; refine W_region rfl ?_; refine Wo rfl (opv_move (v := .int _ _) rfl) ?_
    refine Wo_call rfl (opc1 (a := .int _ _) Try.call81 rfl) (isCode_ok _ _) ?_; rintro _ w1 ⟨rfl, E1⟩; have hs1 := E1.size; refine Wo_split_dec rfl (opv_move (v := .bool _) rfl) (fun h1 => ?_) (fun h1 => ?_)
    refine Wo rfl (opv_move (v := .int _ _) rfl) ?_; refine Wo_call rfl (opc1 (a := .int _ _) Try.call81 rfl) (isCode_ok _ _) ?_; rintro _ w2 ⟨rfl, E2⟩; have hs2 := E2.size; refine Wo rfl (opv_pick_t (v := .bool _) rfl rfl) ?_
    refine Wo_split_dec rfl (opv_move (v := .bool _) rfl) (fun h2 => ?_) (fun h2 => ?_); refine Wo rfl (opv_move (v := .int _ _) rfl) ?_; refine Wo rfl (opv_leq rfl rfl) ?_; refine Wo rfl (opv_pick_t (v := .bool _) rfl rfl) ?_
    refine Wo_split_dec rfl (opv_move (v := .bool _) rfl) (fun h3 => ?_) (fun h3 => ?_); refine Wo rfl (opv_move (v := .int _ _) rfl) ?_; refine Wo rfl (opv_move (v := .int _ _) rfl) ?_; refine Wo rfl (opv_shr rfl rfl (by omega)) ?_
    refine Wo rfl (opv_and rfl rfl ⟨Int.natCast_nonneg _, by omega⟩) ?_; refine Wo rfl (opv_eql rfl rfl) ?_; refine Wo rfl (opv_pick_t (v := .bool _) rfl rfl) ?_; refine Wo rfl (opv_assign (v := .bool _) rfl) ?_; refine Wo_nil ?_
    refine W_ret ?_; refine at_ret (v := .bool _) rfl ?_; refine ⟨congrArg Value.bool ?_, (E1.trans E2)⟩; rotate_left; refine Wo_skip rfl ?_; refine Wo_skip rfl ?_; refine Wo_skip rfl ?_; refine Wo_skip rfl ?_; refine Wo_skip rfl ?_
    refine Wo rfl (opv_pick_f (v := .bool _) rfl rfl) ?_; refine Wo rfl (opv_assign (v := .bool _) rfl) ?_; refine Wo_nil ?_; refine W_ret ?_; refine at_ret (v := .bool _) rfl ?_; refine ⟨congrArg Value.bool ?_, (E1.trans E2)⟩
    rotate_left; refine Wo_skip rfl ?_; refine Wo_skip rfl ?_; refine Wo rfl (opv_pick_f (v := .bool _) rfl rfl) ?_; refine Wo rfl (opv_move (v := .bool _) rfl) ?_; refine Wo_skip rfl ?_; refine Wo_skip rfl ?_; refine Wo_skip rfl ?_
    refine Wo_skip rfl ?_; refine Wo_skip rfl ?_; refine Wo rfl (opv_pick_f (v := .bool _) rfl rfl) ?_; refine Wo rfl (opv_assign (v := .bool _) rfl) ?_; refine Wo_nil ?_; refine W_ret ?_; refine at_ret (v := .bool _) rfl ?_
    refine ⟨congrArg Value.bool ?_, (E1.trans E2)⟩; rotate_left; refine Wo_skip rfl ?_; refine Wo_skip rfl ?_; refine Wo rfl (opv_pick_f (v := .bool _) rfl rfl) ?_; refine Wo rfl (opv_move (v := .bool _) rfl) ?_; refine Wo_skip rfl ?_
    refine Wo_skip rfl ?_; refine Wo rfl (opv_pick_f (v := .bool _) rfl rfl) ?_; refine Wo rfl (opv_move (v := .bool _) rfl) ?_; refine Wo_skip rfl ?_; refine Wo_skip rfl ?_; refine Wo_skip rfl ?_; refine Wo_skip rfl ?_
    refine Wo_skip rfl ?_; refine Wo rfl (opv_pick_f (v := .bool _) rfl rfl) ?_; refine Wo rfl (opv_assign (v := .bool _) rfl) ?_; refine Wo_nil ?_; refine W_ret ?_; refine at_ret (v := .bool _) rfl ?_
    refine ⟨congrArg Value.bool ?_, E1⟩; rotate_left
  · have hn : 0 ≤ n ∧ n ≤ 65535 ∧ 0 ≤ m ∧ m ≤ 15 := by omega
    unfold hasC
    rw [decide_eq_true hn, Bool.true_and, Bool.eq_iff_iff, decide_eq_true_iff]
    exact and_one _ _
  all_goals
    have hn : ¬ (0 ≤ n ∧ n ≤ 65535 ∧ 0 ≤ m ∧ m ≤ 15) := by omega
    unfold hasC
    rw [decide_eq_false hn]; rfl

theorem alive_ok (w : World) : Does Try.prog 17 [] w (Ret w (.bool true)) := by
  have h1 : ∀ w, Does Try.prog 59 [.int .i64 5, .int .i64 2] w (Ret w (.bool true)) := fun w => by
    have := Has_ok 5 2 w
    have e : hasC 5 2 = true := by decide
    rw [e] at this; exact this
  have h2 : ∀ w, Does Try.prog 59 [.int .i64 5, .int .i64 1] w (Ret w (.bool false)) := fun w => by
    have := Has_ok 5 1 w
    have e : hasC 5 1 = false := by decide
    rw [e] at this; exact this
  refine fn_of_W1 Try.func17 rfl Try.results17 Try.ntmps17 rfl ?_
  focus
    refine W_seq ?_; refine W_region rfl ?_; refine Wo rfl (opv_assign (v := .bool _) rfl) ?_; refine Wo_nil ?_; refine W_seq ?_; refine W_region rfl ?_
    refine Wo_call rfl (opc2 (a := .int _ _) (b := .int _ _) Try.call59 rfl rfl) (h1 _) ?_; rintro _ w1 ⟨rfl, E1⟩; have hs1 := E1.size; refine Wo rfl (opv_move (v := .bool _) rfl) ?_
    refine Wo_call rfl (opc2 (a := .int _ _) (b := .int _ _) Try.call59 rfl rfl) (h2 _) ?_; rintro _ w2 ⟨rfl, E2⟩; have hs2 := E2.size; refine Wo rfl (opv_not rfl) ?_; refine Wo rfl (opv_pick_t (v := .bool _) rfl rfl) ?_
    refine Wo rfl (opv_assign (v := .bool _) rfl) ?_; refine Wo_nil ?_; refine W_ret ?_; exact ⟨rfl, (E1.trans E2)⟩

end Go.Proofs.Ytlalfmialbolhaa
namespace Go.Proofs.Ytlalfmialbolhaa
open Go.Hs
set_option maxRecDepth 10000
set_option maxHeartbeats 4000000
set_option linter.unusedVariables false
set_option linter.unusedSimpArgs false

theorem DrawSameStreams_ok (w : World) (v : Value) (xs : List UInt8) (h : Bytes w v xs) (hc : CapOk v) : Does Try.prog 13 [v] w (RetE2 w 3 smallS) := by
  have hle := h.le
  have litown : True := trivial
  refine fn_of_Wcc Try.func13 rfl Try.results13 Try.ntmps13 rfl Try.isAgg25 Try.sizeOf25 ?_
  have stop5 : True := trivial
  have stop7 : True := trivial
  have stop9 : True := trivial
  focus
    refine W_seq ?_; refine W_region rfl ?_; refine Wo_alloc2 rfl flat25 ?_; rintro b1 w1 hb1 E1 hB1; have hlb1 := hB1.lt; have hs1 := E1.size; refine Wo_alloc2 rfl flat25 ?_; rintro b2 w2 hb2 E2 hB2; have hlb2 := hB2.lt
    have hs2 := E2.size; refine Wo_nil ?_; refine W_seq ?_; refine W_region rfl ?_; refine Wo rfl (opv_move (v := v) rfl) ?_
    refine Wo_call rfl (opc1 (a := v) Try.call50 rfl) (open_ok _ _ _ ((Mono.mono (E1.trans E2) h)) (by assumption)) ?_; rintro _ w3 ⟨E3, y1, rfl, hy1⟩; have hlhy1 := hy1.lt; have hghy1 := hy1.ge; have hs3 := E3.size
    refine Wo rfl (opv_assign (v := .pointer _) rfl) ?_; refine Wo_nil ?_; refine W_seq ?_; refine W_region rfl ?_; refine Wo rfl (opv_move (v := .pointer _) rfl) ?_
    refine Wo_call rfl (opc2 (a := .pointer _) (b := .int _ _) Try.call51 rfl rfl) (Stream_ok _ _ (by assumption) (by omega) (by omega)) ?_; rintro _ w4 ⟨u1, q1, x1, y2, rfl, E4, hr1, hO1, hQ1, hy2⟩
    have icu1 := OwnedB.isC (Owned.toB hO1); have cpu1 := OwnedB.capOk (Owned.toB hO1); have icq1 := OwnedB.isC (Owned.toB hQ1); have cpq1 := OwnedB.capOk (Owned.toB hQ1); (try dsimp only at hy2); have hlhr1 := hr1.lt
    have Ehr1 := hr1.old; have hB1 := (hB1.ext (E2.trans E3)).grown E4 (by simp only [ne_eq, Option.some.injEq]; omega); have hB2 := (hB2.ext E3).grown E4 (by simp only [ne_eq, Option.some.injEq]; omega); have hs4 := E4.size
    refine Wo_alloc2 rfl flat25 ?_; rintro b3 w5 hb3 E5 hB3; have hlb3 := hB3.lt; have hr1 := hr1.ext E5; have hs5 := E5.size
    refine Wo_st2 rfl Try.sizeOf25 rfl rfl (by first | rfl | assumption) (by first | rfl | assumption) hB3 (by omega) (((E1.trans E2).trans Ehr1).trans E5) ?_; rintro w6 E6 hB3 K1 hz1
    have E7 := ((E2.trans Ehr1).trans E5).wroteAt (((E1.trans E2).trans Ehr1).trans E5) E6 K1 hz1 (by omega); have szE7 := E7.size; have E8 := (Ehr1.trans E5).wroteAt (((E1.trans E2).trans Ehr1).trans E5) E6 K1 hz1 (by omega)
    have szE8 := E8.size; have E9 := E5.wroteAt (((E1.trans E2).trans Ehr1).trans E5) E6 K1 hz1 (by omega); have szE9 := E9.size; have hO1 := (hO1.toB.ext E5).wrote K1 (by omega); have hQ1 := (hQ1.toB.ext E5).wrote K1 (by omega)
    have hB1 := (hB1.ext E5).of_heap (K1 _ (by omega)); have hB2 := (hB2.ext E5).of_heap (K1 _ (by omega)); have hr1 := hr1.wrote E8 (K1 _ (by omega)) hz1; refine Wo_nil ?_; refine W_seq ?_; refine W_seq ?_; refine W_region rfl ?_
    refine Wo rfl (opv_move (v := .pointer _) rfl) ?_; refine Wo_call rfl (opc2 (a := .pointer _) (b := .int _ _) Try.call52 rfl rfl) (pick_ok _ _ (by assumption) (by omega)) ?_; rintro _ w7 ⟨y3, rfl, E10, hr2, hy3⟩
    (try dsimp only at hy3); have hlhr2 := hr2.lt; have Ehr2 := hr2.old; have hB3 := hB3.grown E10 (by simp only [ne_eq, Option.some.injEq]; omega); have hO1 := hO1.grown E10 (by omega); have hQ1 := hQ1.grown E10 (by omega)
    have hB1 := hB1.grown E10 (by simp only [ne_eq, Option.some.injEq]; omega); have hB2 := hB2.grown E10 (by simp only [ne_eq, Option.some.injEq]; omega); have hs6 := E10.size; refine Wo_nil ?_; refine W_block ?_; refine W_seq ?_
    refine W_region rfl ?_; refine Wo rfl (opv_eql rfl rfl) ?_; refine Wo rfl (opv_assign (v := .bool _) rfl) ?_; refine Wo_nil ?_; refine W_cond_dec rfl (fun h1 => ?_) (fun h1 => ?_); refine W_seq ?_; rotate_left; refine W_seq ?_
    refine W_region rfl ?_; refine Wo rfl (opv_eql rfl rfl) ?_; refine Wo rfl (opv_assign (v := .bool _) rfl) ?_; refine Wo_nil ?_; refine W_cond_dec rfl (fun h2 => ?_) (fun h2 => ?_); refine W_seq ?_; rotate_left; refine W_skip ?_
    refine W_seq ?_; rotate_left
  · clear stop5 stop7 stop9
    have E2w := E1.trans E2
    have kS : ∀ (w : World) (u1 u2 : Value), Ints w u1 x1 → Ints w u2 y2 → Does Try.prog 53 [.agg #[u1, u2]] w (RetS2 w 3 (shV x1 y2).1 (shV x1 y2).2) := fun w u1 u2 h1 h2 => spec_ShortOf_ok w u1 u2 x1 y2 h1 h2 (by omega) (by omega)
    have hsl : (shV x1 y2).1.length ≤ 12 ∧ (shV x1 y2).2.length ≤ 12 := by
      unfold shV
      split
      · rename_i h
        have := h.short_stm.2.2
        simp only; omega
      · simp
    focus
      have szE2w := E2w.size; have szEhr2 := Ehr2.size; have szE9 := E9.size; have szE8 := E8.size; have szE7 := E7.size; have szE6 := E6.size; have szE5 := E5.size; have szEhr1 := Ehr1.size; have szE3 := E3.size; have szE2 := E2.size
      have szE1 := E1.size; refine W_held (fun _ => True) mixed rfl (by kernel_rfl) ?_; intro w8 E11 K2 hz2; have hr2 := hr2.ext E11; have hs7 := E11.size; refine Wh_all (rs := [0, 1]) (by kernel_rfl) rfl ?_; refine WhAll_cons rfl ?_ ?_
      refine Wo (v := .agg _) rfl (opv_load2 Try.isAgg25 Try.sizeOf25 rfl (hB3.ext E11)) ?_; refine Wo_nil ?_; refine ⟨trivial, ?_⟩; refine Wh_all (rs := [1]) (by kernel_rfl) rfl ?_; refine WhAll_cons rfl ?_ ?_
      refine Wo (v := .agg _) rfl (opv_load2 Try.isAgg25 Try.sizeOf25 rfl (hB3.ext E11)) ?_; refine Wo_nil ?_; refine ⟨trivial, ?_⟩; refine Wh_all (rs := [2]) (by kernel_rfl) rfl ?_; refine WhAll_cons rfl ?_ ?_
      refine Wo_call rfl (opc1 (a := .agg _) Try.call53 rfl) (kS _ _ _ ((Mono.mono E11 (OwnedB.read hO1))) ((Mono.mono E11 (OwnedB.read hQ1)))) ?_; rintro _ w9 ⟨u2, q2, rfl, E12, hO2, hQ2, hd1⟩; have icu2 := OwnedB.isC (Owned.toB hO2)
      have cpu2 := OwnedB.capOk (Owned.toB hO2); have icq2 := OwnedB.isC (Owned.toB hQ2); have cpq2 := OwnedB.capOk (Owned.toB hQ2); have hr2 := hr2.ext E12; have hs8 := E12.size; refine Wo_nil ?_; refine ⟨trivial, ?_⟩
      refine Wh_all (rs := [3]) (by kernel_rfl) rfl ?_; refine WhAll_cons rfl ?_ ?_
      refine Wo_st2 rfl Try.sizeOf25 rfl rfl (by first | rfl | assumption) (by first | rfl | assumption) (hB1.ext (E11.trans E12)) (by omega) (((E2w.trans Ehr2).trans E11).trans E12) ?_; rintro w10 E13 hB1 K3 hz3
      have hB3 := (hB3.ext (E11.trans E12)).of_heap (K3 _ (by omega)); have hO1 := (hO1.ext (E11.trans E12)).wrote K3 (by omega); have hQ1 := (hQ1.ext (E11.trans E12)).wrote K3 (by omega)
      have hB2 := (hB2.ext (E11.trans E12)).of_heap (K3 _ (by omega)); have hO2 := hO2.toB.wrote K3 (by omega); have hQ2 := hQ2.toB.wrote K3 (by omega); refine Wo_nil ?_; refine ⟨trivial, ?_⟩
      refine Wh_all (rs := [4]) (by kernel_rfl) rfl ?_; refine WhAll_cons rfl ?_ ?_; refine Wo_st2 rfl Try.sizeOf25 rfl rfl (by first | rfl | assumption) (by first | rfl | assumption) hB2 (by omega) E13 ?_; rintro w11 E14 hB2 K4 hz4
      have hB1 := hB1.of_heap (K4 _ (by omega)); have hB3 := hB3.of_heap (K4 _ (by omega)); have hO1 := hO1.wrote K4 (by omega); have hQ1 := hQ1.wrote K4 (by omega); have hO2 := hO2.wrote K4 (by omega); have hQ2 := hQ2.wrote K4 (by omega)
      refine Wo_nil ?_; refine ⟨trivial, ?_⟩; refine Wh_done (by kernel_rfl) ?_; refine W_ret ?_; rotate_left; exact WhAll_nil; exact WhAll_nil; exact WhAll_nil; exact WhAll_nil; refine WhAll_cons rfl ?_ ?_
      refine Wo (v := .agg _) rfl (opv_load2 Try.isAgg25 Try.sizeOf25 rfl (hB3.ext E11)) ?_; refine Wo_nil ?_; refine ⟨trivial, ?_⟩; refine Wh_all (rs := [0, 2]) (by kernel_rfl) rfl ?_; refine WhAll_cons rfl ?_ ?_
      refine Wo (v := .agg _) rfl (opv_load2 Try.isAgg25 Try.sizeOf25 rfl (hB3.ext E11)) ?_; refine Wo_nil ?_; refine ⟨trivial, ?_⟩; refine Wh_all (rs := [2]) (by kernel_rfl) rfl ?_; refine WhAll_cons rfl ?_ ?_
      refine Wo_call rfl (opc1 (a := .agg _) Try.call53 rfl) (kS _ _ _ ((Mono.mono E11 (OwnedB.read hO1))) ((Mono.mono E11 (OwnedB.read hQ1)))) ?_; rintro _ w9 ⟨u2, q2, rfl, E12, hO2, hQ2, hd1⟩; have icu2 := OwnedB.isC (Owned.toB hO2)
      have cpu2 := OwnedB.capOk (Owned.toB hO2); have icq2 := OwnedB.isC (Owned.toB hQ2); have cpq2 := OwnedB.capOk (Owned.toB hQ2); have hr2 := hr2.ext E12; have hs8 := E12.size; refine Wo_nil ?_; refine ⟨trivial, ?_⟩
      refine Wh_all (rs := [3]) (by kernel_rfl) rfl ?_; refine WhAll_cons rfl ?_ ?_
      refine Wo_st2 rfl Try.sizeOf25 rfl rfl (by first | rfl | assumption) (by first | rfl | assumption) (hB1.ext (E11.trans E12)) (by omega) (((E2w.trans Ehr2).trans E11).trans E12) ?_; rintro w10 E13 hB1 K3 hz3
      have hB3 := (hB3.ext (E11.trans E12)).of_heap (K3 _ (by omega)); have hO1 := (hO1.ext (E11.trans E12)).wrote K3 (by omega); have hQ1 := (hQ1.ext (E11.trans E12)).wrote K3 (by omega)
      have hB2 := (hB2.ext (E11.trans E12)).of_heap (K3 _ (by omega)); have hO2 := hO2.toB.wrote K3 (by omega); have hQ2 := hQ2.toB.wrote K3 (by omega); refine Wo_nil ?_; refine ⟨trivial, ?_⟩
      refine Wh_all (rs := [4]) (by kernel_rfl) rfl ?_; refine WhAll_cons rfl ?_ ?_; refine Wo_st2 rfl Try.sizeOf25 rfl rfl (by first | rfl | assumption) (by first | rfl | assumption) hB2 (by omega) E13 ?_; rintro w11 E14 hB2 K4 hz4
      have hB1 := hB1.of_heap (K4 _ (by omega)); have hB3 := hB3.of_heap (K4 _ (by omega)); have hO1 := hO1.wrote K4 (by omega); have hQ1 := hQ1.wrote K4 (by omega); have hO2 := hO2.wrote K4 (by omega); have hQ2 := hQ2.wrote K4 (by omega)
      refine Wo_nil ?_; refine ⟨trivial, ?_⟩; refine Wh_done (by kernel_rfl) ?_; refine W_ret ?_; rotate_left; exact WhAll_nil; exact WhAll_nil; exact WhAll_nil; refine WhAll_cons rfl ?_ ?_
      refine Wo_call rfl (opc1 (a := .agg _) Try.call53 rfl) (kS _ _ _ ((Mono.mono E11 (OwnedB.read hO1))) ((Mono.mono E11 (OwnedB.read hQ1)))) ?_; rintro _ w9 ⟨u2, q2, rfl, E12, hO2, hQ2, hd1⟩; have icu2 := OwnedB.isC (Owned.toB hO2)
      have cpu2 := OwnedB.capOk (Owned.toB hO2); have icq2 := OwnedB.isC (Owned.toB hQ2); have cpq2 := OwnedB.capOk (Owned.toB hQ2); have hr2 := hr2.ext E12; have hs8 := E12.size; refine Wo_nil ?_; refine ⟨trivial, ?_⟩
      refine Wh_all (rs := [0]) (by kernel_rfl) rfl ?_; refine WhAll_cons rfl ?_ ?_; refine Wo (v := .agg _) rfl (opv_load2 Try.isAgg25 Try.sizeOf25 rfl (hB3.ext (E11.trans E12))) ?_; refine Wo_nil ?_; refine ⟨trivial, ?_⟩
      refine Wh_all (rs := [3]) (by kernel_rfl) rfl ?_; refine WhAll_cons rfl ?_ ?_
      refine Wo_st2 rfl Try.sizeOf25 rfl rfl (by first | rfl | assumption) (by first | rfl | assumption) (hB1.ext (E11.trans E12)) (by omega) (((E2w.trans Ehr2).trans E11).trans E12) ?_; rintro w10 E13 hB1 K3 hz3
      have hB3 := (hB3.ext (E11.trans E12)).of_heap (K3 _ (by omega)); have hO1 := (hO1.ext (E11.trans E12)).wrote K3 (by omega); have hQ1 := (hQ1.ext (E11.trans E12)).wrote K3 (by omega)
      have hB2 := (hB2.ext (E11.trans E12)).of_heap (K3 _ (by omega)); have hO2 := hO2.toB.wrote K3 (by omega); have hQ2 := hQ2.toB.wrote K3 (by omega); refine Wo_nil ?_; refine ⟨trivial, ?_⟩
      refine Wh_all (rs := [4]) (by kernel_rfl) rfl ?_; refine WhAll_cons rfl ?_ ?_; refine Wo_st2 rfl Try.sizeOf25 rfl rfl (by first | rfl | assumption) (by first | rfl | assumption) hB2 (by omega) E13 ?_; rintro w11 E14 hB2 K4 hz4
      have hB1 := hB1.of_heap (K4 _ (by omega)); have hB3 := hB3.of_heap (K4 _ (by omega)); have hO1 := hO1.wrote K4 (by omega); have hQ1 := hQ1.wrote K4 (by omega); have hO2 := hO2.wrote K4 (by omega); have hQ2 := hQ2.wrote K4 (by omega)
      refine Wo_nil ?_; refine ⟨trivial, ?_⟩; refine Wh_done (by kernel_rfl) ?_; refine W_ret ?_; rotate_left; exact WhAll_nil; exact WhAll_nil; exact WhAll_nil; exact WhAll_nil; exact WhAll_nil
    all_goals exact ⟨_, _, _, rfl, by assumption, _, _, _, rfl, by assumption, _, _, _, _, _, _, _, _, rfl, by assumption, hO1.o.mono (by omega), hQ1.o.mono (by omega), hO2.o.mono (by omega), hQ2.o.mono (by omega), by unfold smallS; omega, by unfold smallS; omega⟩
  · clear stop5 stop7 stop9
    have heldS : w7 = w7 := rfl
    have Ew7 := (E1.trans E2).trans Ehr2
    have offs : True := trivial
    refine W_mid [20, 21, 22, 23, 24, 25, 26, 27, 28, 29, 6] (fun ((b6, _) : Nat × Value) => [(6, .pointer (some ⟨b6, 0, none⟩))]) (fun (b6, vv) w' => Ext w7 w' ∧ w7.heap.size ≤ b6 ∧ Blk w' b6 [vv, q1] ∧ Owned w7.heap.size XI w' vv (([] ++ x1) ++ y2)) ?_ ?_
    · focus
        have szEw7 := Ew7.size; have szEhr2 := Ehr2.size; have szE9 := E9.size; have szE8 := E8.size; have szE7 := E7.size; have szE6 := E6.size; have szE5 := E5.size; have szEhr1 := Ehr1.size; have szE3 := E3.size; have szE2 := E2.size
        have szE1 := E1.size; refine W_held (fun w' => Ext w7 w') mixed rfl (by kernel_rfl) ?_; intro w8 E11 K2 hz2; have hr2 := hr2.ext E11; have hs7 := E11.size
        refine Wh_take 1 rfl (by kernel_rfl) (by kernel_rfl) rfl (fun _ _ => opv_fieldAddr Try.underlying25 rfl rfl Try.sizeOf23 rfl) E11 ?_
        refine Wh_take (v := u1) 2 rfl (by kernel_rfl) (by kernel_rfl) rfl (fun w' hw' => opv_load Try.isAgg23 rfl ((hB3.ext hw').cell rfl)) E11 ?_
        refine Wh_take 4 rfl (by kernel_rfl) (by kernel_rfl) rfl (fun _ _ => opv_fieldAddr Try.underlying25 rfl rfl Try.sizeOf23 rfl) E11 ?_
        refine Wh_take (v := q1) 5 rfl (by kernel_rfl) (by kernel_rfl) rfl (fun w' hw' => opv_load Try.isAgg23 rfl ((hB3.ext hw').cell rfl)) E11 ?_
        refine Wh_take 7 rfl (by kernel_rfl) (by kernel_rfl) rfl (fun _ _ => opv_fieldAddr Try.underlying25 rfl rfl Try.sizeOf23 rfl) E11 ?_
        refine Wh_take (v := q1) 8 rfl (by kernel_rfl) (by kernel_rfl) rfl (fun w' hw' => opv_load Try.isAgg23 rfl ((hB3.ext hw').cell rfl)) E11 ?_; refine Wh_all (rs := [0, 10]) (by kernel_rfl) rfl ?_; refine WhAll_cons rfl ?_ ?_
        refine Wo_lit0 XInt rfl el23 Try.sizeOf3 ?_; rintro b4 w9 hb4 b4lt E12 hO2; have hr2 := hr2.ext E12; have hs8 := E12.size; refine Wo_nil ?_; refine ⟨(E11.trans E12), ?_⟩; refine Wh_all (rs := [3, 10]) (by kernel_rfl) rfl ?_
        refine WhAll_cons rfl ?_ ?_; refine Wo_appS rfl el23 rfl rfl (Mono.mono (E11.trans E12) (OwnedB.read hO1)) hO2.toB (by first | omega | (simp <;> omega)) (by omega) (by omega) ((Ew7.trans E11).trans E12) (by omega) ?_
        have hT1 := hO2.toB; rintro v1 w10 hO2 E13 M1; have E14 := M1.ext hT1 (((E2.trans Ehr2).trans E11).trans E12) (by omega); have szE14 := E14.size; have E15 := M1.ext hT1 ((Ehr2.trans E11).trans E12) (by omega); have szE15 := E15.size
        have E16 := M1.ext hT1 (E11.trans E12) (by omega); have szE16 := E16.size; have E17 := M1.ext hT1 E12 (by omega); have szE17 := E17.size; have hB3 := (hB3.ext (E11.trans E12)).moves M1 hT1 (by omega)
        have hO1 := (hO1.ext (E11.trans E12)).moves M1 hT1 (by omega); have hQ1 := (hQ1.ext (E11.trans E12)).moves M1 hT1 (by omega); have hB1 := (hB1.ext (E11.trans E12)).moves M1 hT1 (by omega)
        have hB2 := (hB2.ext (E11.trans E12)).moves M1 hT1 (by omega); have hr2 := hr2.moves E15 M1 hT1 (by omega); have offhB3 : Value.ownBlock v1 ≠ some b3 := Moves.off M1 (fun e => own_notin hT1 (by omega) e.symm) (by omega)
        have offhB1 : Value.ownBlock v1 ≠ some b1 := Moves.off M1 (fun e => own_notin hT1 (by omega) e.symm) (by omega); have offhB2 : Value.ownBlock v1 ≠ some b2 := Moves.off M1 (fun e => own_notin hT1 (by omega) e.symm) (by omega)
        have hs9 := E13.size; have szM1 := M1.1.size; have icv1 := OwnedB.isC (Owned.toB hO2); refine Wo_nil ?_; refine ⟨E16, ?_⟩; refine Wh_all (rs := [6, 10]) (by kernel_rfl) rfl ?_; refine WhAll_cons rfl ?_ ?_
        refine Wo_appS rfl el23 rfl rfl (OwnedB.read hQ1) hO2.toB (by first | omega | (simp <;> omega)) (by omega) (by omega) E13 (by omega) ?_; have hT2 := hO2.toB; rintro v2 w11 hO2 E18 M2; have E19 := M2.ext hT2 E14 (by omega)
        have szE19 := E19.size; have E20 := M2.ext hT2 E15 (by omega); have szE20 := E20.size; have E21 := M2.ext hT2 E16 (by omega); have szE21 := E21.size; have E22 := M2.ext hT2 E17 (by omega); have szE22 := E22.size
        have hB3 := hB3.moves M2 hT2 (by omega); have hO1 := hO1.moves M2 hT2 (by omega); have hQ1 := hQ1.moves M2 hT2 (by omega); have hB1 := hB1.moves M2 hT2 (by omega); have hB2 := hB2.moves M2 hT2 (by omega)
        have hr2 := hr2.moves E20 M2 hT2 (by omega); have offhB3 : Value.ownBlock v2 ≠ some b3 := Moves.off M2 (fun e => own_notin hT2 (by omega) e.symm) (by omega)
        have offhB1 : Value.ownBlock v2 ≠ some b1 := Moves.off M2 (fun e => own_notin hT2 (by omega) e.symm) (by omega); have offhB2 : Value.ownBlock v2 ≠ some b2 := Moves.off M2 (fun e => own_notin hT2 (by omega) e.symm) (by omega)
        have hs10 := E18.size; have szM2 := M2.1.size; have icv2 := OwnedB.isC (Owned.toB hO2); refine Wo_nil ?_; refine ⟨E21, ?_⟩
        refine Wh_take 9 rfl (by kernel_rfl) (by kernel_rfl) rfl (fun _ _ => opv_build2 flat25 rfl (by first | assumption | rfl) (by first | assumption | rfl)) E21 ?_; refine Wh_all (rs := [10]) (by kernel_rfl) rfl ?_
        refine WhAll_cons rfl ?_ ?_; refine Wo_alloc2 rfl flat25 ?_; rintro b5 w12 hb5 E23 hB4; have hlb5 := hB4.lt; have hr2 := hr2.ext E23; have hs11 := E23.size; refine Wo_nil ?_; refine ⟨(E21.trans E23), ?_⟩
        refine Wh_all (rs := [11]) (by kernel_rfl) rfl ?_; refine WhAll_cons rfl ?_ ?_; refine Wo_st2 rfl Try.sizeOf25 rfl rfl (by first | rfl | assumption) (by first | rfl | assumption) hB4 (by omega) (E18.trans E23) ?_
        rintro w13 E24 hB4 K3 hz3; have E25 := (E19.trans E23).wroteAt (E18.trans E23) E24 K3 hz3 (by omega); have szE25 := E25.size; have E26 := (E20.trans E23).wroteAt (E18.trans E23) E24 K3 hz3 (by omega); have szE26 := E26.size
        have E27 := (E21.trans E23).wroteAt (E18.trans E23) E24 K3 hz3 (by omega); have szE27 := E27.size; have E28 := (E22.trans E23).wroteAt (E18.trans E23) E24 K3 hz3 (by omega); have szE28 := E28.size
        have E29 := E23.wroteAt (E18.trans E23) E24 K3 hz3 (by omega); have szE29 := E29.size; simp only [List.set] at hB4; have hO2 := (hO2.toB.ext E23).wrote K3 (by omega); have hB3 := (hB3.ext E23).of_heap (K3 _ (by omega))
        have hO1 := (hO1.ext E23).wrote K3 (by omega); have hQ1 := (hQ1.ext E23).wrote K3 (by omega); have hB1 := (hB1.ext E23).of_heap (K3 _ (by omega)); have hB2 := (hB2.ext E23).of_heap (K3 _ (by omega))
        have hr2 := hr2.wrote E26 (K3 _ (by omega)) hz3; refine Wo_nil ?_; refine ⟨E27, ?_⟩; refine Wh_done (by kernel_rfl) ?_; rotate_left; exact WhAll_nil; exact WhAll_nil; refine WhAll_cons rfl ?_ ?_; refine Wo_alloc2 rfl flat25 ?_
        rintro b5 w11 hb5 E18 hB4; have hlb5 := hB4.lt; have hr2 := hr2.ext E18; have hs10 := E18.size; refine Wo_nil ?_; refine ⟨(E16.trans E18), ?_⟩; refine Wh_all (rs := [6]) (by kernel_rfl) rfl ?_; refine WhAll_cons rfl ?_ ?_
        refine Wo_appS rfl el23 rfl rfl (Mono.mono E18 (OwnedB.read hQ1)) (hO2.toB.ext E18) (by first | omega | (simp <;> omega)) (by omega) (by omega) (E13.trans E18) (by omega) ?_; have hT2 := (hO2.toB.ext E18); rintro v2 w12 hO2 E19 M2
        have E20 := M2.ext hT2 (E14.trans E18) (by omega); have szE20 := E20.size; have E21 := M2.ext hT2 (E15.trans E18) (by omega); have szE21 := E21.size; have E22 := M2.ext hT2 (E16.trans E18) (by omega); have szE22 := E22.size
        have E23 := M2.ext hT2 (E17.trans E18) (by omega); have szE23 := E23.size; have hB3 := (hB3.ext E18).moves M2 hT2 (by omega); have hO1 := (hO1.ext E18).moves M2 hT2 (by omega); have hQ1 := (hQ1.ext E18).moves M2 hT2 (by omega)
        have hB1 := (hB1.ext E18).moves M2 hT2 (by omega); have hB2 := (hB2.ext E18).moves M2 hT2 (by omega); have hB4 := hB4.moves M2 hT2 (by omega); have hr2 := hr2.moves E21 M2 hT2 (by omega)
        have offhB3 : Value.ownBlock v2 ≠ some b3 := Moves.off M2 (fun e => own_notin hT2 (by omega) e.symm) (by omega); have offhB1 : Value.ownBlock v2 ≠ some b1 := Moves.off M2 (fun e => own_notin hT2 (by omega) e.symm) (by omega)
        have offhB2 : Value.ownBlock v2 ≠ some b2 := Moves.off M2 (fun e => own_notin hT2 (by omega) e.symm) (by omega); have offhB4 : Value.ownBlock v2 ≠ some b5 := Moves.off M2 (fun e => own_notin hT2 (by omega) e.symm) (by omega)
        have hs11 := E19.size; have szM2 := M2.1.size; have icv2 := OwnedB.isC (Owned.toB hO2); refine Wo_nil ?_; refine ⟨E22, ?_⟩
        refine Wh_take 9 rfl (by kernel_rfl) (by kernel_rfl) rfl (fun _ _ => opv_build2 flat25 rfl (by first | assumption | rfl) (by first | assumption | rfl)) E22 ?_; refine Wh_all (rs := [11]) (by kernel_rfl) rfl ?_
        refine WhAll_cons rfl ?_ ?_; refine Wo_st2 rfl Try.sizeOf25 rfl rfl (by first | rfl | assumption) (by first | rfl | assumption) hB4 (by omega) E19 ?_; rintro w13 E24 hB4 K3 hz3; have E25 := E20.wroteAt E19 E24 K3 hz3 (by omega)
        have szE25 := E25.size; have E26 := E21.wroteAt E19 E24 K3 hz3 (by omega); have szE26 := E26.size; have E27 := E22.wroteAt E19 E24 K3 hz3 (by omega); have szE27 := E27.size; have E28 := E23.wroteAt E19 E24 K3 hz3 (by omega)
        have szE28 := E28.size; simp only [List.set] at hB4; have hO2 := OwnedB.wroteOff hO2.toB (by assumption) K3; have hB3 := hB3.of_heap (K3 _ (by omega)); have hO1 := hO1.wrote K3 (by omega); have hQ1 := hQ1.wrote K3 (by omega)
        have hB1 := hB1.of_heap (K3 _ (by omega)); have hB2 := hB2.of_heap (K3 _ (by omega)); have hr2 := hr2.wrote E26 (K3 _ (by omega)) hz3; refine Wo_nil ?_; refine ⟨E27, ?_⟩; refine Wh_done (by kernel_rfl) ?_; rotate_left
        exact WhAll_nil; exact WhAll_nil; exact WhAll_nil; refine WhAll_cons rfl ?_ ?_; refine Wo_alloc2 rfl flat25 ?_; rintro b5 w10 hb5 E13 hB4; have hlb5 := hB4.lt; have hr2 := hr2.ext E13; have hs9 := E13.size; refine Wo_nil ?_
        refine ⟨((E11.trans E12).trans E13), ?_⟩; refine Wh_all (rs := [3]) (by kernel_rfl) rfl ?_; refine WhAll_cons rfl ?_ ?_
        refine Wo_appS rfl el23 rfl rfl (Mono.mono ((E11.trans E12).trans E13) (OwnedB.read hO1)) (hO2.toB.ext E13) (by first | omega | (simp <;> omega)) (by omega) (by omega) (((Ew7.trans E11).trans E12).trans E13) (by omega) ?_
        have hT1 := (hO2.toB.ext E13); rintro v1 w11 hO2 E14 M1; have E15 := M1.ext hT1 ((((E2.trans Ehr2).trans E11).trans E12).trans E13) (by omega); have szE15 := E15.size
        have E16 := M1.ext hT1 (((Ehr2.trans E11).trans E12).trans E13) (by omega); have szE16 := E16.size; have E17 := M1.ext hT1 ((E11.trans E12).trans E13) (by omega); have szE17 := E17.size
        have E18 := M1.ext hT1 (E12.trans E13) (by omega); have szE18 := E18.size; have hB3 := (hB3.ext ((E11.trans E12).trans E13)).moves M1 hT1 (by omega); have hO1 := (hO1.ext ((E11.trans E12).trans E13)).moves M1 hT1 (by omega)
        have hQ1 := (hQ1.ext ((E11.trans E12).trans E13)).moves M1 hT1 (by omega); have hB1 := (hB1.ext ((E11.trans E12).trans E13)).moves M1 hT1 (by omega); have hB2 := (hB2.ext ((E11.trans E12).trans E13)).moves M1 hT1 (by omega)
        have hB4 := hB4.moves M1 hT1 (by omega); have hr2 := hr2.moves E16 M1 hT1 (by omega); have offhB3 : Value.ownBlock v1 ≠ some b3 := Moves.off M1 (fun e => own_notin hT1 (by omega) e.symm) (by omega)
        have offhB1 : Value.ownBlock v1 ≠ some b1 := Moves.off M1 (fun e => own_notin hT1 (by omega) e.symm) (by omega); have offhB2 : Value.ownBlock v1 ≠ some b2 := Moves.off M1 (fun e => own_notin hT1 (by omega) e.symm) (by omega)
        have offhB4 : Value.ownBlock v1 ≠ some b5 := Moves.off M1 (fun e => own_notin hT1 (by omega) e.symm) (by omega); have hs10 := E14.size; have szM1 := M1.1.size; have icv1 := OwnedB.isC (Owned.toB hO2); refine Wo_nil ?_
        refine ⟨E17, ?_⟩; refine Wh_all (rs := [6]) (by kernel_rfl) rfl ?_; refine WhAll_cons rfl ?_ ?_; refine Wo_appS rfl el23 rfl rfl (OwnedB.read hQ1) hO2.toB (by first | omega | (simp <;> omega)) (by omega) (by omega) E14 (by omega) ?_
        have hT2 := hO2.toB; rintro v2 w12 hO2 E19 M2; have E20 := M2.ext hT2 E15 (by omega); have szE20 := E20.size; have E21 := M2.ext hT2 E16 (by omega); have szE21 := E21.size; have E22 := M2.ext hT2 E17 (by omega)
        have szE22 := E22.size; have E23 := M2.ext hT2 E18 (by omega); have szE23 := E23.size; have hB3 := hB3.moves M2 hT2 (by omega); have hO1 := hO1.moves M2 hT2 (by omega); have hQ1 := hQ1.moves M2 hT2 (by omega)
        have hB1 := hB1.moves M2 hT2 (by omega); have hB2 := hB2.moves M2 hT2 (by omega); have hB4 := hB4.movesOff M2 (Moves.offS M1 rfl (by omega) (by omega)); have hr2 := hr2.moves E21 M2 hT2 (by omega)
        have offhB3 : Value.ownBlock v2 ≠ some b3 := Moves.off M2 (fun e => own_notin hT2 (by omega) e.symm) (by omega); have offhB1 : Value.ownBlock v2 ≠ some b1 := Moves.off M2 (fun e => own_notin hT2 (by omega) e.symm) (by omega)
        have offhB2 : Value.ownBlock v2 ≠ some b2 := Moves.off M2 (fun e => own_notin hT2 (by omega) e.symm) (by omega); have offhB4 : Value.ownBlock v2 ≠ some b5 := Moves.off M2 (by assumption) (by omega); have hs11 := E19.size
        have szM2 := M2.1.size; have icv2 := OwnedB.isC (Owned.toB hO2); refine Wo_nil ?_; refine ⟨E22, ?_⟩
        refine Wh_take 9 rfl (by kernel_rfl) (by kernel_rfl) rfl (fun _ _ => opv_build2 flat25 rfl (by first | assumption | rfl) (by first | assumption | rfl)) E22 ?_; refine Wh_all (rs := [11]) (by kernel_rfl) rfl ?_
        refine WhAll_cons rfl ?_ ?_; refine Wo_st2 rfl Try.sizeOf25 rfl rfl (by first | rfl | assumption) (by first | rfl | assumption) hB4 (by omega) E19 ?_; rintro w13 E24 hB4 K3 hz3; have E25 := E20.wroteAt E19 E24 K3 hz3 (by omega)
        have szE25 := E25.size; have E26 := E21.wroteAt E19 E24 K3 hz3 (by omega); have szE26 := E26.size; have E27 := E22.wroteAt E19 E24 K3 hz3 (by omega); have szE27 := E27.size; have E28 := E23.wroteAt E19 E24 K3 hz3 (by omega)
        have szE28 := E28.size; simp only [List.set] at hB4; have hO2 := OwnedB.wroteOff hO2.toB (by assumption) K3; have hB3 := hB3.of_heap (K3 _ (by omega)); have hO1 := hO1.wrote K3 (by omega); have hQ1 := hQ1.wrote K3 (by omega)
        have hB1 := hB1.of_heap (K3 _ (by omega)); have hB2 := hB2.of_heap (K3 _ (by omega)); have hr2 := hr2.wrote E26 (K3 _ (by omega)) hz3; refine Wo_nil ?_; refine ⟨E27, ?_⟩; refine Wh_done (by kernel_rfl) ?_; rotate_left
        exact WhAll_nil; exact WhAll_nil; exact WhAll_nil; exact WhAll_nil; refine WhAll_cons rfl ?_ ?_; refine Wo_alloc2 rfl flat25 ?_; rintro b4 w9 hb4 E12 hB4; have hlb4 := hB4.lt; have hr2 := hr2.ext E12; have hs8 := E12.size
        refine Wo_nil ?_; refine ⟨(E11.trans E12), ?_⟩; refine Wh_all (rs := [0]) (by kernel_rfl) rfl ?_; refine WhAll_cons rfl ?_ ?_; refine Wo_lit0 XInt rfl el23 Try.sizeOf3 ?_; rintro b5 w10 hb5 b5lt E13 hO2; have hr2 := hr2.ext E13
        have hs9 := E13.size; refine Wo_nil ?_; refine ⟨((E11.trans E12).trans E13), ?_⟩; refine Wh_all (rs := [3]) (by kernel_rfl) rfl ?_; refine WhAll_cons rfl ?_ ?_
        refine Wo_appS rfl el23 rfl rfl (Mono.mono ((E11.trans E12).trans E13) (OwnedB.read hO1)) hO2.toB (by first | omega | (simp <;> omega)) (by omega) (by omega) (((Ew7.trans E11).trans E12).trans E13) (by omega) ?_; have hT1 := hO2.toB
        rintro v1 w11 hO2 E14 M1; have E15 := M1.ext hT1 ((((E2.trans Ehr2).trans E11).trans E12).trans E13) (by omega); have szE15 := E15.size; have E16 := M1.ext hT1 (((Ehr2.trans E11).trans E12).trans E13) (by omega)
        have szE16 := E16.size; have E17 := M1.ext hT1 ((E11.trans E12).trans E13) (by omega); have szE17 := E17.size; have E18 := M1.ext hT1 (E12.trans E13) (by omega); have szE18 := E18.size; have E19 := M1.ext hT1 E13 (by omega)
        have szE19 := E19.size; have hB3 := (hB3.ext ((E11.trans E12).trans E13)).moves M1 hT1 (by omega); have hO1 := (hO1.ext ((E11.trans E12).trans E13)).moves M1 hT1 (by omega)
        have hQ1 := (hQ1.ext ((E11.trans E12).trans E13)).moves M1 hT1 (by omega); have hB1 := (hB1.ext ((E11.trans E12).trans E13)).moves M1 hT1 (by omega); have hB2 := (hB2.ext ((E11.trans E12).trans E13)).moves M1 hT1 (by omega)
        have hB4 := (hB4.ext E13).moves M1 hT1 (by omega); have hr2 := hr2.moves E16 M1 hT1 (by omega); have offhB3 : Value.ownBlock v1 ≠ some b3 := Moves.off M1 (fun e => own_notin hT1 (by omega) e.symm) (by omega)
        have offhB1 : Value.ownBlock v1 ≠ some b1 := Moves.off M1 (fun e => own_notin hT1 (by omega) e.symm) (by omega); have offhB2 : Value.ownBlock v1 ≠ some b2 := Moves.off M1 (fun e => own_notin hT1 (by omega) e.symm) (by omega)
        have offhB4 : Value.ownBlock v1 ≠ some b4 := Moves.off M1 (fun e => own_notin hT1 (by omega) e.symm) (by omega); have hs10 := E14.size; have szM1 := M1.1.size; have icv1 := OwnedB.isC (Owned.toB hO2); refine Wo_nil ?_
        refine ⟨E17, ?_⟩; refine Wh_all (rs := [6]) (by kernel_rfl) rfl ?_; refine WhAll_cons rfl ?_ ?_; refine Wo_appS rfl el23 rfl rfl (OwnedB.read hQ1) hO2.toB (by first | omega | (simp <;> omega)) (by omega) (by omega) E14 (by omega) ?_
        have hT2 := hO2.toB; rintro v2 w12 hO2 E20 M2; have E21 := M2.ext hT2 E15 (by omega); have szE21 := E21.size; have E22 := M2.ext hT2 E16 (by omega); have szE22 := E22.size; have E23 := M2.ext hT2 E17 (by omega)
        have szE23 := E23.size; have E24 := M2.ext hT2 E18 (by omega); have szE24 := E24.size; have E25 := M2.ext hT2 E19 (by omega); have szE25 := E25.size; have hB3 := hB3.moves M2 hT2 (by omega); have hO1 := hO1.moves M2 hT2 (by omega)
        have hQ1 := hQ1.moves M2 hT2 (by omega); have hB1 := hB1.moves M2 hT2 (by omega); have hB2 := hB2.moves M2 hT2 (by omega); have hB4 := hB4.moves M2 hT2 (by omega); have hr2 := hr2.moves E22 M2 hT2 (by omega)
        have offhB3 : Value.ownBlock v2 ≠ some b3 := Moves.off M2 (fun e => own_notin hT2 (by omega) e.symm) (by omega); have offhB1 : Value.ownBlock v2 ≠ some b1 := Moves.off M2 (fun e => own_notin hT2 (by omega) e.symm) (by omega)
        have offhB2 : Value.ownBlock v2 ≠ some b2 := Moves.off M2 (fun e => own_notin hT2 (by omega) e.symm) (by omega); have offhB4 : Value.ownBlock v2 ≠ some b4 := Moves.off M2 (fun e => own_notin hT2 (by omega) e.symm) (by omega)
        have hs11 := E20.size; have szM2 := M2.1.size; have icv2 := OwnedB.isC (Owned.toB hO2); refine Wo_nil ?_; refine ⟨E23, ?_⟩
        refine Wh_take 9 rfl (by kernel_rfl) (by kernel_rfl) rfl (fun _ _ => opv_build2 flat25 rfl (by first | assumption | rfl) (by first | assumption | rfl)) E23 ?_; refine Wh_all (rs := [11]) (by kernel_rfl) rfl ?_
        refine WhAll_cons rfl ?_ ?_; refine Wo_st2 rfl Try.sizeOf25 rfl rfl (by first | rfl | assumption) (by first | rfl | assumption) hB4 (by omega) E20 ?_; rintro w13 E26 hB4 K3 hz3; have E27 := E21.wroteAt E20 E26 K3 hz3 (by omega)
        have szE27 := E27.size; have E28 := E22.wroteAt E20 E26 K3 hz3 (by omega); have szE28 := E28.size; have E29 := E23.wroteAt E20 E26 K3 hz3 (by omega); have szE29 := E29.size; have E30 := E24.wroteAt E20 E26 K3 hz3 (by omega)
        have szE30 := E30.size; simp only [List.set] at hB4; have hO2 := hO2.toB.wrote K3 (by omega); have hB3 := hB3.of_heap (K3 _ (by omega)); have hO1 := hO1.wrote K3 (by omega); have hQ1 := hQ1.wrote K3 (by omega)
        have hB1 := hB1.of_heap (K3 _ (by omega)); have hB2 := hB2.of_heap (K3 _ (by omega)); have hr2 := hr2.wrote E28 (K3 _ (by omega)) hz3; refine Wo_nil ?_; refine ⟨E29, ?_⟩; refine Wh_done (by kernel_rfl) ?_; rotate_left
        exact WhAll_nil; exact WhAll_nil; exact WhAll_nil; exact WhAll_nil; exact WhAll_nil
      all_goals first
        | exact ⟨(b4, v2), ⟨rfl, trivial⟩, by repeat (first | with_reducible exact Same.refl | refine Same.upd rfl ?_ | refine Same.upds rfl ?_ | refine Same.mix rfl ?_), by assumption, by omega, by assumption, by first | exact hO2.o.mono (by omega) | exact hO2.mono (by omega)⟩
        | exact ⟨(b5, v2), ⟨rfl, trivial⟩, by repeat (first | with_reducible exact Same.refl | refine Same.upd rfl ?_ | refine Same.upds rfl ?_ | refine Same.mix rfl ?_), by assumption, by omega, by assumption, by first | exact hO2.o.mono (by omega) | exact hO2.mono (by omega)⟩
    clear heldS offs
    rintro ⟨b6, vv⟩ ρ8 w8 ⟨E8', hb6, hB6, hO2⟩
    have ic1 := OwnedB.isC hO1
    have ic2 := OwnedB.isC hQ1
    have ic3 := OwnedB.isC hO2.toB
    focus
      have szE8' := E8'.size; have szEw7 := Ew7.size; have szEhr2 := Ehr2.size; have szE9 := E9.size; have szE8 := E8.size; have szE7 := E7.size; have szE6 := E6.size; have szE5 := E5.size; have szEhr1 := Ehr1.size; have szE3 := E3.size
      have szE2 := E2.size; have szE1 := E1.size; refine W_seq ?_; refine W_held (fun _ => True) mixed rfl (by kernel_rfl) ?_; intro w9 E11 K2 hz2; have hs7 := E11.size; refine Wh_all (rs := [0, 1]) (by kernel_rfl) rfl ?_
      refine WhAll_cons rfl ?_ ?_; refine Wo (v := .agg _) rfl (opv_load2 Try.isAgg25 Try.sizeOf25 rfl (hB3.ext (E8'.trans E11))) ?_; refine Wo_nil ?_; refine ⟨trivial, ?_⟩; refine Wh_all (rs := [1, 2]) (by kernel_rfl) rfl ?_
      refine WhAll_cons rfl ?_ ?_; refine Wo (v := .agg _) rfl (opv_load2 Try.isAgg25 Try.sizeOf25 rfl (hB6.ext E11)) ?_; refine Wo_nil ?_; refine ⟨trivial, ?_⟩; refine Wh_all (rs := [2]) (by kernel_rfl) rfl ?_
      refine WhAll_cons rfl ?_ ?_; refine Wo_st2 rfl Try.sizeOf25 rfl rfl (by first | rfl | assumption) (by first | rfl | assumption) (hB1.ext (E8'.trans E11)) (by omega) ((Ew7.trans E8').trans E11) ?_; rintro w10 E12 hB1 K3 hz3
      have hB3 := (hB3.ext (E8'.trans E11)).of_heap (K3 _ (by omega)); have hO1 := (hO1.ext (E8'.trans E11)).wrote K3 (by omega); have hQ1 := (hQ1.ext (E8'.trans E11)).wrote K3 (by omega)
      have hB2 := (hB2.ext (E8'.trans E11)).of_heap (K3 _ (by omega)); have hB6 := (hB6.ext E11).of_heap (K3 _ (by omega)); have hO2 := (hO2.toB.ext E11).wrote K3 (by omega); refine Wo_nil ?_; refine ⟨trivial, ?_⟩
      refine Wh_all (rs := [3]) (by kernel_rfl) rfl ?_; refine WhAll_cons rfl ?_ ?_; refine Wo_st2 rfl Try.sizeOf25 rfl rfl (by first | rfl | assumption) (by first | rfl | assumption) hB2 (by omega) E12 ?_; rintro w11 E13 hB2 K4 hz4
      have hB1 := hB1.of_heap (K4 _ (by omega)); have hB3 := hB3.of_heap (K4 _ (by omega)); have hO1 := hO1.wrote K4 (by omega); have hQ1 := hQ1.wrote K4 (by omega); have hB6 := hB6.of_heap (K4 _ (by omega))
      have hO2 := hO2.wrote K4 (by omega); refine Wo_nil ?_; refine ⟨trivial, ?_⟩; refine Wh_done (by kernel_rfl) ?_; refine W_ret ?_; rotate_left; exact WhAll_nil; exact WhAll_nil; refine WhAll_cons rfl ?_ ?_
      refine Wo_st2 rfl Try.sizeOf25 rfl rfl (by first | rfl | assumption) (by first | rfl | assumption) (hB1.ext (E8'.trans E11)) (by omega) ((Ew7.trans E8').trans E11) ?_; rintro w10 E12 hB1 K3 hz3
      have hB3 := (hB3.ext (E8'.trans E11)).of_heap (K3 _ (by omega)); have hO1 := (hO1.ext (E8'.trans E11)).wrote K3 (by omega); have hQ1 := (hQ1.ext (E8'.trans E11)).wrote K3 (by omega)
      have hB2 := (hB2.ext (E8'.trans E11)).of_heap (K3 _ (by omega)); have hB6 := (hB6.ext E11).of_heap (K3 _ (by omega)); have hO2 := (hO2.toB.ext E11).wrote K3 (by omega); refine Wo_nil ?_; refine ⟨trivial, ?_⟩
      refine Wh_all (rs := [1]) (by kernel_rfl) rfl ?_; refine WhAll_cons rfl ?_ ?_; refine Wo (v := .agg _) rfl (opv_load2 Try.isAgg25 Try.sizeOf25 rfl hB6) ?_; refine Wo_nil ?_; refine ⟨trivial, ?_⟩
      refine Wh_all (rs := [3]) (by kernel_rfl) rfl ?_; refine WhAll_cons rfl ?_ ?_; refine Wo_st2 rfl Try.sizeOf25 rfl rfl (by first | rfl | assumption) (by first | rfl | assumption) hB2 (by omega) E12 ?_; rintro w11 E13 hB2 K4 hz4
      have hB1 := hB1.of_heap (K4 _ (by omega)); have hB3 := hB3.of_heap (K4 _ (by omega)); have hO1 := hO1.wrote K4 (by omega); have hQ1 := hQ1.wrote K4 (by omega); have hB6 := hB6.of_heap (K4 _ (by omega))
      have hO2 := hO2.wrote K4 (by omega); refine Wo_nil ?_; refine ⟨trivial, ?_⟩; refine Wh_done (by kernel_rfl) ?_; refine W_ret ?_; rotate_left; exact WhAll_nil; exact WhAll_nil; exact WhAll_nil; refine WhAll_cons rfl ?_ ?_
      refine Wo (v := .agg _) rfl (opv_load2 Try.isAgg25 Try.sizeOf25 rfl (hB6.ext E11)) ?_; refine Wo_nil ?_; refine ⟨trivial, ?_⟩; refine Wh_all (rs := [0]) (by kernel_rfl) rfl ?_; refine WhAll_cons rfl ?_ ?_
      refine Wo (v := .agg _) rfl (opv_load2 Try.isAgg25 Try.sizeOf25 rfl (hB3.ext (E8'.trans E11))) ?_; refine Wo_nil ?_; refine ⟨trivial, ?_⟩; refine Wh_all (rs := [2]) (by kernel_rfl) rfl ?_; refine WhAll_cons rfl ?_ ?_
      refine Wo_st2 rfl Try.sizeOf25 rfl rfl (by first | rfl | assumption) (by first | rfl | assumption) (hB1.ext (E8'.trans E11)) (by omega) ((Ew7.trans E8').trans E11) ?_; rintro w10 E12 hB1 K3 hz3
      have hB3 := (hB3.ext (E8'.trans E11)).of_heap (K3 _ (by omega)); have hO1 := (hO1.ext (E8'.trans E11)).wrote K3 (by omega); have hQ1 := (hQ1.ext (E8'.trans E11)).wrote K3 (by omega)
      have hB2 := (hB2.ext (E8'.trans E11)).of_heap (K3 _ (by omega)); have hB6 := (hB6.ext E11).of_heap (K3 _ (by omega)); have hO2 := (hO2.toB.ext E11).wrote K3 (by omega); refine Wo_nil ?_; refine ⟨trivial, ?_⟩
      refine Wh_all (rs := [3]) (by kernel_rfl) rfl ?_; refine WhAll_cons rfl ?_ ?_; refine Wo_st2 rfl Try.sizeOf25 rfl rfl (by first | rfl | assumption) (by first | rfl | assumption) hB2 (by omega) E12 ?_; rintro w11 E13 hB2 K4 hz4
      have hB1 := hB1.of_heap (K4 _ (by omega)); have hB3 := hB3.of_heap (K4 _ (by omega)); have hO1 := hO1.wrote K4 (by omega); have hQ1 := hQ1.wrote K4 (by omega); have hB6 := hB6.of_heap (K4 _ (by omega))
      have hO2 := hO2.wrote K4 (by omega); refine Wo_nil ?_; refine ⟨trivial, ?_⟩; refine Wh_done (by kernel_rfl) ?_; refine W_ret ?_; rotate_left; exact WhAll_nil; exact WhAll_nil; exact WhAll_nil; exact WhAll_nil
    all_goals exact ⟨_, _, _, rfl, hB1, _, _, _, rfl, hB2, _, _, _, _, _, _, _, _, rfl, by assumption, hO1.o.mono (by omega), hQ1.o.mono (by omega), hO2.o.mono (by omega), hQ1.o.mono (by omega), by unfold smallS; omega, by unfold smallS; simp; omega⟩
  · clear stop5 stop7 stop9
    focus
      have szEhr2 := Ehr2.size; have szE9 := E9.size; have szE8 := E8.size; have szE7 := E7.size; have szE6 := E6.size; have szE5 := E5.size; have szEhr1 := Ehr1.size; have szE3 := E3.size; have szE2 := E2.size; have szE1 := E1.size
      refine W_held (fun _ => True) mixed rfl (by kernel_rfl) ?_; intro w8 E11 K2 hz2; have hr2 := hr2.ext E11; have hs7 := E11.size
      refine Wh_take 1 rfl (by kernel_rfl) (by kernel_rfl) rfl (fun _ _ => opv_move (v := .pointer _) rfl) trivial ?_; refine Wh_all (rs := [0, 2]) (by kernel_rfl) rfl ?_; refine WhAll_cons rfl ?_ ?_
      refine Wo (v := .agg _) rfl (opv_load2 Try.isAgg25 Try.sizeOf25 rfl (hB3.ext E11)) ?_; refine Wo_nil ?_; refine ⟨trivial, ?_⟩; refine Wh_all (rs := [2]) (by kernel_rfl) rfl ?_; refine WhAll_cons rfl ?_ ?_
      refine Wo_call rfl (opc2 (a := .pointer _) (b := .int _ _) Try.call51 rfl rfl) (Stream_ok _ _ (by assumption) (by omega) (by omega)) ?_; rintro _ w9 ⟨u2, q2, x2, y4, rfl, E12, hr3, hO2, hQ2, hy4⟩
      have icu2 := OwnedB.isC (Owned.toB hO2); have cpu2 := OwnedB.capOk (Owned.toB hO2); have icq2 := OwnedB.isC (Owned.toB hQ2); have cpq2 := OwnedB.capOk (Owned.toB hQ2); (try dsimp only at hy4); have hlhr3 := hr3.lt
      have Ehr3 := hr3.old; have hB3 := (hB3.ext E11).grown E12 (by simp only [ne_eq, Option.some.injEq]; omega); have hO1 := (hO1.ext E11).grown E12 (by omega); have hQ1 := (hQ1.ext E11).grown E12 (by omega)
      have hB1 := (hB1.ext E11).grown E12 (by simp only [ne_eq, Option.some.injEq]; omega); have hB2 := (hB2.ext E11).grown E12 (by simp only [ne_eq, Option.some.injEq]; omega); have hs8 := E12.size; refine Wo_nil ?_; refine ⟨trivial, ?_⟩
      refine Wh_all (rs := [3]) (by kernel_rfl) rfl ?_; refine WhAll_cons rfl ?_ ?_; refine Wo_st2 rfl Try.sizeOf25 rfl rfl (by first | rfl | assumption) (by first | rfl | assumption) hB1 (by omega) ((E1.trans E2).trans Ehr3) ?_
      rintro w10 E13 hB1 K3 hz3; have hO2 := hO2.toB.wrote K3 (by omega); have hQ2 := hQ2.toB.wrote K3 (by omega); have hB3 := hB3.of_heap (K3 _ (by omega)); have hO1 := hO1.wrote K3 (by omega); have hQ1 := hQ1.wrote K3 (by omega)
      have hB2 := hB2.of_heap (K3 _ (by omega)); refine Wo_nil ?_; refine ⟨trivial, ?_⟩; refine Wh_all (rs := [4]) (by kernel_rfl) rfl ?_; refine WhAll_cons rfl ?_ ?_
      refine Wo_st2 rfl Try.sizeOf25 rfl rfl (by first | rfl | assumption) (by first | rfl | assumption) hB2 (by omega) E13 ?_; rintro w11 E14 hB2 K4 hz4; have hB1 := hB1.of_heap (K4 _ (by omega)); have hO2 := hO2.wrote K4 (by omega)
      have hQ2 := hQ2.wrote K4 (by omega); have hB3 := hB3.of_heap (K4 _ (by omega)); have hO1 := hO1.wrote K4 (by omega); have hQ1 := hQ1.wrote K4 (by omega); refine Wo_nil ?_; refine ⟨trivial, ?_⟩; refine Wh_done (by kernel_rfl) ?_
      refine W_ret ?_; rotate_left; exact WhAll_nil; exact WhAll_nil; exact WhAll_nil; refine WhAll_cons rfl ?_ ?_
      refine Wo_call rfl (opc2 (a := .pointer _) (b := .int _ _) Try.call51 rfl rfl) (Stream_ok _ _ (by assumption) (by omega) (by omega)) ?_; rintro _ w9 ⟨u2, q2, x2, y4, rfl, E12, hr3, hO2, hQ2, hy4⟩
      have icu2 := OwnedB.isC (Owned.toB hO2); have cpu2 := OwnedB.capOk (Owned.toB hO2); have icq2 := OwnedB.isC (Owned.toB hQ2); have cpq2 := OwnedB.capOk (Owned.toB hQ2); (try dsimp only at hy4); have hlhr3 := hr3.lt
      have Ehr3 := hr3.old; have hB3 := (hB3.ext E11).grown E12 (by simp only [ne_eq, Option.some.injEq]; omega); have hO1 := (hO1.ext E11).grown E12 (by omega); have hQ1 := (hQ1.ext E11).grown E12 (by omega)
      have hB1 := (hB1.ext E11).grown E12 (by simp only [ne_eq, Option.some.injEq]; omega); have hB2 := (hB2.ext E11).grown E12 (by simp only [ne_eq, Option.some.injEq]; omega); have hs8 := E12.size; refine Wo_nil ?_; refine ⟨trivial, ?_⟩
      refine Wh_all (rs := [0]) (by kernel_rfl) rfl ?_; refine WhAll_cons rfl ?_ ?_; refine Wo (v := .agg _) rfl (opv_load2 Try.isAgg25 Try.sizeOf25 rfl hB3) ?_; refine Wo_nil ?_; refine ⟨trivial, ?_⟩
      refine Wh_all (rs := [3]) (by kernel_rfl) rfl ?_; refine WhAll_cons rfl ?_ ?_; refine Wo_st2 rfl Try.sizeOf25 rfl rfl (by first | rfl | assumption) (by first | rfl | assumption) hB1 (by omega) ((E1.trans E2).trans Ehr3) ?_
      rintro w10 E13 hB1 K3 hz3; have hO2 := hO2.toB.wrote K3 (by omega); have hQ2 := hQ2.toB.wrote K3 (by omega); have hB3 := hB3.of_heap (K3 _ (by omega)); have hO1 := hO1.wrote K3 (by omega); have hQ1 := hQ1.wrote K3 (by omega)
      have hB2 := hB2.of_heap (K3 _ (by omega)); refine Wo_nil ?_; refine ⟨trivial, ?_⟩; refine Wh_all (rs := [4]) (by kernel_rfl) rfl ?_; refine WhAll_cons rfl ?_ ?_
      refine Wo_st2 rfl Try.sizeOf25 rfl rfl (by first | rfl | assumption) (by first | rfl | assumption) hB2 (by omega) E13 ?_; rintro w11 E14 hB2 K4 hz4; have hB1 := hB1.of_heap (K4 _ (by omega)); have hO2 := hO2.wrote K4 (by omega)
      have hQ2 := hQ2.wrote K4 (by omega); have hB3 := hB3.of_heap (K4 _ (by omega)); have hO1 := hO1.wrote K4 (by omega); have hQ1 := hQ1.wrote K4 (by omega); refine Wo_nil ?_; refine ⟨trivial, ?_⟩; refine Wh_done (by kernel_rfl) ?_
      refine W_ret ?_; rotate_left; exact WhAll_nil; exact WhAll_nil; exact WhAll_nil; exact WhAll_nil
    all_goals exact ⟨_, _, _, rfl, by assumption, _, _, _, rfl, by assumption, _, _, _, _, _, _, _, _, rfl, by assumption, hO1.o.mono (by omega), hQ1.o.mono (by omega), hO2.o.mono (by omega), hQ2.o.mono (by omega), by unfold smallS; omega, by unfold smallS; omega⟩

end Go.Proofs.Ytlalfmialbolhaa
