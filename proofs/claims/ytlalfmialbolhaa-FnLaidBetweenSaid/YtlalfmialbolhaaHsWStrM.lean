/- Walks: two streams laid between each other, by the reference. -/
import Derived.Test.YtlalfmialbolhaaHsWStrL
import Derived.Test.YtlalfmialbolhaaHsWStrE
namespace Go.Proofs.Ytlalfmialbolhaa
open Go.Hs
set_option maxRecDepth 10000
set_option maxHeartbeats 4000000
set_option linter.unusedVariables false
set_option linter.unusedSimpArgs false
theorem shV_len (A B : List Int) : (shV A B).1.length ≤ 12 ∧ (shV A B).2.length ≤ 12 := by
  unfold shV
  split
  · rename_i h
    have := h.short_stm.2.2
    simp only; omega
  · simp

theorem spec_LaidBetween_ok (w : World) (u1 u2 v1 v2 : Value) (A B A' B' : List Int) (h1 : Ints w u1 A) (h2 : Ints w u2 B) (h3 : Ints w v1 A') (h4 : Ints w v2 B') (hA : A.length ≤ 4000000) (hB : B.length ≤ 4000000) (hA' : A'.length ≤ 4000000) (hB' : B'.length ≤ 4000000) :
    Does Try.prog 35 [.agg #[u1, u2], .agg #[v1, v2]] w (RetS2b w 3 (lbV A B A' B').1 (lbV A B A' B').2.1 (lbV A B A' B').2.2) := by
  have hok : ∀ (A B : List Int) (x : Bool), A.length ≤ 4000000 → B.length ≤ 4000000 → decide (Stm A B) = x → ∀ (w : World) (u1 u2 : Value), Ints w u1 A → Ints w u2 B → Does Try.prog 16 [.agg #[u1, u2]] w (Ret w (.bool x)) := fun A B x hA hB e w u1 u2 h1 h2 => e ▸ StreamOk_ok w u1 u2 A B h1 h2 hA hB
  have k1 : ∀ (w : World) (u1 u2 : Value), Ints w u1 A → Ints w u2 B → Does Try.prog 53 [.agg #[u1, u2]] w (RetS2 w 3 (shV A B).1 (shV A B).2) := fun w u1 u2 h1 h2 => spec_ShortOf_ok w u1 u2 A B h1 h2 hA hB
  have k2 : ∀ (w : World) (u1 u2 : Value), Ints w u1 A' → Ints w u2 B' → Does Try.prog 53 [.agg #[u1, u2]] w (RetS2 w 3 (shV A' B').1 (shV A' B').2) := fun w u1 u2 h1 h2 => spec_ShortOf_ok w u1 u2 A' B' h1 h2 hA' hB'
  have hX : (shV A B).1.length ≤ 12 ∧ (shV A B).2.length ≤ 12 := shV_len A B
  have hY : (shV A' B').1.length ≤ 12 ∧ (shV A' B').2.length ≤ 12 := shV_len A' B'
  have hmul : (shV A B).2.length * (shV A' B').2.length ≤ 144 := Nat.mul_le_mul hX.2 hY.2
  have hmulI : ((shV A B).2.length : Int) * ((shV A' B').2.length : Int) = (((shV A B).2.length * (shV A' B').2.length : Nat) : Int) := by rw [Int.natCast_mul]
  by_cases hs : Stm A B
  · have k3 := hok A B true hA hB (decide_eq_true hs)
    by_cases hs' : Stm A' B'
    · have k4 := hok A' B' true hA' hB' (decide_eq_true hs')
      have e1 : shV A B = (shL (bat A B), shR (bat A B)) := if_pos hs
      have e2 : shV A' B' = (shL (bat A' B'), shR (bat A' B')) := if_pos hs'
      rw [e1, e2] at hmul hmulI
      rw [e1] at k1 hX
      rw [e2] at k2 hY
      simp only at hmul hmulI k1 k2 hX hY
      have hsh := hs.sh
      have hsh' := hs'.sh
      have hst := hs.short_stm
      have hst' := hs'.short_stm
      have hsb := hs.short_bat
      have hsb' := hs'.short_bat
      have hbit := hs.bit
      have hbit' := hs'.bit
      have eV : lbV A B A' B' = if (shL (bat A B)).length ≤ 1 ∧ (shL (bat A' B')).length ≤ 1 ∧ lcmL (shR (bat A B)).length (shR (bat A' B')).length ≤ 5 then (shL (lay (bat A B) (bat A' B')), shR (lay (bat A B) (bat A' B')), true) else ([], [], false) := by
        unfold lbV
        by_cases h : (shL (bat A B)).length ≤ 1 ∧ (shL (bat A' B')).length ≤ 1 ∧ lcmL (shR (bat A B)).length (shR (bat A' B')).length ≤ 5
        · rw [if_pos h, if_pos ⟨hs, hs', h⟩]
        · rw [if_neg h, if_neg (fun h' => h h'.2.2)]
      rw [eV]
      clear eV e1 e2
      obtain ⟨f, hf⟩ : ∃ f, f = bat A B := ⟨_, rfl⟩
      obtain ⟨g, hg⟩ : ∃ g, g = bat A' B' := ⟨_, rfl⟩
      rw [← hf] at hsh hst hsb hbit k1 hmul hmulI hX ⊢
      rw [← hg] at hsh' hst' hsb' hbit' k2 hmul hmulI hY ⊢
      have el1 : (shL f).length = shA f := win_len
      have el2 : (shR f).length = shP f := win_len
      have el3 : (shL g).length = shA g := win_len
      have el4 : (shR g).length = shP g := win_len
      have hp1 := hst.2.2.1
      have hp2 := hst'.2.2.1
      have hmul1 : 1 ≤ (shR f).length * (shR g).length := Nat.mul_pos hp1 hp2
      have ctx : ∀ (hc : (shL f).length ≤ 1 ∧ (shL g).length ≤ 1 ∧ lcmL (shR f).length (shR g).length ≤ 5), (∀ (w : World) (u1 u2 : Value) (z : Int), Ints w u1 (shL f) → Ints w u2 (shR f) → 0 ≤ z ∧ z ≤ 5 → Does Try.prog 57 [.agg #[u1, u2], .int .i64 z] w (Ret w (.int .i64 (lay f g (2 * z.toNat))))) ∧
          (∀ (w : World) (u1 u2 : Value) (z : Int), Ints w u1 (shL g) → Ints w u2 (shR g) → 0 ≤ z ∧ z ≤ 5 → Does Try.prog 57 [.agg #[u1, u2], .int .i64 z] w (Ret w (.int .i64 (lay f g (2 * z.toNat + 1))))) ∧
          (∀ (w : World) (u1 u2 : Value), Ints w u1 (win (lay f g) 0 2) → Ints w u2 (win (lay f g) 2 (2 * lcmL (shR f).length (shR g).length)) → Does Try.prog 53 [.agg #[u1, u2]] w (RetS2 w 3 (shL (lay f g)) (shR (lay f g)))) := by
        intro hc
        have hper : Per (lay f g) (2 * 1) (2 * lcmL (shR f).length (shR g).length) := by
          have := per_lcm (hsh.1.up (show shA f ≤ 1 by omega)) (hsh'.1.up (show shA g ≤ 1 by omega))
          rw [el2, el4]
          exact per_lay this.1 this.2
        have hbl : ∀ k, lay f g k = 0 ∨ lay f g k = 1 := fun k => by
          unfold lay; split
          · exact hbit _
          · exact hbit' _
        refine ⟨fun w u1 u2 z h1 h2 hz => ?_, fun w u1 u2 z h1 h2 hz => ?_, fun w u1 u2 h1 h2 => ?_⟩
        · have := spec_BitAt_ok w u1 u2 _ _ h1 h2 (by omega) (by omega) z
          rw [show batV (shL f) (shR f) z = lay f g (2 * z.toNat) by
            unfold batV lay
            rw [if_pos ⟨hst, hz.1, by omega⟩, hsb, if_pos (by omega), show 2 * z.toNat / 2 = z.toNat by omega]] at this
          exact this
        · have := spec_BitAt_ok w u1 u2 _ _ h1 h2 (by omega) (by omega) z
          rw [show batV (shL g) (shR g) z = lay f g (2 * z.toNat + 1) by
            unfold batV lay
            rw [if_pos ⟨hst', hz.1, by omega⟩, hsb', if_neg (by omega), show (2 * z.toNat + 1) / 2 = z.toNat by omega]] at this
          exact this
        · have := spec_ShortOf_ok w u1 u2 _ _ h1 h2 (by rw [win_len]; omega) (by rw [win_len]; omega)
          rw [show shV (win (lay f g) 0 2) (win (lay f g) 2 (2 * lcmL (shR f).length (shR g).length)) = (shL (lay f g), shR (lay f g)) by
            unfold shV
            rw [if_pos (stm_win (a := 2) hbl hper.1 (by omega)), bat_win (a := 2) hper]] at this
          exact this
      clear hf hg hs hs' hsh hsh' hst hst' hsb hsb' hbit hbit' hok
      generalize hL : lcmL (shR f).length (shR g).length = L at *
      have hL1 : 1 ≤ L := by rw [← hL]; unfold lcmL; split <;> omega
      have hsm : ((shR f).length * (shR g).length ≤ 5 ∨ ((shR f).length = (shR g).length ∧ (shR f).length ≤ 5)) ↔ L ≤ 5 := by
        rw [← hL]; unfold lcmL
        split
        · rename_i e
          rw [e]
          constructor
          · rintro (h | h)
            · exact Nat.le_trans (Nat.le_mul_of_pos_left _ hp2) h
            · exact h.2
          · intro h; exact .inr ⟨rfl, h⟩
        · exact ⟨fun h => h.elim id (fun h => by omega), .inl⟩
      refine fn_of_Wct Try.func35 rfl Try.results35 Try.ntmps35 rfl Try.isAgg25 Try.sizeOf25 ?_
      by_cases hc : (shL f).length ≤ 1 ∧ (shL g).length ≤ 1 ∧ L ≤ 5
      · obtain ⟨b1, b2, b3⟩ := ctx hc
        rw [if_pos hc]
        obtain ⟨hc1, hc2, hc3⟩ := hc
        clear ctx
        have hsm3 := hsm.2 hc3
        clear hsm
        have stop5 : True := trivial
        focus
          refine W_seq ?_; refine W_region rfl ?_; refine Wo_box rfl rfl rfl ?_; rintro b4 w1 hb1 E1 hB1; have hlb4 := hB1.lt; have hs1 := E1.size; refine Wo_box rfl rfl rfl ?_; rintro b5 w2 hb2 E2 hB2; have hlb5 := hB2.lt
          have hs2 := E2.size; refine Wo_alloc2 rfl flat25 ?_; rintro b6 w3 hb3 E3 hB3; have hlb6 := hB3.lt; have hs3 := E3.size; refine Wo rfl (opv_assign (v := .bool _) rfl) ?_; refine Wo_nil ?_; refine W_seq ?_; refine W_region rfl ?_
          refine Wo (v := .agg _) rfl (opv_load2 Try.isAgg25 Try.sizeOf25 rfl (hB1.ext (E2.trans E3))) ?_
          refine Wo_call rfl (opc1 (a := .agg _) Try.call53 rfl) (k1 _ _ _ ((Mono.mono ((E1.trans E2).trans E3) h1)) ((Mono.mono ((E1.trans E2).trans E3) h2))) ?_; rintro _ w4 ⟨u3, q1, rfl, E4, hO1, hQ1, hd1⟩
          have icu3 := OwnedB.isC (Owned.toB hO1); have cpu3 := OwnedB.capOk (Owned.toB hO1); have icq1 := OwnedB.isC (Owned.toB hQ1); have cpq1 := OwnedB.capOk (Owned.toB hQ1); have hs4 := E4.size; refine Wo_alloc2 rfl flat25 ?_
          rintro b7 w5 hb4 E5 hB4; have hlb7 := hB4.lt; have hs5 := E5.size; refine Wo_st2 rfl Try.sizeOf25 rfl rfl (by first | rfl | assumption) (by first | rfl | assumption) hB4 (by omega) ((((E1.trans E2).trans E3).trans E4).trans E5) ?_
          rintro w6 E6 hB4 K1 hz1; have E7 := (((E2.trans E3).trans E4).trans E5).wroteAt ((((E1.trans E2).trans E3).trans E4).trans E5) E6 K1 hz1 (by omega); have szE7 := E7.size
          have E8 := ((E3.trans E4).trans E5).wroteAt ((((E1.trans E2).trans E3).trans E4).trans E5) E6 K1 hz1 (by omega); have szE8 := E8.size
          have E9 := (E4.trans E5).wroteAt ((((E1.trans E2).trans E3).trans E4).trans E5) E6 K1 hz1 (by omega); have szE9 := E9.size; have E10 := E5.wroteAt ((((E1.trans E2).trans E3).trans E4).trans E5) E6 K1 hz1 (by omega)
          have szE10 := E10.size; have hB1 := (hB1.ext (((E2.trans E3).trans E4).trans E5)).of_heap (K1 _ (by omega)); have hB2 := (hB2.ext ((E3.trans E4).trans E5)).of_heap (K1 _ (by omega))
          have hB3 := (hB3.ext (E4.trans E5)).of_heap (K1 _ (by omega)); have hO1 := (hO1.toB.ext E5).wrote K1 (by omega); have hQ1 := (hQ1.toB.ext E5).wrote K1 (by omega); refine Wo_nil ?_; refine W_seq ?_; refine W_region rfl ?_
          refine Wo (v := .agg _) rfl (opv_load2 Try.isAgg25 Try.sizeOf25 rfl hB2) ?_; refine Wo_call rfl (opc1 (a := .agg _) Try.call53 rfl) (k2 _ _ _ ((Mono.mono E6 h3)) ((Mono.mono E6 h4))) ?_; rintro _ w7 ⟨u4, q2, rfl, E11, hO2, hQ2, hd2⟩
          have icu4 := OwnedB.isC (Owned.toB hO2); have cpu4 := OwnedB.capOk (Owned.toB hO2); have icq2 := OwnedB.isC (Owned.toB hQ2); have cpq2 := OwnedB.capOk (Owned.toB hQ2); have hs6 := E11.size; refine Wo_alloc2 rfl flat25 ?_
          rintro b8 w8 hb5 E12 hB5; have hlb8 := hB5.lt; have hs7 := E12.size; refine Wo_st2 rfl Try.sizeOf25 rfl rfl (by first | rfl | assumption) (by first | rfl | assumption) hB5 (by omega) ((E6.trans E11).trans E12) ?_
          rintro w9 E13 hB5 K2 hz2; have E14 := ((E7.trans E11).trans E12).wroteAt ((E6.trans E11).trans E12) E13 K2 hz2 (by omega); have szE14 := E14.size
          have E15 := ((E8.trans E11).trans E12).wroteAt ((E6.trans E11).trans E12) E13 K2 hz2 (by omega); have szE15 := E15.size; have E16 := ((E9.trans E11).trans E12).wroteAt ((E6.trans E11).trans E12) E13 K2 hz2 (by omega)
          have szE16 := E16.size; have E17 := ((E10.trans E11).trans E12).wroteAt ((E6.trans E11).trans E12) E13 K2 hz2 (by omega); have szE17 := E17.size; have E18 := (E11.trans E12).wroteAt ((E6.trans E11).trans E12) E13 K2 hz2 (by omega)
          have szE18 := E18.size; have E19 := E12.wroteAt ((E6.trans E11).trans E12) E13 K2 hz2 (by omega); have szE19 := E19.size; have hB4 := (hB4.ext (E11.trans E12)).of_heap (K2 _ (by omega))
          have hB1 := (hB1.ext (E11.trans E12)).of_heap (K2 _ (by omega)); have hB2 := (hB2.ext (E11.trans E12)).of_heap (K2 _ (by omega)); have hB3 := (hB3.ext (E11.trans E12)).of_heap (K2 _ (by omega))
          have hO1 := (hO1.ext (E11.trans E12)).wrote K2 (by omega); have hQ1 := (hQ1.ext (E11.trans E12)).wrote K2 (by omega); have hO2 := (hO2.toB.ext E12).wrote K2 (by omega); have hQ2 := (hQ2.toB.ext E12).wrote K2 (by omega)
          refine Wo_nil ?_; refine W_seq ?_; refine W_region rfl ?_; refine Wo rfl (opv_fieldAddr Try.underlying25 rfl rfl Try.sizeOf23 rfl) ?_; refine Wo (v := q1) rfl (opv_load Try.isAgg23 rfl (hB4.cell rfl)) ?_
          refine Wo rfl (opv_len Try.underlying23 rfl (OwnedB.read hQ1)) ?_; refine Wo rfl (opv_assign (v := .int _ _) rfl) ?_; refine Wo_nil ?_; refine W_seq ?_; refine W_region rfl ?_
          refine Wo rfl (opv_fieldAddr Try.underlying25 rfl rfl Try.sizeOf23 rfl) ?_; refine Wo (v := q2) rfl (opv_load Try.isAgg23 rfl (hB5.cell rfl)) ?_; refine Wo rfl (opv_len Try.underlying23 rfl (OwnedB.read hQ2)) ?_
          refine Wo rfl (opv_assign (v := .int _ _) rfl) ?_; refine Wo_nil ?_; refine W_seq ?_
        clear stop5
        refine W_mid [25, 26, 27, 28, 29, 30, 31, 32, 33, 34, 35, 36, 37, 10] (fun (_ : Unit) => [(10, .bool true)]) (fun _ w' => w9 = w') ?_ ?_
        · by_cases h55 : (shR f).length * (shR g).length ≤ 5
          · have h56 : ((shR f).length : Int) * ((shR g).length : Int) ≤ 5 := by omega
            focus
              have szE19 := E19.size; have szE18 := E18.size; have szE17 := E17.size; have szE16 := E16.size; have szE15 := E15.size; have szE14 := E14.size; have szE13 := E13.size; have szE12 := E12.size; have szE11 := E11.size
              have szE10 := E10.size; have szE9 := E9.size; have szE8 := E8.size; have szE7 := E7.size; have szE6 := E6.size; have szE5 := E5.size; have szE4 := E4.size; have szE3 := E3.size; have szE2 := E2.size; have szE1 := E1.size
              refine W_region rfl ?_; refine Wo rfl (opv_move (v := .int _ _) rfl) ?_; refine Wo rfl (opv_move (v := .int _ _) rfl) ?_; refine Wo rfl (opv_mul rfl rfl (by omega)) ?_; refine Wo rfl (opv_leq rfl rfl) ?_
              refine Wo_split_dec rfl (opv_move (v := .bool _) rfl) (fun h5 => ?_) (fun h5 => ?_); refine Wo_skip rfl ?_; refine Wo_skip rfl ?_; refine Wo_skip rfl ?_; refine Wo_skip rfl ?_; refine Wo_skip rfl ?_; refine Wo_skip rfl ?_
              refine Wo_skip rfl ?_; refine Wo rfl (opv_pick_t (v := .bool _) rfl rfl) ?_; refine Wo rfl (opv_assign (v := .bool _) rfl) ?_; refine Wo_nil ?_; rotate_left; contradiction
            refine ⟨(), ⟨by simp [upd, h56], trivial⟩, by repeat (first | with_reducible exact Same.refl | refine Same.upd rfl ?_ | refine Same.upds rfl ?_ | refine Same.mix rfl ?_), rfl⟩
          · have hnm : (shR f).length = (shR g).length ∧ (shR f).length ≤ 5 := hsm3.resolve_left h55
            have h56 : ¬ ((shR f).length : Int) * ((shR g).length : Int) ≤ 5 := by omega
            have h57 : ((shR f).length : Int) = ((shR g).length : Int) := by omega
            focus
              have szE19 := E19.size; have szE18 := E18.size; have szE17 := E17.size; have szE16 := E16.size; have szE15 := E15.size; have szE14 := E14.size; have szE13 := E13.size; have szE12 := E12.size; have szE11 := E11.size
              have szE10 := E10.size; have szE9 := E9.size; have szE8 := E8.size; have szE7 := E7.size; have szE6 := E6.size; have szE5 := E5.size; have szE4 := E4.size; have szE3 := E3.size; have szE2 := E2.size; have szE1 := E1.size
              refine W_region rfl ?_; refine Wo rfl (opv_move (v := .int _ _) rfl) ?_; refine Wo rfl (opv_move (v := .int _ _) rfl) ?_; refine Wo rfl (opv_mul rfl rfl (by omega)) ?_; refine Wo rfl (opv_leq rfl rfl) ?_
              refine Wo_split_dec rfl (opv_move (v := .bool _) rfl) (fun h5 => ?_) (fun h5 => ?_); contradiction; refine Wo rfl (opv_move (v := .int _ _) rfl) ?_; refine Wo rfl (opv_move (v := .int _ _) rfl) ?_; refine Wo rfl (opv_eql rfl rfl) ?_
              refine Wo_split_dec rfl (opv_move (v := .bool _) rfl) (fun h6 => ?_) (fun h6 => ?_); refine Wo rfl (opv_move (v := .int _ _) rfl) ?_; refine Wo rfl (opv_leq rfl rfl) ?_; refine Wo rfl (opv_pick_t (v := .bool _) rfl rfl) ?_
              refine Wo rfl (opv_pick_f (v := .bool _) rfl rfl) ?_; refine Wo rfl (opv_assign (v := .bool _) rfl) ?_; refine Wo_nil ?_; rotate_left; contradiction
            refine ⟨(), ⟨by simp [upd]; omega, trivial⟩, by repeat (first | with_reducible exact Same.refl | refine Same.upd rfl ?_ | refine Same.upds rfl ?_ | refine Same.mix rfl ?_), rfl⟩
        rintro _ ρ5 _ rfl
        have stop9 : True := trivial
        focus
          have szE19 := E19.size; have szE18 := E18.size; have szE17 := E17.size; have szE16 := E16.size; have szE15 := E15.size; have szE14 := E14.size; have szE13 := E13.size; have szE12 := E12.size; have szE11 := E11.size
          have szE10 := E10.size; have szE9 := E9.size; have szE8 := E8.size; have szE7 := E7.size; have szE6 := E6.size; have szE5 := E5.size; have szE4 := E4.size; have szE3 := E3.size; have szE2 := E2.size; have szE1 := E1.size
          refine W_seq ?_; refine W_seq ?_; refine W_region rfl ?_; refine Wo (v := .agg _) rfl (opv_load2 Try.isAgg25 Try.sizeOf25 rfl hB1) ?_
          refine Wo_call rfl (opc1 (a := .agg _) Try.call16 rfl) (k3 _ _ _ ((Mono.mono E13 h1)) ((Mono.mono E13 h2))) ?_; rintro _ w10 ⟨rfl, E20⟩; have hs8 := E20.size; refine Wo rfl (opv_not rfl) ?_
          refine Wo_split rfl (opv_move (v := .bool _) rfl) (fun h5 => ?_) (fun h5 => ?_); contradiction; refine Wo (v := .agg _) rfl (opv_load2 Try.isAgg25 Try.sizeOf25 rfl (hB2.ext E20)) ?_
          refine Wo_call rfl (opc1 (a := .agg _) Try.call16 rfl) (k4 _ _ _ ((Mono.mono (E13.trans E20) h3)) ((Mono.mono (E13.trans E20) h4))) ?_; rintro _ w11 ⟨rfl, E21⟩; have hs9 := E21.size; refine Wo rfl (opv_not rfl) ?_
          refine Wo rfl (opv_pick_f (v := .bool _) rfl rfl) ?_; refine Wo_split rfl (opv_move (v := .bool _) rfl) (fun h6 => ?_) (fun h6 => ?_); contradiction; refine Wo rfl (opv_fieldAddr Try.underlying25 rfl rfl Try.sizeOf23 rfl) ?_
          refine Wo (v := u3) rfl (opv_load Try.isAgg23 rfl ((hB4.ext (E20.trans E21)).cell rfl)) ?_; refine Wo rfl (opv_len Try.underlying23 rfl (OwnedB.read hO1)) ?_; refine Wo rfl (opv_gtr rfl rfl) ?_
          refine Wo rfl (opv_pick_f (v := .bool _) rfl rfl) ?_; refine Wo_split_dec rfl (opv_move (v := .bool _) rfl) (fun h7 => ?_) (fun h7 => ?_); (exfalso; omega); refine Wo rfl (opv_fieldAddr Try.underlying25 rfl rfl Try.sizeOf23 rfl) ?_
          refine Wo (v := u4) rfl (opv_load Try.isAgg23 rfl ((hB5.ext (E20.trans E21)).cell rfl)) ?_; refine Wo rfl (opv_len Try.underlying23 rfl (OwnedB.read hO2)) ?_; refine Wo rfl (opv_gtr rfl rfl) ?_
          refine Wo rfl (opv_pick_f (v := .bool _) rfl rfl) ?_; refine Wo_split_dec rfl (opv_move (v := .bool _) rfl) (fun h8 => ?_) (fun h8 => ?_); (exfalso; omega); refine Wo rfl (opv_move (v := .bool _) rfl) ?_
          refine Wo rfl (opv_not rfl) ?_; refine Wo rfl (opv_pick_f (v := .bool _) rfl rfl) ?_; refine Wo_nil ?_; refine W_cond rfl (fun h9 => ?_) (fun h9 => ?_); contradiction; refine W_skip ?_; refine W_seq ?_; refine W_region rfl ?_
          refine Wo rfl (opv_move (v := .int _ _) rfl) ?_; refine Wo rfl (opv_move (v := .int _ _) rfl) ?_; refine Wo rfl (opv_mul rfl rfl (by omega)) ?_; refine Wo rfl (opv_assign (v := .int _ _) rfl) ?_; refine Wo_nil ?_; refine W_seq ?_
          refine W_seq ?_
        clear stop9
        clear k1 k2 k3 k4
        refine W_mid [66, 67, 68] (fun (_ : Unit) => [(68, .bool (decide (((shR f).length : Int) = ((shR g).length : Int))))]) (fun _ w' => w11 = w') ?_ ?_
        · focus
            have szE21 := E21.size; have szE20 := E20.size; have szE19 := E19.size; have szE18 := E18.size; have szE17 := E17.size; have szE16 := E16.size; have szE15 := E15.size; have szE14 := E14.size; have szE13 := E13.size
            have szE12 := E12.size; have szE11 := E11.size; have szE10 := E10.size; have szE9 := E9.size; have szE8 := E8.size; have szE7 := E7.size; have szE6 := E6.size; have szE5 := E5.size; have szE4 := E4.size; have szE3 := E3.size
            have szE2 := E2.size; have szE1 := E1.size; refine W_region rfl ?_; refine Wo rfl (opv_move (v := .int _ _) rfl) ?_; refine Wo rfl (opv_move (v := .int _ _) rfl) ?_; refine Wo rfl (opv_eql rfl rfl) ?_; refine Wo_nil ?_
          exact ⟨(), ⟨rfl, trivial⟩, by repeat (first | with_reducible exact Same.refl | refine Same.upd rfl ?_ | refine Same.upds rfl ?_ | refine Same.mix rfl ?_), rfl⟩
        rintro _ ρ6 _ rfl
        refine W_mid [11, 69] (fun (_ : Unit) => [(11, .int .i64 (L : Int))]) (fun _ w' => w11 = w') ?_ ?_
        · by_cases hnm : (shR f).length = (shR g).length
          · have hL' : L = (shR f).length := by rw [← hL]; exact if_pos hnm
            have hnm' : ((shR f).length : Int) = ((shR g).length : Int) := by omega
            focus
              have szE21 := E21.size; have szE20 := E20.size; have szE19 := E19.size; have szE18 := E18.size; have szE17 := E17.size; have szE16 := E16.size; have szE15 := E15.size; have szE14 := E14.size; have szE13 := E13.size
              have szE12 := E12.size; have szE11 := E11.size; have szE10 := E10.size; have szE9 := E9.size; have szE8 := E8.size; have szE7 := E7.size; have szE6 := E6.size; have szE5 := E5.size; have szE4 := E4.size; have szE3 := E3.size
              have szE2 := E2.size; have szE1 := E1.size; refine W_cond_dec rfl (fun h10 => ?_) (fun h10 => ?_); refine W_region rfl ?_; refine Wo rfl (opv_move (v := .int _ _) rfl) ?_; refine Wo rfl (opv_assign (v := .int _ _) rfl) ?_
              refine Wo_nil ?_; rotate_left; contradiction
            all_goals exact ⟨(), ⟨congrArg (Value.int .i64) (by omega), trivial⟩, by repeat (first | with_reducible exact Same.refl | refine Same.upd rfl ?_ | refine Same.upds rfl ?_ | refine Same.mix rfl ?_), rfl⟩
          · have hL' : L = (shR f).length * (shR g).length := by rw [← hL]; exact if_neg hnm
            have hnm' : ¬ ((shR f).length : Int) = ((shR g).length : Int) := by omega
            focus
              have szE21 := E21.size; have szE20 := E20.size; have szE19 := E19.size; have szE18 := E18.size; have szE17 := E17.size; have szE16 := E16.size; have szE15 := E15.size; have szE14 := E14.size; have szE13 := E13.size
              have szE12 := E12.size; have szE11 := E11.size; have szE10 := E10.size; have szE9 := E9.size; have szE8 := E8.size; have szE7 := E7.size; have szE6 := E6.size; have szE5 := E5.size; have szE4 := E4.size; have szE3 := E3.size
              have szE2 := E2.size; have szE1 := E1.size; refine W_cond_dec rfl (fun h10 => ?_) (fun h10 => ?_); contradiction; refine W_skip ?_
            all_goals exact ⟨(), ⟨congrArg (Value.int .i64) (by omega), trivial⟩, by repeat (first | with_reducible exact Same.refl | refine Same.upd rfl ?_ | refine Same.upds rfl ?_ | refine Same.mix rfl ?_), rfl⟩
        rintro _ ρ7 _ rfl
        have litown : True := trivial
        have heldS : w11 = w11 := rfl
        have Ex := E20.trans E21
        have r1 := Mono.mono Ex hO1.read
        have r2 := Mono.mono Ex hQ1.read
        have r3 := Mono.mono Ex hO2.read
        have r4 := Mono.mono Ex hQ2.read
        have P7 : True ∧ Blk w11 b7 [u3, q1] := ⟨trivial, hB4.ext Ex⟩
        have P8 : True ∧ Blk w11 b8 [u4, q2] := ⟨trivial, hB5.ext Ex⟩
        have P6 : True ∧ Blk w11 b6 [.slice none 0 0, .slice none 0 0] := ⟨trivial, hB3.ext Ex⟩
        have Ew := E13.trans Ex
        clear hO1 hQ1 hO2 hQ2 hB1 hB2 hB3 hB4 hB5 hmulI hmul hmul1
        focus
          have szEw := Ew.size; have szEx := Ex.size; have szE21 := E21.size; have szE20 := E20.size; have szE19 := E19.size; have szE18 := E18.size; have szE17 := E17.size; have szE16 := E16.size; have szE15 := E15.size
          have szE14 := E14.size; have szE13 := E13.size; have szE12 := E12.size; have szE11 := E11.size; have szE10 := E10.size; have szE9 := E9.size; have szE8 := E8.size; have szE7 := E7.size; have szE6 := E6.size; have szE5 := E5.size
          have szE4 := E4.size; have szE3 := E3.size; have szE2 := E2.size; have szE1 := E1.size; refine W_seq ?_; refine W_region rfl ?_; refine Wo rfl (opv_build (ps := []) (cs := [_, _]) flat25 rfl rfl) ?_; refine Wo_alloc2 rfl flat25 ?_
          rintro b9 w12 hb6 E22 hB6; have hlb9 := hB6.lt; have hs10 := E22.size; refine Wo_st2 rfl Try.sizeOf25 rfl rfl (by first | rfl | assumption) (by first | rfl | assumption) hB6 (by omega) (Ew.trans E22) ?_; rintro w13 E23 hB6 K3 hz3
          have E24 := ((E14.trans Ex).trans E22).wroteAt (Ew.trans E22) E23 K3 hz3 (by omega); have szE24 := E24.size; have E25 := ((E15.trans Ex).trans E22).wroteAt (Ew.trans E22) E23 K3 hz3 (by omega); have szE25 := E25.size
          have E26 := ((E16.trans Ex).trans E22).wroteAt (Ew.trans E22) E23 K3 hz3 (by omega); have szE26 := E26.size; have E27 := ((E17.trans Ex).trans E22).wroteAt (Ew.trans E22) E23 K3 hz3 (by omega); have szE27 := E27.size
          have E28 := ((E18.trans Ex).trans E22).wroteAt (Ew.trans E22) E23 K3 hz3 (by omega); have szE28 := E28.size; have E29 := ((E19.trans Ex).trans E22).wroteAt (Ew.trans E22) E23 K3 hz3 (by omega); have szE29 := E29.size
          have E30 := (Ex.trans E22).wroteAt (Ew.trans E22) E23 K3 hz3 (by omega); have szE30 := E30.size; have E31 := (E21.trans E22).wroteAt (Ew.trans E22) E23 K3 hz3 (by omega); have szE31 := E31.size
          have E32 := E22.wroteAt (Ew.trans E22) E23 K3 hz3 (by omega); have szE32 := E32.size; have hB4 := (hB4.ext ((E18.trans Ex).trans E22)).of_heap (K3 _ (by omega))
          have hB1 := (hB1.ext ((E18.trans Ex).trans E22)).of_heap (K3 _ (by omega)); have hB2 := (hB2.ext ((E18.trans Ex).trans E22)).of_heap (K3 _ (by omega)); have hB3 := (hB3.ext ((E18.trans Ex).trans E22)).of_heap (K3 _ (by omega))
          have hO1 := (hO1.ext ((E18.trans Ex).trans E22)).wrote K3 (by omega); have hQ1 := (hQ1.ext ((E18.trans Ex).trans E22)).wrote K3 (by omega); have hO2 := (hO2.toB.ext ((E19.trans Ex).trans E22)).wrote K3 (by omega)
          have hQ2 := (hQ2.toB.ext ((E19.trans Ex).trans E22)).wrote K3 (by omega); refine Wo_nil ?_; refine W_seq ?_; refine W_seq ?_; refine W_region rfl ?_; refine Wo rfl (opv_assign (v := .int _ _) rfl) ?_; refine Wo_nil ?_
          refine W_block ?_
        refine W_loop [13, 71, 72, 73, 74, 75, 76, 77, 78, 79, 80, 81, 82, 83, 84, 85, 86, 87] (fun ((z, o) : Int × Value) => [(13, .int .i64 z)]) (fun (z, o) w' => Ext w11 w' ∧ w13.heap.size ≤ w'.heap.size ∧ (z = 0 ∨ z = 1 ∨ z = 2) ∧ Blk w' b9 [o, .slice none 0 0] ∧ Owned w13.heap.size XI w' o (win (lay f g) 0 z.toNat)) (fun x => (2 - x.1).toNat) (0, .slice none 0 0) (by repeat (first | exact trivial | refine And.intro rfl ?_)) ?_ ?_
        · exact ⟨by assumption, Nat.le_refl _, .inl rfl, by assumption, by simpa [win] using (Owned.nil : Owned w13.heap.size XI w13 (.slice none 0 0) [])⟩
        clear hB6
        rintro ⟨z, o⟩ ρj w14 ⟨E14, hs14, hz, hB, hO⟩
        have hwl := win_len (f := lay f g) (a := 0) (p := z.toNat)
        rcases hz with rfl | rfl | rfl
        · have B7 := P7.2
          have B8 := P8.2
          focus
            have szE14 := E14.size; have szE32 := E32.size; have szE31 := E31.size; have szE30 := E30.size; have szE29 := E29.size; have szE28 := E28.size; have szE27 := E27.size; have szE26 := E26.size; have szE25 := E25.size
            have szE24 := E24.size; have szE23 := E23.size; have szE22 := E22.size; have szEw := Ew.size; have szEx := Ex.size; have szE21 := E21.size; have szE20 := E20.size; have szE19 := E19.size; have szE18 := E18.size
            have szE17 := E17.size; have szE16 := E16.size; have szE15 := E15.size; have szE14 := E14.size; have szE13 := E13.size; have szE12 := E12.size; have szE11 := E11.size; have szE10 := E10.size; have szE9 := E9.size
            have szE8 := E8.size; have szE7 := E7.size; have szE6 := E6.size; have szE5 := E5.size; have szE4 := E4.size; have szE3 := E3.size; have szE2 := E2.size; have szE1 := E1.size; refine W_seq ?_; refine W_seq ?_; refine W_region rfl ?_
            refine Wo rfl (opv_move (v := .int _ _) rfl) ?_; refine Wo rfl (opv_lss rfl rfl) ?_; refine Wo_nil ?_; refine W_cond_dec rfl (fun h10 => ?_) (fun h10 => ?_); refine W_skip ?_; refine W_seq ?_; refine W_block ?_
            refine W_held (fun w' => Ext w11 w') mixed rfl (by kernel_rfl) ?_; intro w15 E33 K4 hz4; have hs11 := E33.size
            refine Wh_take 0 rfl (by kernel_rfl) (by kernel_rfl) rfl (fun _ _ => opv_fieldAddr Try.underlying25 rfl rfl Try.sizeOf23 rfl) (E14.trans E33) ?_
            refine Wh_take (v := .agg _) 2 rfl (by kernel_rfl) (by kernel_rfl) rfl (fun w' hw' => opv_load2 Try.isAgg25 Try.sizeOf25 rfl (B7.ext hw')) (E14.trans E33) ?_
            refine Wh_take (v := .agg _) 4 rfl (by kernel_rfl) (by kernel_rfl) rfl (fun w' hw' => opv_load2 Try.isAgg25 Try.sizeOf25 rfl (B8.ext hw')) (E14.trans E33) ?_
            refine Wh_take 7 rfl (by kernel_rfl) (by kernel_rfl) rfl (fun _ _ => opv_move (v := .int _ _) rfl) (E14.trans E33) ?_; refine Wh_all (rs := [1, 3]) (by kernel_rfl) rfl ?_; refine WhAll_cons rfl ?_ ?_
            refine Wo (v := o) rfl (opv_load Try.isAgg23 rfl ((hB.ext E33).cell rfl)) ?_; refine Wo_nil ?_; refine ⟨(E14.trans E33), ?_⟩; refine Wh_all (rs := [3]) (by kernel_rfl) rfl ?_; refine WhAll_cons rfl ?_ ?_
            refine Wo_call rfl (opc2 (a := .agg _) (b := .int _ _) Try.call57 rfl rfl) (b1 _ _ _ _ ((Mono.mono (E14.trans E33) r1)) ((Mono.mono (E14.trans E33) r2)) (by omega)) ?_; rintro _ w16 ⟨rfl, E34⟩; have hs12 := E34.size
            refine Wo_nil ?_; refine ⟨((E14.trans E33).trans E34), ?_⟩; refine Wh_all (rs := [5]) (by kernel_rfl) rfl ?_; refine WhAll_cons rfl ?_ ?_
            refine Wo_call rfl (opc2 (a := .agg _) (b := .int _ _) Try.call57 rfl rfl) (b2 _ _ _ _ ((Mono.mono ((E14.trans E33).trans E34) r3)) ((Mono.mono ((E14.trans E33).trans E34) r4)) (by omega)) ?_; rintro _ w17 ⟨rfl, E35⟩
            have hs13 := E35.size; refine Wo_nil ?_; refine ⟨(((E14.trans E33).trans E34).trans E35), ?_⟩; refine Wh_all (rs := [6]) (by kernel_rfl) rfl ?_; refine WhAll_cons rfl ?_ ?_
            refine Wo_buildSliceH (ps := [(0, .int _ _), (1, .int _ _)]) (cs := [_, _]) rfl Try.underlying23 Try.sizeOf3 Try.zeroValue3 rfl rfl rfl rfl ?_; rintro b10 w18 hb7 E36 hB7 hHb10; have hlb10 := hB7.lt; have hLb10 := own_lit2 hHb10 hb7
            clear hHb10; have hs15 := E36.size; refine Wo_nil ?_; refine ⟨((((E14.trans E33).trans E34).trans E35).trans E36), ?_⟩
            refine Wh_take 8 rfl (by kernel_rfl) (by kernel_rfl) rfl (fun _ _ => opv_indexAddr (k := 0) Try.underlying23 Try.sizeOf3 rfl rfl (by omega)) ((((E14.trans E33).trans E34).trans E35).trans E36) ?_
            refine Wh_all (rs := [9]) (by kernel_rfl) rfl ?_; refine WhAll_cons rfl ?_ ?_; refine Wo (v := .int _ _) rfl (opv_load Try.isAgg3 rfl (hB7.cell rfl)) ?_; refine Wo_nil ?_
            refine ⟨((((E14.trans E33).trans E34).trans E35).trans E36), ?_⟩; refine Wh_all (rs := [10]) (by kernel_rfl) rfl ?_; refine WhAll_cons rfl ?_ ?_
            refine Wo_buildSliceH (ps := [(0, .int _ _)]) (cs := [_]) rfl Try.underlying23 Try.sizeOf3 Try.zeroValue3 rfl rfl rfl rfl ?_; rintro b11 w19 hb8 E37 hB8 hHb11; have hlb11 := hB8.lt; have hLb11 := own_lit1 hHb11 hb8; clear hHb11
            have hs16 := E37.size; refine Wo_nil ?_; refine ⟨(((((E14.trans E33).trans E34).trans E35).trans E36).trans E37), ?_⟩; refine Wh_all (rs := [11]) (by kernel_rfl) rfl ?_; refine WhAll_cons rfl ?_ ?_
            refine Wo_app1 rfl el23 rfl rfl hB8 (hO.toB.ext ((((E33.trans E34).trans E35).trans E36).trans E37)) Owned.int (Nat.le_refl _) (by first | omega | (simp <;> omega)) (by omega) (by omega) ((((((Ew.trans E14).trans E33).trans E34).trans E35).trans E36).trans E37) (by omega) ?_
            have hT1 := (hO.toB.ext ((((E33.trans E34).trans E35).trans E36).trans E37)); rintro v3 w20 hO E38 M1; have E39 := M1.ext hT1 (((((((E15.trans Ex).trans E14).trans E33).trans E34).trans E35).trans E36).trans E37) (by omega)
            have szE39 := E39.size; have E40 := M1.ext hT1 (((((((E16.trans Ex).trans E14).trans E33).trans E34).trans E35).trans E36).trans E37) (by omega); have szE40 := E40.size
            have E41 := M1.ext hT1 (((((((E17.trans Ex).trans E14).trans E33).trans E34).trans E35).trans E36).trans E37) (by omega); have szE41 := E41.size
            have E42 := M1.ext hT1 (((((((E18.trans Ex).trans E14).trans E33).trans E34).trans E35).trans E36).trans E37) (by omega); have szE42 := E42.size
            have E43 := M1.ext hT1 (((((((E19.trans Ex).trans E14).trans E33).trans E34).trans E35).trans E36).trans E37) (by omega); have szE43 := E43.size
            have E44 := M1.ext hT1 ((((((Ex.trans E14).trans E33).trans E34).trans E35).trans E36).trans E37) (by omega); have szE44 := E44.size
            have E45 := M1.ext hT1 ((((((E21.trans E14).trans E33).trans E34).trans E35).trans E36).trans E37) (by omega); have szE45 := E45.size; have E46 := M1.ext hT1 (((((E14.trans E33).trans E34).trans E35).trans E36).trans E37) (by omega)
            have szE46 := E46.size; have hB := (hB.ext ((((E33.trans E34).trans E35).trans E36).trans E37)).moves M1 hT1 (by omega); have B7 := (B7.ext (((((E14.trans E33).trans E34).trans E35).trans E36).trans E37)).moves M1 hT1 (by omega)
            have B8 := (B8.ext (((((E14.trans E33).trans E34).trans E35).trans E36).trans E37)).moves M1 hT1 (by omega); have hB7 := (hB7.ext E37).moves M1 hT1 (by omega); have hLb10 := (hLb10.toB.ext E37).moves M1 hT1 (by omega)
            have hB8 := hB8.moves M1 hT1 (by omega); have hLb11 := hLb11.toB.moves M1 hT1 (by omega); have hs17 := E38.size; have szM1 := M1.1.size; have icv3 := OwnedB.isC (Owned.toB hO); refine Wo_nil ?_; refine ⟨E46, ?_⟩
            refine Wh_take 12 rfl (by kernel_rfl) (by kernel_rfl) rfl (fun _ _ => opv_fieldAddr Try.underlying25 rfl rfl Try.sizeOf23 rfl) E46 ?_; refine Wh_all (rs := [13]) (by kernel_rfl) rfl ?_; refine WhAll_cons rfl ?_ ?_
            refine Wo_st (v := v3) rfl Try.sizeOf23 rfl rfl (OwnedB.isC hO.toB) hB (by simp) (by omega) E38 ?_; rintro w21 E47 hB K5 hz5; have E48 := E39.wroteAt E38 E47 K5 hz5 (by omega); have szE48 := E48.size
            have E49 := E40.wroteAt E38 E47 K5 hz5 (by omega); have szE49 := E49.size; have E50 := E41.wroteAt E38 E47 K5 hz5 (by omega); have szE50 := E50.size; have E51 := E42.wroteAt E38 E47 K5 hz5 (by omega); have szE51 := E51.size
            have E52 := E43.wroteAt E38 E47 K5 hz5 (by omega); have szE52 := E52.size; have E53 := E44.wroteAt E38 E47 K5 hz5 (by omega); have szE53 := E53.size; have E54 := E45.wroteAt E38 E47 K5 hz5 (by omega); have szE54 := E54.size
            have E55 := E46.wroteAt E38 E47 K5 hz5 (by omega); have szE55 := E55.size; simp only [List.set] at hB; have hO := hO.toB.wrote K5 (by omega); have B7 := B7.of_heap (K5 _ (by omega)); have B8 := B8.of_heap (K5 _ (by omega))
            have hB7 := hB7.of_heap (K5 _ (by omega)); have hLb10 := hLb10.wrote K5 (by omega); have hB8 := hB8.of_heap (K5 _ (by omega)); have hLb11 := hLb11.wrote K5 (by omega); refine Wo_nil ?_; refine ⟨E55, ?_⟩
            refine Wh_done (by kernel_rfl) ?_; refine W_region rfl ?_; refine Wo rfl (opv_move (v := .int _ _) rfl) ?_; refine Wo rfl (opv_add rfl rfl (by omega)) ?_; refine Wo rfl (opv_assign (v := .int _ _) rfl) ?_; refine Wo_nil ?_
            rotate_left; exact WhAll_nil; exact WhAll_nil; exact WhAll_nil; exact WhAll_nil; exact WhAll_nil; exact WhAll_nil; exact WhAll_nil; refine WhAll_cons rfl ?_ ?_
            refine Wo_call rfl (opc2 (a := .agg _) (b := .int _ _) Try.call57 rfl rfl) (b1 _ _ _ _ ((Mono.mono (E14.trans E33) r1)) ((Mono.mono (E14.trans E33) r2)) (by omega)) ?_; rintro _ w16 ⟨rfl, E34⟩; have hs12 := E34.size
            refine Wo_nil ?_; refine ⟨((E14.trans E33).trans E34), ?_⟩; refine Wh_all (rs := [1, 5]) (by kernel_rfl) rfl ?_; refine WhAll_cons rfl ?_ ?_; refine Wo (v := o) rfl (opv_load Try.isAgg23 rfl ((hB.ext (E33.trans E34)).cell rfl)) ?_
            refine Wo_nil ?_; refine ⟨((E14.trans E33).trans E34), ?_⟩; refine Wh_all (rs := [5]) (by kernel_rfl) rfl ?_; refine WhAll_cons rfl ?_ ?_
            refine Wo_call rfl (opc2 (a := .agg _) (b := .int _ _) Try.call57 rfl rfl) (b2 _ _ _ _ ((Mono.mono ((E14.trans E33).trans E34) r3)) ((Mono.mono ((E14.trans E33).trans E34) r4)) (by omega)) ?_; rintro _ w17 ⟨rfl, E35⟩
            have hs13 := E35.size; refine Wo_nil ?_; refine ⟨(((E14.trans E33).trans E34).trans E35), ?_⟩; refine Wh_all (rs := [6]) (by kernel_rfl) rfl ?_; refine WhAll_cons rfl ?_ ?_
            refine Wo_buildSliceH (ps := [(0, .int _ _), (1, .int _ _)]) (cs := [_, _]) rfl Try.underlying23 Try.sizeOf3 Try.zeroValue3 rfl rfl rfl rfl ?_; rintro b10 w18 hb7 E36 hB7 hHb10; have hlb10 := hB7.lt; have hLb10 := own_lit2 hHb10 hb7
            clear hHb10; have hs15 := E36.size; refine Wo_nil ?_; refine ⟨((((E14.trans E33).trans E34).trans E35).trans E36), ?_⟩
            refine Wh_take 8 rfl (by kernel_rfl) (by kernel_rfl) rfl (fun _ _ => opv_indexAddr (k := 0) Try.underlying23 Try.sizeOf3 rfl rfl (by omega)) ((((E14.trans E33).trans E34).trans E35).trans E36) ?_
            refine Wh_all (rs := [9]) (by kernel_rfl) rfl ?_; refine WhAll_cons rfl ?_ ?_; refine Wo (v := .int _ _) rfl (opv_load Try.isAgg3 rfl (hB7.cell rfl)) ?_; refine Wo_nil ?_
            refine ⟨((((E14.trans E33).trans E34).trans E35).trans E36), ?_⟩; refine Wh_all (rs := [10]) (by kernel_rfl) rfl ?_; refine WhAll_cons rfl ?_ ?_
            refine Wo_buildSliceH (ps := [(0, .int _ _)]) (cs := [_]) rfl Try.underlying23 Try.sizeOf3 Try.zeroValue3 rfl rfl rfl rfl ?_; rintro b11 w19 hb8 E37 hB8 hHb11; have hlb11 := hB8.lt; have hLb11 := own_lit1 hHb11 hb8; clear hHb11
            have hs16 := E37.size; refine Wo_nil ?_; refine ⟨(((((E14.trans E33).trans E34).trans E35).trans E36).trans E37), ?_⟩; refine Wh_all (rs := [11]) (by kernel_rfl) rfl ?_; refine WhAll_cons rfl ?_ ?_
            refine Wo_app1 rfl el23 rfl rfl hB8 (hO.toB.ext ((((E33.trans E34).trans E35).trans E36).trans E37)) Owned.int (Nat.le_refl _) (by first | omega | (simp <;> omega)) (by omega) (by omega) ((((((Ew.trans E14).trans E33).trans E34).trans E35).trans E36).trans E37) (by omega) ?_
            have hT1 := (hO.toB.ext ((((E33.trans E34).trans E35).trans E36).trans E37)); rintro v3 w20 hO E38 M1; have E39 := M1.ext hT1 (((((((E15.trans Ex).trans E14).trans E33).trans E34).trans E35).trans E36).trans E37) (by omega)
            have szE39 := E39.size; have E40 := M1.ext hT1 (((((((E16.trans Ex).trans E14).trans E33).trans E34).trans E35).trans E36).trans E37) (by omega); have szE40 := E40.size
            have E41 := M1.ext hT1 (((((((E17.trans Ex).trans E14).trans E33).trans E34).trans E35).trans E36).trans E37) (by omega); have szE41 := E41.size
            have E42 := M1.ext hT1 (((((((E18.trans Ex).trans E14).trans E33).trans E34).trans E35).trans E36).trans E37) (by omega); have szE42 := E42.size
            have E43 := M1.ext hT1 (((((((E19.trans Ex).trans E14).trans E33).trans E34).trans E35).trans E36).trans E37) (by omega); have szE43 := E43.size
            have E44 := M1.ext hT1 ((((((Ex.trans E14).trans E33).trans E34).trans E35).trans E36).trans E37) (by omega); have szE44 := E44.size
            have E45 := M1.ext hT1 ((((((E21.trans E14).trans E33).trans E34).trans E35).trans E36).trans E37) (by omega); have szE45 := E45.size; have E46 := M1.ext hT1 (((((E14.trans E33).trans E34).trans E35).trans E36).trans E37) (by omega)
            have szE46 := E46.size; have hB := (hB.ext ((((E33.trans E34).trans E35).trans E36).trans E37)).moves M1 hT1 (by omega); have B7 := (B7.ext (((((E14.trans E33).trans E34).trans E35).trans E36).trans E37)).moves M1 hT1 (by omega)
            have B8 := (B8.ext (((((E14.trans E33).trans E34).trans E35).trans E36).trans E37)).moves M1 hT1 (by omega); have hB7 := (hB7.ext E37).moves M1 hT1 (by omega); have hLb10 := (hLb10.toB.ext E37).moves M1 hT1 (by omega)
            have hB8 := hB8.moves M1 hT1 (by omega); have hLb11 := hLb11.toB.moves M1 hT1 (by omega); have hs17 := E38.size; have szM1 := M1.1.size; have icv3 := OwnedB.isC (Owned.toB hO); refine Wo_nil ?_; refine ⟨E46, ?_⟩
            refine Wh_take 12 rfl (by kernel_rfl) (by kernel_rfl) rfl (fun _ _ => opv_fieldAddr Try.underlying25 rfl rfl Try.sizeOf23 rfl) E46 ?_; refine Wh_all (rs := [13]) (by kernel_rfl) rfl ?_; refine WhAll_cons rfl ?_ ?_
            refine Wo_st (v := v3) rfl Try.sizeOf23 rfl rfl (OwnedB.isC hO.toB) hB (by simp) (by omega) E38 ?_; rintro w21 E47 hB K5 hz5; have E48 := E39.wroteAt E38 E47 K5 hz5 (by omega); have szE48 := E48.size
            have E49 := E40.wroteAt E38 E47 K5 hz5 (by omega); have szE49 := E49.size; have E50 := E41.wroteAt E38 E47 K5 hz5 (by omega); have szE50 := E50.size; have E51 := E42.wroteAt E38 E47 K5 hz5 (by omega); have szE51 := E51.size
            have E52 := E43.wroteAt E38 E47 K5 hz5 (by omega); have szE52 := E52.size; have E53 := E44.wroteAt E38 E47 K5 hz5 (by omega); have szE53 := E53.size; have E54 := E45.wroteAt E38 E47 K5 hz5 (by omega); have szE54 := E54.size
            have E55 := E46.wroteAt E38 E47 K5 hz5 (by omega); have szE55 := E55.size; simp only [List.set] at hB; have hO := hO.toB.wrote K5 (by omega); have B7 := B7.of_heap (K5 _ (by omega)); have B8 := B8.of_heap (K5 _ (by omega))
            have hB7 := hB7.of_heap (K5 _ (by omega)); have hLb10 := hLb10.wrote K5 (by omega); have hB8 := hB8.of_heap (K5 _ (by omega)); have hLb11 := hLb11.wrote K5 (by omega); refine Wo_nil ?_; refine ⟨E55, ?_⟩
            refine Wh_done (by kernel_rfl) ?_; refine W_region rfl ?_; refine Wo rfl (opv_move (v := .int _ _) rfl) ?_; refine Wo rfl (opv_add rfl rfl (by omega)) ?_; refine Wo rfl (opv_assign (v := .int _ _) rfl) ?_; refine Wo_nil ?_
            rotate_left; exact WhAll_nil; exact WhAll_nil; exact WhAll_nil; exact WhAll_nil; exact WhAll_nil; exact WhAll_nil; refine WhAll_cons rfl ?_ ?_
            refine Wo_call rfl (opc2 (a := .agg _) (b := .int _ _) Try.call57 rfl rfl) (b2 _ _ _ _ ((Mono.mono ((E14.trans E33).trans E34) r3)) ((Mono.mono ((E14.trans E33).trans E34) r4)) (by omega)) ?_; rintro _ w17 ⟨rfl, E35⟩
            have hs13 := E35.size; refine Wo_nil ?_; refine ⟨(((E14.trans E33).trans E34).trans E35), ?_⟩; refine Wh_all (rs := [1, 6]) (by kernel_rfl) rfl ?_; refine WhAll_cons rfl ?_ ?_
            refine Wo (v := o) rfl (opv_load Try.isAgg23 rfl ((hB.ext ((E33.trans E34).trans E35)).cell rfl)) ?_; refine Wo_nil ?_; refine ⟨(((E14.trans E33).trans E34).trans E35), ?_⟩; refine Wh_all (rs := [6]) (by kernel_rfl) rfl ?_
            refine WhAll_cons rfl ?_ ?_; refine Wo_buildSliceH (ps := [(0, .int _ _), (1, .int _ _)]) (cs := [_, _]) rfl Try.underlying23 Try.sizeOf3 Try.zeroValue3 rfl rfl rfl rfl ?_; rintro b10 w18 hb7 E36 hB7 hHb10; have hlb10 := hB7.lt
            have hLb10 := own_lit2 hHb10 hb7; clear hHb10; have hs15 := E36.size; refine Wo_nil ?_; refine ⟨((((E14.trans E33).trans E34).trans E35).trans E36), ?_⟩
            refine Wh_take 8 rfl (by kernel_rfl) (by kernel_rfl) rfl (fun _ _ => opv_indexAddr (k := 0) Try.underlying23 Try.sizeOf3 rfl rfl (by omega)) ((((E14.trans E33).trans E34).trans E35).trans E36) ?_
            refine Wh_all (rs := [9]) (by kernel_rfl) rfl ?_; refine WhAll_cons rfl ?_ ?_; refine Wo (v := .int _ _) rfl (opv_load Try.isAgg3 rfl (hB7.cell rfl)) ?_; refine Wo_nil ?_
            refine ⟨((((E14.trans E33).trans E34).trans E35).trans E36), ?_⟩; refine Wh_all (rs := [10]) (by kernel_rfl) rfl ?_; refine WhAll_cons rfl ?_ ?_
            refine Wo_buildSliceH (ps := [(0, .int _ _)]) (cs := [_]) rfl Try.underlying23 Try.sizeOf3 Try.zeroValue3 rfl rfl rfl rfl ?_; rintro b11 w19 hb8 E37 hB8 hHb11; have hlb11 := hB8.lt; have hLb11 := own_lit1 hHb11 hb8; clear hHb11
            have hs16 := E37.size; refine Wo_nil ?_; refine ⟨(((((E14.trans E33).trans E34).trans E35).trans E36).trans E37), ?_⟩; refine Wh_all (rs := [11]) (by kernel_rfl) rfl ?_; refine WhAll_cons rfl ?_ ?_
            refine Wo_app1 rfl el23 rfl rfl hB8 (hO.toB.ext ((((E33.trans E34).trans E35).trans E36).trans E37)) Owned.int (Nat.le_refl _) (by first | omega | (simp <;> omega)) (by omega) (by omega) ((((((Ew.trans E14).trans E33).trans E34).trans E35).trans E36).trans E37) (by omega) ?_
            have hT1 := (hO.toB.ext ((((E33.trans E34).trans E35).trans E36).trans E37)); rintro v3 w20 hO E38 M1; have E39 := M1.ext hT1 (((((((E15.trans Ex).trans E14).trans E33).trans E34).trans E35).trans E36).trans E37) (by omega)
            have szE39 := E39.size; have E40 := M1.ext hT1 (((((((E16.trans Ex).trans E14).trans E33).trans E34).trans E35).trans E36).trans E37) (by omega); have szE40 := E40.size
            have E41 := M1.ext hT1 (((((((E17.trans Ex).trans E14).trans E33).trans E34).trans E35).trans E36).trans E37) (by omega); have szE41 := E41.size
            have E42 := M1.ext hT1 (((((((E18.trans Ex).trans E14).trans E33).trans E34).trans E35).trans E36).trans E37) (by omega); have szE42 := E42.size
            have E43 := M1.ext hT1 (((((((E19.trans Ex).trans E14).trans E33).trans E34).trans E35).trans E36).trans E37) (by omega); have szE43 := E43.size
            have E44 := M1.ext hT1 ((((((Ex.trans E14).trans E33).trans E34).trans E35).trans E36).trans E37) (by omega); have szE44 := E44.size
            have E45 := M1.ext hT1 ((((((E21.trans E14).trans E33).trans E34).trans E35).trans E36).trans E37) (by omega); have szE45 := E45.size; have E46 := M1.ext hT1 (((((E14.trans E33).trans E34).trans E35).trans E36).trans E37) (by omega)
            have szE46 := E46.size; have hB := (hB.ext ((((E33.trans E34).trans E35).trans E36).trans E37)).moves M1 hT1 (by omega); have B7 := (B7.ext (((((E14.trans E33).trans E34).trans E35).trans E36).trans E37)).moves M1 hT1 (by omega)
            have B8 := (B8.ext (((((E14.trans E33).trans E34).trans E35).trans E36).trans E37)).moves M1 hT1 (by omega); have hB7 := (hB7.ext E37).moves M1 hT1 (by omega); have hLb10 := (hLb10.toB.ext E37).moves M1 hT1 (by omega)
            have hB8 := hB8.moves M1 hT1 (by omega); have hLb11 := hLb11.toB.moves M1 hT1 (by omega); have hs17 := E38.size; have szM1 := M1.1.size; have icv3 := OwnedB.isC (Owned.toB hO); refine Wo_nil ?_; refine ⟨E46, ?_⟩
            refine Wh_take 12 rfl (by kernel_rfl) (by kernel_rfl) rfl (fun _ _ => opv_fieldAddr Try.underlying25 rfl rfl Try.sizeOf23 rfl) E46 ?_; refine Wh_all (rs := [13]) (by kernel_rfl) rfl ?_; refine WhAll_cons rfl ?_ ?_
            refine Wo_st (v := v3) rfl Try.sizeOf23 rfl rfl (OwnedB.isC hO.toB) hB (by simp) (by omega) E38 ?_; rintro w21 E47 hB K5 hz5; have E48 := E39.wroteAt E38 E47 K5 hz5 (by omega); have szE48 := E48.size
            have E49 := E40.wroteAt E38 E47 K5 hz5 (by omega); have szE49 := E49.size; have E50 := E41.wroteAt E38 E47 K5 hz5 (by omega); have szE50 := E50.size; have E51 := E42.wroteAt E38 E47 K5 hz5 (by omega); have szE51 := E51.size
            have E52 := E43.wroteAt E38 E47 K5 hz5 (by omega); have szE52 := E52.size; have E53 := E44.wroteAt E38 E47 K5 hz5 (by omega); have szE53 := E53.size; have E54 := E45.wroteAt E38 E47 K5 hz5 (by omega); have szE54 := E54.size
            have E55 := E46.wroteAt E38 E47 K5 hz5 (by omega); have szE55 := E55.size; simp only [List.set] at hB; have hO := hO.toB.wrote K5 (by omega); have B7 := B7.of_heap (K5 _ (by omega)); have B8 := B8.of_heap (K5 _ (by omega))
            have hB7 := hB7.of_heap (K5 _ (by omega)); have hLb10 := hLb10.wrote K5 (by omega); have hB8 := hB8.of_heap (K5 _ (by omega)); have hLb11 := hLb11.wrote K5 (by omega); refine Wo_nil ?_; refine ⟨E55, ?_⟩
            refine Wh_done (by kernel_rfl) ?_; refine W_region rfl ?_; refine Wo rfl (opv_move (v := .int _ _) rfl) ?_; refine Wo rfl (opv_add rfl rfl (by omega)) ?_; refine Wo rfl (opv_assign (v := .int _ _) rfl) ?_; refine Wo_nil ?_
            rotate_left; exact WhAll_nil; exact WhAll_nil; exact WhAll_nil; exact WhAll_nil; exact WhAll_nil; refine WhAll_cons rfl ?_ ?_
            refine Wo_buildSliceH (ps := [(0, .int _ _), (1, .int _ _)]) (cs := [_, _]) rfl Try.underlying23 Try.sizeOf3 Try.zeroValue3 rfl rfl rfl rfl ?_; rintro b10 w18 hb7 E36 hB7 hHb10; have hlb10 := hB7.lt; have hLb10 := own_lit2 hHb10 hb7
            clear hHb10; have hs15 := E36.size; refine Wo_nil ?_; refine ⟨((((E14.trans E33).trans E34).trans E35).trans E36), ?_⟩
            refine Wh_take 8 rfl (by kernel_rfl) (by kernel_rfl) rfl (fun _ _ => opv_indexAddr (k := 0) Try.underlying23 Try.sizeOf3 rfl rfl (by omega)) ((((E14.trans E33).trans E34).trans E35).trans E36) ?_
            refine Wh_all (rs := [1, 9]) (by kernel_rfl) rfl ?_; refine WhAll_cons rfl ?_ ?_; refine Wo (v := o) rfl (opv_load Try.isAgg23 rfl ((hB.ext (((E33.trans E34).trans E35).trans E36)).cell rfl)) ?_; refine Wo_nil ?_
            refine ⟨((((E14.trans E33).trans E34).trans E35).trans E36), ?_⟩; refine Wh_all (rs := [9]) (by kernel_rfl) rfl ?_; refine WhAll_cons rfl ?_ ?_; refine Wo (v := .int _ _) rfl (opv_load Try.isAgg3 rfl (hB7.cell rfl)) ?_
            refine Wo_nil ?_; refine ⟨((((E14.trans E33).trans E34).trans E35).trans E36), ?_⟩; refine Wh_all (rs := [10]) (by kernel_rfl) rfl ?_; refine WhAll_cons rfl ?_ ?_
            refine Wo_buildSliceH (ps := [(0, .int _ _)]) (cs := [_]) rfl Try.underlying23 Try.sizeOf3 Try.zeroValue3 rfl rfl rfl rfl ?_; rintro b11 w19 hb8 E37 hB8 hHb11; have hlb11 := hB8.lt; have hLb11 := own_lit1 hHb11 hb8; clear hHb11
            have hs16 := E37.size; refine Wo_nil ?_; refine ⟨(((((E14.trans E33).trans E34).trans E35).trans E36).trans E37), ?_⟩; refine Wh_all (rs := [11]) (by kernel_rfl) rfl ?_; refine WhAll_cons rfl ?_ ?_
            refine Wo_app1 rfl el23 rfl rfl hB8 (hO.toB.ext ((((E33.trans E34).trans E35).trans E36).trans E37)) Owned.int (Nat.le_refl _) (by first | omega | (simp <;> omega)) (by omega) (by omega) ((((((Ew.trans E14).trans E33).trans E34).trans E35).trans E36).trans E37) (by omega) ?_
            have hT1 := (hO.toB.ext ((((E33.trans E34).trans E35).trans E36).trans E37)); rintro v3 w20 hO E38 M1; have E39 := M1.ext hT1 (((((((E15.trans Ex).trans E14).trans E33).trans E34).trans E35).trans E36).trans E37) (by omega)
            have szE39 := E39.size; have E40 := M1.ext hT1 (((((((E16.trans Ex).trans E14).trans E33).trans E34).trans E35).trans E36).trans E37) (by omega); have szE40 := E40.size
            have E41 := M1.ext hT1 (((((((E17.trans Ex).trans E14).trans E33).trans E34).trans E35).trans E36).trans E37) (by omega); have szE41 := E41.size
            have E42 := M1.ext hT1 (((((((E18.trans Ex).trans E14).trans E33).trans E34).trans E35).trans E36).trans E37) (by omega); have szE42 := E42.size
            have E43 := M1.ext hT1 (((((((E19.trans Ex).trans E14).trans E33).trans E34).trans E35).trans E36).trans E37) (by omega); have szE43 := E43.size
            have E44 := M1.ext hT1 ((((((Ex.trans E14).trans E33).trans E34).trans E35).trans E36).trans E37) (by omega); have szE44 := E44.size
            have E45 := M1.ext hT1 ((((((E21.trans E14).trans E33).trans E34).trans E35).trans E36).trans E37) (by omega); have szE45 := E45.size; have E46 := M1.ext hT1 (((((E14.trans E33).trans E34).trans E35).trans E36).trans E37) (by omega)
            have szE46 := E46.size; have hB := (hB.ext ((((E33.trans E34).trans E35).trans E36).trans E37)).moves M1 hT1 (by omega); have B7 := (B7.ext (((((E14.trans E33).trans E34).trans E35).trans E36).trans E37)).moves M1 hT1 (by omega)
            have B8 := (B8.ext (((((E14.trans E33).trans E34).trans E35).trans E36).trans E37)).moves M1 hT1 (by omega); have hB7 := (hB7.ext E37).moves M1 hT1 (by omega); have hLb10 := (hLb10.toB.ext E37).moves M1 hT1 (by omega)
            have hB8 := hB8.moves M1 hT1 (by omega); have hLb11 := hLb11.toB.moves M1 hT1 (by omega); have hs17 := E38.size; have szM1 := M1.1.size; have icv3 := OwnedB.isC (Owned.toB hO); refine Wo_nil ?_; refine ⟨E46, ?_⟩
            refine Wh_take 12 rfl (by kernel_rfl) (by kernel_rfl) rfl (fun _ _ => opv_fieldAddr Try.underlying25 rfl rfl Try.sizeOf23 rfl) E46 ?_; refine Wh_all (rs := [13]) (by kernel_rfl) rfl ?_; refine WhAll_cons rfl ?_ ?_
            refine Wo_st (v := v3) rfl Try.sizeOf23 rfl rfl (OwnedB.isC hO.toB) hB (by simp) (by omega) E38 ?_; rintro w21 E47 hB K5 hz5; have E48 := E39.wroteAt E38 E47 K5 hz5 (by omega); have szE48 := E48.size
            have E49 := E40.wroteAt E38 E47 K5 hz5 (by omega); have szE49 := E49.size; have E50 := E41.wroteAt E38 E47 K5 hz5 (by omega); have szE50 := E50.size; have E51 := E42.wroteAt E38 E47 K5 hz5 (by omega); have szE51 := E51.size
            have E52 := E43.wroteAt E38 E47 K5 hz5 (by omega); have szE52 := E52.size; have E53 := E44.wroteAt E38 E47 K5 hz5 (by omega); have szE53 := E53.size; have E54 := E45.wroteAt E38 E47 K5 hz5 (by omega); have szE54 := E54.size
            have E55 := E46.wroteAt E38 E47 K5 hz5 (by omega); have szE55 := E55.size; simp only [List.set] at hB; have hO := hO.toB.wrote K5 (by omega); have B7 := B7.of_heap (K5 _ (by omega)); have B8 := B8.of_heap (K5 _ (by omega))
            have hB7 := hB7.of_heap (K5 _ (by omega)); have hLb10 := hLb10.wrote K5 (by omega); have hB8 := hB8.of_heap (K5 _ (by omega)); have hLb11 := hLb11.wrote K5 (by omega); refine Wo_nil ?_; refine ⟨E55, ?_⟩
            refine Wh_done (by kernel_rfl) ?_; refine W_region rfl ?_; refine Wo rfl (opv_move (v := .int _ _) rfl) ?_; refine Wo rfl (opv_add rfl rfl (by omega)) ?_; refine Wo rfl (opv_assign (v := .int _ _) rfl) ?_; refine Wo_nil ?_
            rotate_left; exact WhAll_nil; exact WhAll_nil; exact WhAll_nil; exact WhAll_nil; refine WhAll_cons rfl ?_ ?_; refine Wo (v := .int _ _) rfl (opv_load Try.isAgg3 rfl (hB7.cell rfl)) ?_; refine Wo_nil ?_
            refine ⟨((((E14.trans E33).trans E34).trans E35).trans E36), ?_⟩; refine Wh_all (rs := [1, 10]) (by kernel_rfl) rfl ?_; refine WhAll_cons rfl ?_ ?_
            refine Wo (v := o) rfl (opv_load Try.isAgg23 rfl ((hB.ext (((E33.trans E34).trans E35).trans E36)).cell rfl)) ?_; refine Wo_nil ?_; refine ⟨((((E14.trans E33).trans E34).trans E35).trans E36), ?_⟩
            refine Wh_all (rs := [10]) (by kernel_rfl) rfl ?_; refine WhAll_cons rfl ?_ ?_; refine Wo_buildSliceH (ps := [(0, .int _ _)]) (cs := [_]) rfl Try.underlying23 Try.sizeOf3 Try.zeroValue3 rfl rfl rfl rfl ?_
            rintro b11 w19 hb8 E37 hB8 hHb11; have hlb11 := hB8.lt; have hLb11 := own_lit1 hHb11 hb8; clear hHb11; have hs16 := E37.size; refine Wo_nil ?_; refine ⟨(((((E14.trans E33).trans E34).trans E35).trans E36).trans E37), ?_⟩
            refine Wh_all (rs := [11]) (by kernel_rfl) rfl ?_; refine WhAll_cons rfl ?_ ?_
            refine Wo_app1 rfl el23 rfl rfl hB8 (hO.toB.ext ((((E33.trans E34).trans E35).trans E36).trans E37)) Owned.int (Nat.le_refl _) (by first | omega | (simp <;> omega)) (by omega) (by omega) ((((((Ew.trans E14).trans E33).trans E34).trans E35).trans E36).trans E37) (by omega) ?_
            have hT1 := (hO.toB.ext ((((E33.trans E34).trans E35).trans E36).trans E37)); rintro v3 w20 hO E38 M1; have E39 := M1.ext hT1 (((((((E15.trans Ex).trans E14).trans E33).trans E34).trans E35).trans E36).trans E37) (by omega)
            have szE39 := E39.size; have E40 := M1.ext hT1 (((((((E16.trans Ex).trans E14).trans E33).trans E34).trans E35).trans E36).trans E37) (by omega); have szE40 := E40.size
            have E41 := M1.ext hT1 (((((((E17.trans Ex).trans E14).trans E33).trans E34).trans E35).trans E36).trans E37) (by omega); have szE41 := E41.size
            have E42 := M1.ext hT1 (((((((E18.trans Ex).trans E14).trans E33).trans E34).trans E35).trans E36).trans E37) (by omega); have szE42 := E42.size
            have E43 := M1.ext hT1 (((((((E19.trans Ex).trans E14).trans E33).trans E34).trans E35).trans E36).trans E37) (by omega); have szE43 := E43.size
            have E44 := M1.ext hT1 ((((((Ex.trans E14).trans E33).trans E34).trans E35).trans E36).trans E37) (by omega); have szE44 := E44.size
            have E45 := M1.ext hT1 ((((((E21.trans E14).trans E33).trans E34).trans E35).trans E36).trans E37) (by omega); have szE45 := E45.size; have E46 := M1.ext hT1 (((((E14.trans E33).trans E34).trans E35).trans E36).trans E37) (by omega)
            have szE46 := E46.size; have hB := (hB.ext ((((E33.trans E34).trans E35).trans E36).trans E37)).moves M1 hT1 (by omega); have B7 := (B7.ext (((((E14.trans E33).trans E34).trans E35).trans E36).trans E37)).moves M1 hT1 (by omega)
            have B8 := (B8.ext (((((E14.trans E33).trans E34).trans E35).trans E36).trans E37)).moves M1 hT1 (by omega); have hB7 := (hB7.ext E37).moves M1 hT1 (by omega); have hLb10 := (hLb10.toB.ext E37).moves M1 hT1 (by omega)
            have hB8 := hB8.moves M1 hT1 (by omega); have hLb11 := hLb11.toB.moves M1 hT1 (by omega); have hs17 := E38.size; have szM1 := M1.1.size; have icv3 := OwnedB.isC (Owned.toB hO); refine Wo_nil ?_; refine ⟨E46, ?_⟩
            refine Wh_take 12 rfl (by kernel_rfl) (by kernel_rfl) rfl (fun _ _ => opv_fieldAddr Try.underlying25 rfl rfl Try.sizeOf23 rfl) E46 ?_; refine Wh_all (rs := [13]) (by kernel_rfl) rfl ?_; refine WhAll_cons rfl ?_ ?_
            refine Wo_st (v := v3) rfl Try.sizeOf23 rfl rfl (OwnedB.isC hO.toB) hB (by simp) (by omega) E38 ?_; rintro w21 E47 hB K5 hz5; have E48 := E39.wroteAt E38 E47 K5 hz5 (by omega); have szE48 := E48.size
            have E49 := E40.wroteAt E38 E47 K5 hz5 (by omega); have szE49 := E49.size; have E50 := E41.wroteAt E38 E47 K5 hz5 (by omega); have szE50 := E50.size; have E51 := E42.wroteAt E38 E47 K5 hz5 (by omega); have szE51 := E51.size
            have E52 := E43.wroteAt E38 E47 K5 hz5 (by omega); have szE52 := E52.size; have E53 := E44.wroteAt E38 E47 K5 hz5 (by omega); have szE53 := E53.size; have E54 := E45.wroteAt E38 E47 K5 hz5 (by omega); have szE54 := E54.size
            have E55 := E46.wroteAt E38 E47 K5 hz5 (by omega); have szE55 := E55.size; simp only [List.set] at hB; have hO := hO.toB.wrote K5 (by omega); have B7 := B7.of_heap (K5 _ (by omega)); have B8 := B8.of_heap (K5 _ (by omega))
            have hB7 := hB7.of_heap (K5 _ (by omega)); have hLb10 := hLb10.wrote K5 (by omega); have hB8 := hB8.of_heap (K5 _ (by omega)); have hLb11 := hLb11.wrote K5 (by omega); refine Wo_nil ?_; refine ⟨E55, ?_⟩
            refine Wh_done (by kernel_rfl) ?_; refine W_region rfl ?_; refine Wo rfl (opv_move (v := .int _ _) rfl) ?_; refine Wo rfl (opv_add rfl rfl (by omega)) ?_; refine Wo rfl (opv_assign (v := .int _ _) rfl) ?_; refine Wo_nil ?_
            rotate_left; exact WhAll_nil; exact WhAll_nil; exact WhAll_nil; refine WhAll_cons rfl ?_ ?_; refine Wo_buildSliceH (ps := [(0, .int _ _)]) (cs := [_]) rfl Try.underlying23 Try.sizeOf3 Try.zeroValue3 rfl rfl rfl rfl ?_
            rintro b11 w19 hb8 E37 hB8 hHb11; have hlb11 := hB8.lt; have hLb11 := own_lit1 hHb11 hb8; clear hHb11; have hs16 := E37.size; refine Wo_nil ?_; refine ⟨(((((E14.trans E33).trans E34).trans E35).trans E36).trans E37), ?_⟩
            refine Wh_all (rs := [1]) (by kernel_rfl) rfl ?_; refine WhAll_cons rfl ?_ ?_; refine Wo (v := o) rfl (opv_load Try.isAgg23 rfl ((hB.ext ((((E33.trans E34).trans E35).trans E36).trans E37)).cell rfl)) ?_; refine Wo_nil ?_
            refine ⟨(((((E14.trans E33).trans E34).trans E35).trans E36).trans E37), ?_⟩; refine Wh_all (rs := [11]) (by kernel_rfl) rfl ?_; refine WhAll_cons rfl ?_ ?_
            refine Wo_app1 rfl el23 rfl rfl hB8 (hO.toB.ext ((((E33.trans E34).trans E35).trans E36).trans E37)) Owned.int (Nat.le_refl _) (by first | omega | (simp <;> omega)) (by omega) (by omega) ((((((Ew.trans E14).trans E33).trans E34).trans E35).trans E36).trans E37) (by omega) ?_
            have hT1 := (hO.toB.ext ((((E33.trans E34).trans E35).trans E36).trans E37)); rintro v3 w20 hO E38 M1; have E39 := M1.ext hT1 (((((((E15.trans Ex).trans E14).trans E33).trans E34).trans E35).trans E36).trans E37) (by omega)
            have szE39 := E39.size; have E40 := M1.ext hT1 (((((((E16.trans Ex).trans E14).trans E33).trans E34).trans E35).trans E36).trans E37) (by omega); have szE40 := E40.size
            have E41 := M1.ext hT1 (((((((E17.trans Ex).trans E14).trans E33).trans E34).trans E35).trans E36).trans E37) (by omega); have szE41 := E41.size
            have E42 := M1.ext hT1 (((((((E18.trans Ex).trans E14).trans E33).trans E34).trans E35).trans E36).trans E37) (by omega); have szE42 := E42.size
            have E43 := M1.ext hT1 (((((((E19.trans Ex).trans E14).trans E33).trans E34).trans E35).trans E36).trans E37) (by omega); have szE43 := E43.size
            have E44 := M1.ext hT1 ((((((Ex.trans E14).trans E33).trans E34).trans E35).trans E36).trans E37) (by omega); have szE44 := E44.size
            have E45 := M1.ext hT1 ((((((E21.trans E14).trans E33).trans E34).trans E35).trans E36).trans E37) (by omega); have szE45 := E45.size; have E46 := M1.ext hT1 (((((E14.trans E33).trans E34).trans E35).trans E36).trans E37) (by omega)
            have szE46 := E46.size; have hB := (hB.ext ((((E33.trans E34).trans E35).trans E36).trans E37)).moves M1 hT1 (by omega); have B7 := (B7.ext (((((E14.trans E33).trans E34).trans E35).trans E36).trans E37)).moves M1 hT1 (by omega)
            have B8 := (B8.ext (((((E14.trans E33).trans E34).trans E35).trans E36).trans E37)).moves M1 hT1 (by omega); have hB7 := (hB7.ext E37).moves M1 hT1 (by omega); have hLb10 := (hLb10.toB.ext E37).moves M1 hT1 (by omega)
            have hB8 := hB8.moves M1 hT1 (by omega); have hLb11 := hLb11.toB.moves M1 hT1 (by omega); have hs17 := E38.size; have szM1 := M1.1.size; have icv3 := OwnedB.isC (Owned.toB hO); refine Wo_nil ?_; refine ⟨E46, ?_⟩
            refine Wh_take 12 rfl (by kernel_rfl) (by kernel_rfl) rfl (fun _ _ => opv_fieldAddr Try.underlying25 rfl rfl Try.sizeOf23 rfl) E46 ?_; refine Wh_all (rs := [13]) (by kernel_rfl) rfl ?_; refine WhAll_cons rfl ?_ ?_
            refine Wo_st (v := v3) rfl Try.sizeOf23 rfl rfl (OwnedB.isC hO.toB) hB (by simp) (by omega) E38 ?_; rintro w21 E47 hB K5 hz5; have E48 := E39.wroteAt E38 E47 K5 hz5 (by omega); have szE48 := E48.size
            have E49 := E40.wroteAt E38 E47 K5 hz5 (by omega); have szE49 := E49.size; have E50 := E41.wroteAt E38 E47 K5 hz5 (by omega); have szE50 := E50.size; have E51 := E42.wroteAt E38 E47 K5 hz5 (by omega); have szE51 := E51.size
            have E52 := E43.wroteAt E38 E47 K5 hz5 (by omega); have szE52 := E52.size; have E53 := E44.wroteAt E38 E47 K5 hz5 (by omega); have szE53 := E53.size; have E54 := E45.wroteAt E38 E47 K5 hz5 (by omega); have szE54 := E54.size
            have E55 := E46.wroteAt E38 E47 K5 hz5 (by omega); have szE55 := E55.size; simp only [List.set] at hB; have hO := hO.toB.wrote K5 (by omega); have B7 := B7.of_heap (K5 _ (by omega)); have B8 := B8.of_heap (K5 _ (by omega))
            have hB7 := hB7.of_heap (K5 _ (by omega)); have hLb10 := hLb10.wrote K5 (by omega); have hB8 := hB8.of_heap (K5 _ (by omega)); have hLb11 := hLb11.wrote K5 (by omega); refine Wo_nil ?_; refine ⟨E55, ?_⟩
            refine Wh_done (by kernel_rfl) ?_; refine W_region rfl ?_; refine Wo rfl (opv_move (v := .int _ _) rfl) ?_; refine Wo rfl (opv_add rfl rfl (by omega)) ?_; refine Wo rfl (opv_assign (v := .int _ _) rfl) ?_; refine Wo_nil ?_
            rotate_left; exact WhAll_nil; exact WhAll_nil; exact WhAll_nil; exact WhAll_nil; exact WhAll_nil; exact WhAll_nil; exact WhAll_nil; exact WhAll_nil; contradiction
          all_goals
            refine ⟨(1, v3), by repeat (first | exact trivial | refine And.intro rfl ?_), by repeat (first | with_reducible exact Same.refl | refine Same.upd rfl ?_ | refine Same.upds rfl ?_ | refine Same.mix rfl ?_), ?_, by simp⟩
            exact ⟨by assumption, by omega, .inr (.inl rfl), by assumption, OwnedB.o ((win_succ (f := lay f g) (a := 0) (p := 0)).symm ▸ hO)⟩
        · have B7 := P7.2
          have B8 := P8.2
          focus
            have szE14 := E14.size; have szE32 := E32.size; have szE31 := E31.size; have szE30 := E30.size; have szE29 := E29.size; have szE28 := E28.size; have szE27 := E27.size; have szE26 := E26.size; have szE25 := E25.size
            have szE24 := E24.size; have szE23 := E23.size; have szE22 := E22.size; have szEw := Ew.size; have szEx := Ex.size; have szE21 := E21.size; have szE20 := E20.size; have szE19 := E19.size; have szE18 := E18.size
            have szE17 := E17.size; have szE16 := E16.size; have szE15 := E15.size; have szE14 := E14.size; have szE13 := E13.size; have szE12 := E12.size; have szE11 := E11.size; have szE10 := E10.size; have szE9 := E9.size
            have szE8 := E8.size; have szE7 := E7.size; have szE6 := E6.size; have szE5 := E5.size; have szE4 := E4.size; have szE3 := E3.size; have szE2 := E2.size; have szE1 := E1.size; refine W_seq ?_; refine W_seq ?_; refine W_region rfl ?_
            refine Wo rfl (opv_move (v := .int _ _) rfl) ?_; refine Wo rfl (opv_lss rfl rfl) ?_; refine Wo_nil ?_; refine W_cond_dec rfl (fun h10 => ?_) (fun h10 => ?_); refine W_skip ?_; refine W_seq ?_; refine W_block ?_
            refine W_held (fun w' => Ext w11 w') mixed rfl (by kernel_rfl) ?_; intro w15 E33 K4 hz4; have hs11 := E33.size
            refine Wh_take 0 rfl (by kernel_rfl) (by kernel_rfl) rfl (fun _ _ => opv_fieldAddr Try.underlying25 rfl rfl Try.sizeOf23 rfl) (E14.trans E33) ?_
            refine Wh_take (v := .agg _) 2 rfl (by kernel_rfl) (by kernel_rfl) rfl (fun w' hw' => opv_load2 Try.isAgg25 Try.sizeOf25 rfl (B7.ext hw')) (E14.trans E33) ?_
            refine Wh_take (v := .agg _) 4 rfl (by kernel_rfl) (by kernel_rfl) rfl (fun w' hw' => opv_load2 Try.isAgg25 Try.sizeOf25 rfl (B8.ext hw')) (E14.trans E33) ?_
            refine Wh_take 7 rfl (by kernel_rfl) (by kernel_rfl) rfl (fun _ _ => opv_move (v := .int _ _) rfl) (E14.trans E33) ?_; refine Wh_all (rs := [1, 3]) (by kernel_rfl) rfl ?_; refine WhAll_cons rfl ?_ ?_
            refine Wo (v := o) rfl (opv_load Try.isAgg23 rfl ((hB.ext E33).cell rfl)) ?_; refine Wo_nil ?_; refine ⟨(E14.trans E33), ?_⟩; refine Wh_all (rs := [3]) (by kernel_rfl) rfl ?_; refine WhAll_cons rfl ?_ ?_
            refine Wo_call rfl (opc2 (a := .agg _) (b := .int _ _) Try.call57 rfl rfl) (b1 _ _ _ _ ((Mono.mono (E14.trans E33) r1)) ((Mono.mono (E14.trans E33) r2)) (by omega)) ?_; rintro _ w16 ⟨rfl, E34⟩; have hs12 := E34.size
            refine Wo_nil ?_; refine ⟨((E14.trans E33).trans E34), ?_⟩; refine Wh_all (rs := [5]) (by kernel_rfl) rfl ?_; refine WhAll_cons rfl ?_ ?_
            refine Wo_call rfl (opc2 (a := .agg _) (b := .int _ _) Try.call57 rfl rfl) (b2 _ _ _ _ ((Mono.mono ((E14.trans E33).trans E34) r3)) ((Mono.mono ((E14.trans E33).trans E34) r4)) (by omega)) ?_; rintro _ w17 ⟨rfl, E35⟩
            have hs13 := E35.size; refine Wo_nil ?_; refine ⟨(((E14.trans E33).trans E34).trans E35), ?_⟩; refine Wh_all (rs := [6]) (by kernel_rfl) rfl ?_; refine WhAll_cons rfl ?_ ?_
            refine Wo_buildSliceH (ps := [(0, .int _ _), (1, .int _ _)]) (cs := [_, _]) rfl Try.underlying23 Try.sizeOf3 Try.zeroValue3 rfl rfl rfl rfl ?_; rintro b10 w18 hb7 E36 hB7 hHb10; have hlb10 := hB7.lt; have hLb10 := own_lit2 hHb10 hb7
            clear hHb10; have hs15 := E36.size; refine Wo_nil ?_; refine ⟨((((E14.trans E33).trans E34).trans E35).trans E36), ?_⟩
            refine Wh_take 8 rfl (by kernel_rfl) (by kernel_rfl) rfl (fun _ _ => opv_indexAddr (k := 1) Try.underlying23 Try.sizeOf3 rfl rfl (by omega)) ((((E14.trans E33).trans E34).trans E35).trans E36) ?_
            refine Wh_all (rs := [9]) (by kernel_rfl) rfl ?_; refine WhAll_cons rfl ?_ ?_; refine Wo (v := .int _ _) rfl (opv_load Try.isAgg3 rfl (hB7.cell rfl)) ?_; refine Wo_nil ?_
            refine ⟨((((E14.trans E33).trans E34).trans E35).trans E36), ?_⟩; refine Wh_all (rs := [10]) (by kernel_rfl) rfl ?_; refine WhAll_cons rfl ?_ ?_
            refine Wo_buildSliceH (ps := [(0, .int _ _)]) (cs := [_]) rfl Try.underlying23 Try.sizeOf3 Try.zeroValue3 rfl rfl rfl rfl ?_; rintro b11 w19 hb8 E37 hB8 hHb11; have hlb11 := hB8.lt; have hLb11 := own_lit1 hHb11 hb8; clear hHb11
            have hs16 := E37.size; refine Wo_nil ?_; refine ⟨(((((E14.trans E33).trans E34).trans E35).trans E36).trans E37), ?_⟩; refine Wh_all (rs := [11]) (by kernel_rfl) rfl ?_; refine WhAll_cons rfl ?_ ?_
            refine Wo_app1 rfl el23 rfl rfl hB8 (hO.toB.ext ((((E33.trans E34).trans E35).trans E36).trans E37)) Owned.int (Nat.le_refl _) (by first | omega | (simp <;> omega)) (by omega) (by omega) ((((((Ew.trans E14).trans E33).trans E34).trans E35).trans E36).trans E37) (by omega) ?_
            have hT1 := (hO.toB.ext ((((E33.trans E34).trans E35).trans E36).trans E37)); rintro v3 w20 hO E38 M1; have E39 := M1.ext hT1 (((((((E15.trans Ex).trans E14).trans E33).trans E34).trans E35).trans E36).trans E37) (by omega)
            have szE39 := E39.size; have E40 := M1.ext hT1 (((((((E16.trans Ex).trans E14).trans E33).trans E34).trans E35).trans E36).trans E37) (by omega); have szE40 := E40.size
            have E41 := M1.ext hT1 (((((((E17.trans Ex).trans E14).trans E33).trans E34).trans E35).trans E36).trans E37) (by omega); have szE41 := E41.size
            have E42 := M1.ext hT1 (((((((E18.trans Ex).trans E14).trans E33).trans E34).trans E35).trans E36).trans E37) (by omega); have szE42 := E42.size
            have E43 := M1.ext hT1 (((((((E19.trans Ex).trans E14).trans E33).trans E34).trans E35).trans E36).trans E37) (by omega); have szE43 := E43.size
            have E44 := M1.ext hT1 ((((((Ex.trans E14).trans E33).trans E34).trans E35).trans E36).trans E37) (by omega); have szE44 := E44.size
            have E45 := M1.ext hT1 ((((((E21.trans E14).trans E33).trans E34).trans E35).trans E36).trans E37) (by omega); have szE45 := E45.size; have E46 := M1.ext hT1 (((((E14.trans E33).trans E34).trans E35).trans E36).trans E37) (by omega)
            have szE46 := E46.size; have hB := (hB.ext ((((E33.trans E34).trans E35).trans E36).trans E37)).moves M1 hT1 (by omega); have B7 := (B7.ext (((((E14.trans E33).trans E34).trans E35).trans E36).trans E37)).moves M1 hT1 (by omega)
            have B8 := (B8.ext (((((E14.trans E33).trans E34).trans E35).trans E36).trans E37)).moves M1 hT1 (by omega); have hB7 := (hB7.ext E37).moves M1 hT1 (by omega); have hLb10 := (hLb10.toB.ext E37).moves M1 hT1 (by omega)
            have hB8 := hB8.moves M1 hT1 (by omega); have hLb11 := hLb11.toB.moves M1 hT1 (by omega); have hs17 := E38.size; have szM1 := M1.1.size; have icv3 := OwnedB.isC (Owned.toB hO); refine Wo_nil ?_; refine ⟨E46, ?_⟩
            refine Wh_take 12 rfl (by kernel_rfl) (by kernel_rfl) rfl (fun _ _ => opv_fieldAddr Try.underlying25 rfl rfl Try.sizeOf23 rfl) E46 ?_; refine Wh_all (rs := [13]) (by kernel_rfl) rfl ?_; refine WhAll_cons rfl ?_ ?_
            refine Wo_st (v := v3) rfl Try.sizeOf23 rfl rfl (OwnedB.isC hO.toB) hB (by simp) (by omega) E38 ?_; rintro w21 E47 hB K5 hz5; have E48 := E39.wroteAt E38 E47 K5 hz5 (by omega); have szE48 := E48.size
            have E49 := E40.wroteAt E38 E47 K5 hz5 (by omega); have szE49 := E49.size; have E50 := E41.wroteAt E38 E47 K5 hz5 (by omega); have szE50 := E50.size; have E51 := E42.wroteAt E38 E47 K5 hz5 (by omega); have szE51 := E51.size
            have E52 := E43.wroteAt E38 E47 K5 hz5 (by omega); have szE52 := E52.size; have E53 := E44.wroteAt E38 E47 K5 hz5 (by omega); have szE53 := E53.size; have E54 := E45.wroteAt E38 E47 K5 hz5 (by omega); have szE54 := E54.size
            have E55 := E46.wroteAt E38 E47 K5 hz5 (by omega); have szE55 := E55.size; simp only [List.set] at hB; have hO := hO.toB.wrote K5 (by omega); have B7 := B7.of_heap (K5 _ (by omega)); have B8 := B8.of_heap (K5 _ (by omega))
            have hB7 := hB7.of_heap (K5 _ (by omega)); have hLb10 := hLb10.wrote K5 (by omega); have hB8 := hB8.of_heap (K5 _ (by omega)); have hLb11 := hLb11.wrote K5 (by omega); refine Wo_nil ?_; refine ⟨E55, ?_⟩
            refine Wh_done (by kernel_rfl) ?_; refine W_region rfl ?_; refine Wo rfl (opv_move (v := .int _ _) rfl) ?_; refine Wo rfl (opv_add rfl rfl (by omega)) ?_; refine Wo rfl (opv_assign (v := .int _ _) rfl) ?_; refine Wo_nil ?_
            rotate_left; exact WhAll_nil; exact WhAll_nil; exact WhAll_nil; exact WhAll_nil; exact WhAll_nil; exact WhAll_nil; exact WhAll_nil; refine WhAll_cons rfl ?_ ?_
            refine Wo_call rfl (opc2 (a := .agg _) (b := .int _ _) Try.call57 rfl rfl) (b1 _ _ _ _ ((Mono.mono (E14.trans E33) r1)) ((Mono.mono (E14.trans E33) r2)) (by omega)) ?_; rintro _ w16 ⟨rfl, E34⟩; have hs12 := E34.size
            refine Wo_nil ?_; refine ⟨((E14.trans E33).trans E34), ?_⟩; refine Wh_all (rs := [1, 5]) (by kernel_rfl) rfl ?_; refine WhAll_cons rfl ?_ ?_; refine Wo (v := o) rfl (opv_load Try.isAgg23 rfl ((hB.ext (E33.trans E34)).cell rfl)) ?_
            refine Wo_nil ?_; refine ⟨((E14.trans E33).trans E34), ?_⟩; refine Wh_all (rs := [5]) (by kernel_rfl) rfl ?_; refine WhAll_cons rfl ?_ ?_
            refine Wo_call rfl (opc2 (a := .agg _) (b := .int _ _) Try.call57 rfl rfl) (b2 _ _ _ _ ((Mono.mono ((E14.trans E33).trans E34) r3)) ((Mono.mono ((E14.trans E33).trans E34) r4)) (by omega)) ?_; rintro _ w17 ⟨rfl, E35⟩
            have hs13 := E35.size; refine Wo_nil ?_; refine ⟨(((E14.trans E33).trans E34).trans E35), ?_⟩; refine Wh_all (rs := [6]) (by kernel_rfl) rfl ?_; refine WhAll_cons rfl ?_ ?_
            refine Wo_buildSliceH (ps := [(0, .int _ _), (1, .int _ _)]) (cs := [_, _]) rfl Try.underlying23 Try.sizeOf3 Try.zeroValue3 rfl rfl rfl rfl ?_; rintro b10 w18 hb7 E36 hB7 hHb10; have hlb10 := hB7.lt; have hLb10 := own_lit2 hHb10 hb7
            clear hHb10; have hs15 := E36.size; refine Wo_nil ?_; refine ⟨((((E14.trans E33).trans E34).trans E35).trans E36), ?_⟩
            refine Wh_take 8 rfl (by kernel_rfl) (by kernel_rfl) rfl (fun _ _ => opv_indexAddr (k := 1) Try.underlying23 Try.sizeOf3 rfl rfl (by omega)) ((((E14.trans E33).trans E34).trans E35).trans E36) ?_
            refine Wh_all (rs := [9]) (by kernel_rfl) rfl ?_; refine WhAll_cons rfl ?_ ?_; refine Wo (v := .int _ _) rfl (opv_load Try.isAgg3 rfl (hB7.cell rfl)) ?_; refine Wo_nil ?_
            refine ⟨((((E14.trans E33).trans E34).trans E35).trans E36), ?_⟩; refine Wh_all (rs := [10]) (by kernel_rfl) rfl ?_; refine WhAll_cons rfl ?_ ?_
            refine Wo_buildSliceH (ps := [(0, .int _ _)]) (cs := [_]) rfl Try.underlying23 Try.sizeOf3 Try.zeroValue3 rfl rfl rfl rfl ?_; rintro b11 w19 hb8 E37 hB8 hHb11; have hlb11 := hB8.lt; have hLb11 := own_lit1 hHb11 hb8; clear hHb11
            have hs16 := E37.size; refine Wo_nil ?_; refine ⟨(((((E14.trans E33).trans E34).trans E35).trans E36).trans E37), ?_⟩; refine Wh_all (rs := [11]) (by kernel_rfl) rfl ?_; refine WhAll_cons rfl ?_ ?_
            refine Wo_app1 rfl el23 rfl rfl hB8 (hO.toB.ext ((((E33.trans E34).trans E35).trans E36).trans E37)) Owned.int (Nat.le_refl _) (by first | omega | (simp <;> omega)) (by omega) (by omega) ((((((Ew.trans E14).trans E33).trans E34).trans E35).trans E36).trans E37) (by omega) ?_
            have hT1 := (hO.toB.ext ((((E33.trans E34).trans E35).trans E36).trans E37)); rintro v3 w20 hO E38 M1; have E39 := M1.ext hT1 (((((((E15.trans Ex).trans E14).trans E33).trans E34).trans E35).trans E36).trans E37) (by omega)
            have szE39 := E39.size; have E40 := M1.ext hT1 (((((((E16.trans Ex).trans E14).trans E33).trans E34).trans E35).trans E36).trans E37) (by omega); have szE40 := E40.size
            have E41 := M1.ext hT1 (((((((E17.trans Ex).trans E14).trans E33).trans E34).trans E35).trans E36).trans E37) (by omega); have szE41 := E41.size
            have E42 := M1.ext hT1 (((((((E18.trans Ex).trans E14).trans E33).trans E34).trans E35).trans E36).trans E37) (by omega); have szE42 := E42.size
            have E43 := M1.ext hT1 (((((((E19.trans Ex).trans E14).trans E33).trans E34).trans E35).trans E36).trans E37) (by omega); have szE43 := E43.size
            have E44 := M1.ext hT1 ((((((Ex.trans E14).trans E33).trans E34).trans E35).trans E36).trans E37) (by omega); have szE44 := E44.size
            have E45 := M1.ext hT1 ((((((E21.trans E14).trans E33).trans E34).trans E35).trans E36).trans E37) (by omega); have szE45 := E45.size; have E46 := M1.ext hT1 (((((E14.trans E33).trans E34).trans E35).trans E36).trans E37) (by omega)
            have szE46 := E46.size; have hB := (hB.ext ((((E33.trans E34).trans E35).trans E36).trans E37)).moves M1 hT1 (by omega); have B7 := (B7.ext (((((E14.trans E33).trans E34).trans E35).trans E36).trans E37)).moves M1 hT1 (by omega)
            have B8 := (B8.ext (((((E14.trans E33).trans E34).trans E35).trans E36).trans E37)).moves M1 hT1 (by omega); have hB7 := (hB7.ext E37).moves M1 hT1 (by omega); have hLb10 := (hLb10.toB.ext E37).moves M1 hT1 (by omega)
            have hB8 := hB8.moves M1 hT1 (by omega); have hLb11 := hLb11.toB.moves M1 hT1 (by omega); have hs17 := E38.size; have szM1 := M1.1.size; have icv3 := OwnedB.isC (Owned.toB hO); refine Wo_nil ?_; refine ⟨E46, ?_⟩
            refine Wh_take 12 rfl (by kernel_rfl) (by kernel_rfl) rfl (fun _ _ => opv_fieldAddr Try.underlying25 rfl rfl Try.sizeOf23 rfl) E46 ?_; refine Wh_all (rs := [13]) (by kernel_rfl) rfl ?_; refine WhAll_cons rfl ?_ ?_
            refine Wo_st (v := v3) rfl Try.sizeOf23 rfl rfl (OwnedB.isC hO.toB) hB (by simp) (by omega) E38 ?_; rintro w21 E47 hB K5 hz5; have E48 := E39.wroteAt E38 E47 K5 hz5 (by omega); have szE48 := E48.size
            have E49 := E40.wroteAt E38 E47 K5 hz5 (by omega); have szE49 := E49.size; have E50 := E41.wroteAt E38 E47 K5 hz5 (by omega); have szE50 := E50.size; have E51 := E42.wroteAt E38 E47 K5 hz5 (by omega); have szE51 := E51.size
            have E52 := E43.wroteAt E38 E47 K5 hz5 (by omega); have szE52 := E52.size; have E53 := E44.wroteAt E38 E47 K5 hz5 (by omega); have szE53 := E53.size; have E54 := E45.wroteAt E38 E47 K5 hz5 (by omega); have szE54 := E54.size
            have E55 := E46.wroteAt E38 E47 K5 hz5 (by omega); have szE55 := E55.size; simp only [List.set] at hB; have hO := hO.toB.wrote K5 (by omega); have B7 := B7.of_heap (K5 _ (by omega)); have B8 := B8.of_heap (K5 _ (by omega))
            have hB7 := hB7.of_heap (K5 _ (by omega)); have hLb10 := hLb10.wrote K5 (by omega); have hB8 := hB8.of_heap (K5 _ (by omega)); have hLb11 := hLb11.wrote K5 (by omega); refine Wo_nil ?_; refine ⟨E55, ?_⟩
            refine Wh_done (by kernel_rfl) ?_; refine W_region rfl ?_; refine Wo rfl (opv_move (v := .int _ _) rfl) ?_; refine Wo rfl (opv_add rfl rfl (by omega)) ?_; refine Wo rfl (opv_assign (v := .int _ _) rfl) ?_; refine Wo_nil ?_
            rotate_left; exact WhAll_nil; exact WhAll_nil; exact WhAll_nil; exact WhAll_nil; exact WhAll_nil; exact WhAll_nil; refine WhAll_cons rfl ?_ ?_
            refine Wo_call rfl (opc2 (a := .agg _) (b := .int _ _) Try.call57 rfl rfl) (b2 _ _ _ _ ((Mono.mono ((E14.trans E33).trans E34) r3)) ((Mono.mono ((E14.trans E33).trans E34) r4)) (by omega)) ?_; rintro _ w17 ⟨rfl, E35⟩
            have hs13 := E35.size; refine Wo_nil ?_; refine ⟨(((E14.trans E33).trans E34).trans E35), ?_⟩; refine Wh_all (rs := [1, 6]) (by kernel_rfl) rfl ?_; refine WhAll_cons rfl ?_ ?_
            refine Wo (v := o) rfl (opv_load Try.isAgg23 rfl ((hB.ext ((E33.trans E34).trans E35)).cell rfl)) ?_; refine Wo_nil ?_; refine ⟨(((E14.trans E33).trans E34).trans E35), ?_⟩; refine Wh_all (rs := [6]) (by kernel_rfl) rfl ?_
            refine WhAll_cons rfl ?_ ?_; refine Wo_buildSliceH (ps := [(0, .int _ _), (1, .int _ _)]) (cs := [_, _]) rfl Try.underlying23 Try.sizeOf3 Try.zeroValue3 rfl rfl rfl rfl ?_; rintro b10 w18 hb7 E36 hB7 hHb10; have hlb10 := hB7.lt
            have hLb10 := own_lit2 hHb10 hb7; clear hHb10; have hs15 := E36.size; refine Wo_nil ?_; refine ⟨((((E14.trans E33).trans E34).trans E35).trans E36), ?_⟩
            refine Wh_take 8 rfl (by kernel_rfl) (by kernel_rfl) rfl (fun _ _ => opv_indexAddr (k := 1) Try.underlying23 Try.sizeOf3 rfl rfl (by omega)) ((((E14.trans E33).trans E34).trans E35).trans E36) ?_
            refine Wh_all (rs := [9]) (by kernel_rfl) rfl ?_; refine WhAll_cons rfl ?_ ?_; refine Wo (v := .int _ _) rfl (opv_load Try.isAgg3 rfl (hB7.cell rfl)) ?_; refine Wo_nil ?_
            refine ⟨((((E14.trans E33).trans E34).trans E35).trans E36), ?_⟩; refine Wh_all (rs := [10]) (by kernel_rfl) rfl ?_; refine WhAll_cons rfl ?_ ?_
            refine Wo_buildSliceH (ps := [(0, .int _ _)]) (cs := [_]) rfl Try.underlying23 Try.sizeOf3 Try.zeroValue3 rfl rfl rfl rfl ?_; rintro b11 w19 hb8 E37 hB8 hHb11; have hlb11 := hB8.lt; have hLb11 := own_lit1 hHb11 hb8; clear hHb11
            have hs16 := E37.size; refine Wo_nil ?_; refine ⟨(((((E14.trans E33).trans E34).trans E35).trans E36).trans E37), ?_⟩; refine Wh_all (rs := [11]) (by kernel_rfl) rfl ?_; refine WhAll_cons rfl ?_ ?_
            refine Wo_app1 rfl el23 rfl rfl hB8 (hO.toB.ext ((((E33.trans E34).trans E35).trans E36).trans E37)) Owned.int (Nat.le_refl _) (by first | omega | (simp <;> omega)) (by omega) (by omega) ((((((Ew.trans E14).trans E33).trans E34).trans E35).trans E36).trans E37) (by omega) ?_
            have hT1 := (hO.toB.ext ((((E33.trans E34).trans E35).trans E36).trans E37)); rintro v3 w20 hO E38 M1; have E39 := M1.ext hT1 (((((((E15.trans Ex).trans E14).trans E33).trans E34).trans E35).trans E36).trans E37) (by omega)
            have szE39 := E39.size; have E40 := M1.ext hT1 (((((((E16.trans Ex).trans E14).trans E33).trans E34).trans E35).trans E36).trans E37) (by omega); have szE40 := E40.size
            have E41 := M1.ext hT1 (((((((E17.trans Ex).trans E14).trans E33).trans E34).trans E35).trans E36).trans E37) (by omega); have szE41 := E41.size
            have E42 := M1.ext hT1 (((((((E18.trans Ex).trans E14).trans E33).trans E34).trans E35).trans E36).trans E37) (by omega); have szE42 := E42.size
            have E43 := M1.ext hT1 (((((((E19.trans Ex).trans E14).trans E33).trans E34).trans E35).trans E36).trans E37) (by omega); have szE43 := E43.size
            have E44 := M1.ext hT1 ((((((Ex.trans E14).trans E33).trans E34).trans E35).trans E36).trans E37) (by omega); have szE44 := E44.size
            have E45 := M1.ext hT1 ((((((E21.trans E14).trans E33).trans E34).trans E35).trans E36).trans E37) (by omega); have szE45 := E45.size; have E46 := M1.ext hT1 (((((E14.trans E33).trans E34).trans E35).trans E36).trans E37) (by omega)
            have szE46 := E46.size; have hB := (hB.ext ((((E33.trans E34).trans E35).trans E36).trans E37)).moves M1 hT1 (by omega); have B7 := (B7.ext (((((E14.trans E33).trans E34).trans E35).trans E36).trans E37)).moves M1 hT1 (by omega)
            have B8 := (B8.ext (((((E14.trans E33).trans E34).trans E35).trans E36).trans E37)).moves M1 hT1 (by omega); have hB7 := (hB7.ext E37).moves M1 hT1 (by omega); have hLb10 := (hLb10.toB.ext E37).moves M1 hT1 (by omega)
            have hB8 := hB8.moves M1 hT1 (by omega); have hLb11 := hLb11.toB.moves M1 hT1 (by omega); have hs17 := E38.size; have szM1 := M1.1.size; have icv3 := OwnedB.isC (Owned.toB hO); refine Wo_nil ?_; refine ⟨E46, ?_⟩
            refine Wh_take 12 rfl (by kernel_rfl) (by kernel_rfl) rfl (fun _ _ => opv_fieldAddr Try.underlying25 rfl rfl Try.sizeOf23 rfl) E46 ?_; refine Wh_all (rs := [13]) (by kernel_rfl) rfl ?_; refine WhAll_cons rfl ?_ ?_
            refine Wo_st (v := v3) rfl Try.sizeOf23 rfl rfl (OwnedB.isC hO.toB) hB (by simp) (by omega) E38 ?_; rintro w21 E47 hB K5 hz5; have E48 := E39.wroteAt E38 E47 K5 hz5 (by omega); have szE48 := E48.size
            have E49 := E40.wroteAt E38 E47 K5 hz5 (by omega); have szE49 := E49.size; have E50 := E41.wroteAt E38 E47 K5 hz5 (by omega); have szE50 := E50.size; have E51 := E42.wroteAt E38 E47 K5 hz5 (by omega); have szE51 := E51.size
            have E52 := E43.wroteAt E38 E47 K5 hz5 (by omega); have szE52 := E52.size; have E53 := E44.wroteAt E38 E47 K5 hz5 (by omega); have szE53 := E53.size; have E54 := E45.wroteAt E38 E47 K5 hz5 (by omega); have szE54 := E54.size
            have E55 := E46.wroteAt E38 E47 K5 hz5 (by omega); have szE55 := E55.size; simp only [List.set] at hB; have hO := hO.toB.wrote K5 (by omega); have B7 := B7.of_heap (K5 _ (by omega)); have B8 := B8.of_heap (K5 _ (by omega))
            have hB7 := hB7.of_heap (K5 _ (by omega)); have hLb10 := hLb10.wrote K5 (by omega); have hB8 := hB8.of_heap (K5 _ (by omega)); have hLb11 := hLb11.wrote K5 (by omega); refine Wo_nil ?_; refine ⟨E55, ?_⟩
            refine Wh_done (by kernel_rfl) ?_; refine W_region rfl ?_; refine Wo rfl (opv_move (v := .int _ _) rfl) ?_; refine Wo rfl (opv_add rfl rfl (by omega)) ?_; refine Wo rfl (opv_assign (v := .int _ _) rfl) ?_; refine Wo_nil ?_
            rotate_left; exact WhAll_nil; exact WhAll_nil; exact WhAll_nil; exact WhAll_nil; exact WhAll_nil; refine WhAll_cons rfl ?_ ?_
            refine Wo_buildSliceH (ps := [(0, .int _ _), (1, .int _ _)]) (cs := [_, _]) rfl Try.underlying23 Try.sizeOf3 Try.zeroValue3 rfl rfl rfl rfl ?_; rintro b10 w18 hb7 E36 hB7 hHb10; have hlb10 := hB7.lt; have hLb10 := own_lit2 hHb10 hb7
            clear hHb10; have hs15 := E36.size; refine Wo_nil ?_; refine ⟨((((E14.trans E33).trans E34).trans E35).trans E36), ?_⟩
            refine Wh_take 8 rfl (by kernel_rfl) (by kernel_rfl) rfl (fun _ _ => opv_indexAddr (k := 1) Try.underlying23 Try.sizeOf3 rfl rfl (by omega)) ((((E14.trans E33).trans E34).trans E35).trans E36) ?_
            refine Wh_all (rs := [1, 9]) (by kernel_rfl) rfl ?_; refine WhAll_cons rfl ?_ ?_; refine Wo (v := o) rfl (opv_load Try.isAgg23 rfl ((hB.ext (((E33.trans E34).trans E35).trans E36)).cell rfl)) ?_; refine Wo_nil ?_
            refine ⟨((((E14.trans E33).trans E34).trans E35).trans E36), ?_⟩; refine Wh_all (rs := [9]) (by kernel_rfl) rfl ?_; refine WhAll_cons rfl ?_ ?_; refine Wo (v := .int _ _) rfl (opv_load Try.isAgg3 rfl (hB7.cell rfl)) ?_
            refine Wo_nil ?_; refine ⟨((((E14.trans E33).trans E34).trans E35).trans E36), ?_⟩; refine Wh_all (rs := [10]) (by kernel_rfl) rfl ?_; refine WhAll_cons rfl ?_ ?_
            refine Wo_buildSliceH (ps := [(0, .int _ _)]) (cs := [_]) rfl Try.underlying23 Try.sizeOf3 Try.zeroValue3 rfl rfl rfl rfl ?_; rintro b11 w19 hb8 E37 hB8 hHb11; have hlb11 := hB8.lt; have hLb11 := own_lit1 hHb11 hb8; clear hHb11
            have hs16 := E37.size; refine Wo_nil ?_; refine ⟨(((((E14.trans E33).trans E34).trans E35).trans E36).trans E37), ?_⟩; refine Wh_all (rs := [11]) (by kernel_rfl) rfl ?_; refine WhAll_cons rfl ?_ ?_
            refine Wo_app1 rfl el23 rfl rfl hB8 (hO.toB.ext ((((E33.trans E34).trans E35).trans E36).trans E37)) Owned.int (Nat.le_refl _) (by first | omega | (simp <;> omega)) (by omega) (by omega) ((((((Ew.trans E14).trans E33).trans E34).trans E35).trans E36).trans E37) (by omega) ?_
            have hT1 := (hO.toB.ext ((((E33.trans E34).trans E35).trans E36).trans E37)); rintro v3 w20 hO E38 M1; have E39 := M1.ext hT1 (((((((E15.trans Ex).trans E14).trans E33).trans E34).trans E35).trans E36).trans E37) (by omega)
            have szE39 := E39.size; have E40 := M1.ext hT1 (((((((E16.trans Ex).trans E14).trans E33).trans E34).trans E35).trans E36).trans E37) (by omega); have szE40 := E40.size
            have E41 := M1.ext hT1 (((((((E17.trans Ex).trans E14).trans E33).trans E34).trans E35).trans E36).trans E37) (by omega); have szE41 := E41.size
            have E42 := M1.ext hT1 (((((((E18.trans Ex).trans E14).trans E33).trans E34).trans E35).trans E36).trans E37) (by omega); have szE42 := E42.size
            have E43 := M1.ext hT1 (((((((E19.trans Ex).trans E14).trans E33).trans E34).trans E35).trans E36).trans E37) (by omega); have szE43 := E43.size
            have E44 := M1.ext hT1 ((((((Ex.trans E14).trans E33).trans E34).trans E35).trans E36).trans E37) (by omega); have szE44 := E44.size
            have E45 := M1.ext hT1 ((((((E21.trans E14).trans E33).trans E34).trans E35).trans E36).trans E37) (by omega); have szE45 := E45.size; have E46 := M1.ext hT1 (((((E14.trans E33).trans E34).trans E35).trans E36).trans E37) (by omega)
            have szE46 := E46.size; have hB := (hB.ext ((((E33.trans E34).trans E35).trans E36).trans E37)).moves M1 hT1 (by omega); have B7 := (B7.ext (((((E14.trans E33).trans E34).trans E35).trans E36).trans E37)).moves M1 hT1 (by omega)
            have B8 := (B8.ext (((((E14.trans E33).trans E34).trans E35).trans E36).trans E37)).moves M1 hT1 (by omega); have hB7 := (hB7.ext E37).moves M1 hT1 (by omega); have hLb10 := (hLb10.toB.ext E37).moves M1 hT1 (by omega)
            have hB8 := hB8.moves M1 hT1 (by omega); have hLb11 := hLb11.toB.moves M1 hT1 (by omega); have hs17 := E38.size; have szM1 := M1.1.size; have icv3 := OwnedB.isC (Owned.toB hO); refine Wo_nil ?_; refine ⟨E46, ?_⟩
            refine Wh_take 12 rfl (by kernel_rfl) (by kernel_rfl) rfl (fun _ _ => opv_fieldAddr Try.underlying25 rfl rfl Try.sizeOf23 rfl) E46 ?_; refine Wh_all (rs := [13]) (by kernel_rfl) rfl ?_; refine WhAll_cons rfl ?_ ?_
            refine Wo_st (v := v3) rfl Try.sizeOf23 rfl rfl (OwnedB.isC hO.toB) hB (by simp) (by omega) E38 ?_; rintro w21 E47 hB K5 hz5; have E48 := E39.wroteAt E38 E47 K5 hz5 (by omega); have szE48 := E48.size
            have E49 := E40.wroteAt E38 E47 K5 hz5 (by omega); have szE49 := E49.size; have E50 := E41.wroteAt E38 E47 K5 hz5 (by omega); have szE50 := E50.size; have E51 := E42.wroteAt E38 E47 K5 hz5 (by omega); have szE51 := E51.size
            have E52 := E43.wroteAt E38 E47 K5 hz5 (by omega); have szE52 := E52.size; have E53 := E44.wroteAt E38 E47 K5 hz5 (by omega); have szE53 := E53.size; have E54 := E45.wroteAt E38 E47 K5 hz5 (by omega); have szE54 := E54.size
            have E55 := E46.wroteAt E38 E47 K5 hz5 (by omega); have szE55 := E55.size; simp only [List.set] at hB; have hO := hO.toB.wrote K5 (by omega); have B7 := B7.of_heap (K5 _ (by omega)); have B8 := B8.of_heap (K5 _ (by omega))
            have hB7 := hB7.of_heap (K5 _ (by omega)); have hLb10 := hLb10.wrote K5 (by omega); have hB8 := hB8.of_heap (K5 _ (by omega)); have hLb11 := hLb11.wrote K5 (by omega); refine Wo_nil ?_; refine ⟨E55, ?_⟩
            refine Wh_done (by kernel_rfl) ?_; refine W_region rfl ?_; refine Wo rfl (opv_move (v := .int _ _) rfl) ?_; refine Wo rfl (opv_add rfl rfl (by omega)) ?_; refine Wo rfl (opv_assign (v := .int _ _) rfl) ?_; refine Wo_nil ?_
            rotate_left; exact WhAll_nil; exact WhAll_nil; exact WhAll_nil; exact WhAll_nil; refine WhAll_cons rfl ?_ ?_; refine Wo (v := .int _ _) rfl (opv_load Try.isAgg3 rfl (hB7.cell rfl)) ?_; refine Wo_nil ?_
            refine ⟨((((E14.trans E33).trans E34).trans E35).trans E36), ?_⟩; refine Wh_all (rs := [1, 10]) (by kernel_rfl) rfl ?_; refine WhAll_cons rfl ?_ ?_
            refine Wo (v := o) rfl (opv_load Try.isAgg23 rfl ((hB.ext (((E33.trans E34).trans E35).trans E36)).cell rfl)) ?_; refine Wo_nil ?_; refine ⟨((((E14.trans E33).trans E34).trans E35).trans E36), ?_⟩
            refine Wh_all (rs := [10]) (by kernel_rfl) rfl ?_; refine WhAll_cons rfl ?_ ?_; refine Wo_buildSliceH (ps := [(0, .int _ _)]) (cs := [_]) rfl Try.underlying23 Try.sizeOf3 Try.zeroValue3 rfl rfl rfl rfl ?_
            rintro b11 w19 hb8 E37 hB8 hHb11; have hlb11 := hB8.lt; have hLb11 := own_lit1 hHb11 hb8; clear hHb11; have hs16 := E37.size; refine Wo_nil ?_; refine ⟨(((((E14.trans E33).trans E34).trans E35).trans E36).trans E37), ?_⟩
            refine Wh_all (rs := [11]) (by kernel_rfl) rfl ?_; refine WhAll_cons rfl ?_ ?_
            refine Wo_app1 rfl el23 rfl rfl hB8 (hO.toB.ext ((((E33.trans E34).trans E35).trans E36).trans E37)) Owned.int (Nat.le_refl _) (by first | omega | (simp <;> omega)) (by omega) (by omega) ((((((Ew.trans E14).trans E33).trans E34).trans E35).trans E36).trans E37) (by omega) ?_
            have hT1 := (hO.toB.ext ((((E33.trans E34).trans E35).trans E36).trans E37)); rintro v3 w20 hO E38 M1; have E39 := M1.ext hT1 (((((((E15.trans Ex).trans E14).trans E33).trans E34).trans E35).trans E36).trans E37) (by omega)
            have szE39 := E39.size; have E40 := M1.ext hT1 (((((((E16.trans Ex).trans E14).trans E33).trans E34).trans E35).trans E36).trans E37) (by omega); have szE40 := E40.size
            have E41 := M1.ext hT1 (((((((E17.trans Ex).trans E14).trans E33).trans E34).trans E35).trans E36).trans E37) (by omega); have szE41 := E41.size
            have E42 := M1.ext hT1 (((((((E18.trans Ex).trans E14).trans E33).trans E34).trans E35).trans E36).trans E37) (by omega); have szE42 := E42.size
            have E43 := M1.ext hT1 (((((((E19.trans Ex).trans E14).trans E33).trans E34).trans E35).trans E36).trans E37) (by omega); have szE43 := E43.size
            have E44 := M1.ext hT1 ((((((Ex.trans E14).trans E33).trans E34).trans E35).trans E36).trans E37) (by omega); have szE44 := E44.size
            have E45 := M1.ext hT1 ((((((E21.trans E14).trans E33).trans E34).trans E35).trans E36).trans E37) (by omega); have szE45 := E45.size; have E46 := M1.ext hT1 (((((E14.trans E33).trans E34).trans E35).trans E36).trans E37) (by omega)
            have szE46 := E46.size; have hB := (hB.ext ((((E33.trans E34).trans E35).trans E36).trans E37)).moves M1 hT1 (by omega); have B7 := (B7.ext (((((E14.trans E33).trans E34).trans E35).trans E36).trans E37)).moves M1 hT1 (by omega)
            have B8 := (B8.ext (((((E14.trans E33).trans E34).trans E35).trans E36).trans E37)).moves M1 hT1 (by omega); have hB7 := (hB7.ext E37).moves M1 hT1 (by omega); have hLb10 := (hLb10.toB.ext E37).moves M1 hT1 (by omega)
            have hB8 := hB8.moves M1 hT1 (by omega); have hLb11 := hLb11.toB.moves M1 hT1 (by omega); have hs17 := E38.size; have szM1 := M1.1.size; have icv3 := OwnedB.isC (Owned.toB hO); refine Wo_nil ?_; refine ⟨E46, ?_⟩
            refine Wh_take 12 rfl (by kernel_rfl) (by kernel_rfl) rfl (fun _ _ => opv_fieldAddr Try.underlying25 rfl rfl Try.sizeOf23 rfl) E46 ?_; refine Wh_all (rs := [13]) (by kernel_rfl) rfl ?_; refine WhAll_cons rfl ?_ ?_
            refine Wo_st (v := v3) rfl Try.sizeOf23 rfl rfl (OwnedB.isC hO.toB) hB (by simp) (by omega) E38 ?_; rintro w21 E47 hB K5 hz5; have E48 := E39.wroteAt E38 E47 K5 hz5 (by omega); have szE48 := E48.size
            have E49 := E40.wroteAt E38 E47 K5 hz5 (by omega); have szE49 := E49.size; have E50 := E41.wroteAt E38 E47 K5 hz5 (by omega); have szE50 := E50.size; have E51 := E42.wroteAt E38 E47 K5 hz5 (by omega); have szE51 := E51.size
            have E52 := E43.wroteAt E38 E47 K5 hz5 (by omega); have szE52 := E52.size; have E53 := E44.wroteAt E38 E47 K5 hz5 (by omega); have szE53 := E53.size; have E54 := E45.wroteAt E38 E47 K5 hz5 (by omega); have szE54 := E54.size
            have E55 := E46.wroteAt E38 E47 K5 hz5 (by omega); have szE55 := E55.size; simp only [List.set] at hB; have hO := hO.toB.wrote K5 (by omega); have B7 := B7.of_heap (K5 _ (by omega)); have B8 := B8.of_heap (K5 _ (by omega))
            have hB7 := hB7.of_heap (K5 _ (by omega)); have hLb10 := hLb10.wrote K5 (by omega); have hB8 := hB8.of_heap (K5 _ (by omega)); have hLb11 := hLb11.wrote K5 (by omega); refine Wo_nil ?_; refine ⟨E55, ?_⟩
            refine Wh_done (by kernel_rfl) ?_; refine W_region rfl ?_; refine Wo rfl (opv_move (v := .int _ _) rfl) ?_; refine Wo rfl (opv_add rfl rfl (by omega)) ?_; refine Wo rfl (opv_assign (v := .int _ _) rfl) ?_; refine Wo_nil ?_
            rotate_left; exact WhAll_nil; exact WhAll_nil; exact WhAll_nil; refine WhAll_cons rfl ?_ ?_; refine Wo_buildSliceH (ps := [(0, .int _ _)]) (cs := [_]) rfl Try.underlying23 Try.sizeOf3 Try.zeroValue3 rfl rfl rfl rfl ?_
            rintro b11 w19 hb8 E37 hB8 hHb11; have hlb11 := hB8.lt; have hLb11 := own_lit1 hHb11 hb8; clear hHb11; have hs16 := E37.size; refine Wo_nil ?_; refine ⟨(((((E14.trans E33).trans E34).trans E35).trans E36).trans E37), ?_⟩
            refine Wh_all (rs := [1]) (by kernel_rfl) rfl ?_; refine WhAll_cons rfl ?_ ?_; refine Wo (v := o) rfl (opv_load Try.isAgg23 rfl ((hB.ext ((((E33.trans E34).trans E35).trans E36).trans E37)).cell rfl)) ?_; refine Wo_nil ?_
            refine ⟨(((((E14.trans E33).trans E34).trans E35).trans E36).trans E37), ?_⟩; refine Wh_all (rs := [11]) (by kernel_rfl) rfl ?_; refine WhAll_cons rfl ?_ ?_
            refine Wo_app1 rfl el23 rfl rfl hB8 (hO.toB.ext ((((E33.trans E34).trans E35).trans E36).trans E37)) Owned.int (Nat.le_refl _) (by first | omega | (simp <;> omega)) (by omega) (by omega) ((((((Ew.trans E14).trans E33).trans E34).trans E35).trans E36).trans E37) (by omega) ?_
            have hT1 := (hO.toB.ext ((((E33.trans E34).trans E35).trans E36).trans E37)); rintro v3 w20 hO E38 M1; have E39 := M1.ext hT1 (((((((E15.trans Ex).trans E14).trans E33).trans E34).trans E35).trans E36).trans E37) (by omega)
            have szE39 := E39.size; have E40 := M1.ext hT1 (((((((E16.trans Ex).trans E14).trans E33).trans E34).trans E35).trans E36).trans E37) (by omega); have szE40 := E40.size
            have E41 := M1.ext hT1 (((((((E17.trans Ex).trans E14).trans E33).trans E34).trans E35).trans E36).trans E37) (by omega); have szE41 := E41.size
            have E42 := M1.ext hT1 (((((((E18.trans Ex).trans E14).trans E33).trans E34).trans E35).trans E36).trans E37) (by omega); have szE42 := E42.size
            have E43 := M1.ext hT1 (((((((E19.trans Ex).trans E14).trans E33).trans E34).trans E35).trans E36).trans E37) (by omega); have szE43 := E43.size
            have E44 := M1.ext hT1 ((((((Ex.trans E14).trans E33).trans E34).trans E35).trans E36).trans E37) (by omega); have szE44 := E44.size
            have E45 := M1.ext hT1 ((((((E21.trans E14).trans E33).trans E34).trans E35).trans E36).trans E37) (by omega); have szE45 := E45.size; have E46 := M1.ext hT1 (((((E14.trans E33).trans E34).trans E35).trans E36).trans E37) (by omega)
            have szE46 := E46.size; have hB := (hB.ext ((((E33.trans E34).trans E35).trans E36).trans E37)).moves M1 hT1 (by omega); have B7 := (B7.ext (((((E14.trans E33).trans E34).trans E35).trans E36).trans E37)).moves M1 hT1 (by omega)
            have B8 := (B8.ext (((((E14.trans E33).trans E34).trans E35).trans E36).trans E37)).moves M1 hT1 (by omega); have hB7 := (hB7.ext E37).moves M1 hT1 (by omega); have hLb10 := (hLb10.toB.ext E37).moves M1 hT1 (by omega)
            have hB8 := hB8.moves M1 hT1 (by omega); have hLb11 := hLb11.toB.moves M1 hT1 (by omega); have hs17 := E38.size; have szM1 := M1.1.size; have icv3 := OwnedB.isC (Owned.toB hO); refine Wo_nil ?_; refine ⟨E46, ?_⟩
            refine Wh_take 12 rfl (by kernel_rfl) (by kernel_rfl) rfl (fun _ _ => opv_fieldAddr Try.underlying25 rfl rfl Try.sizeOf23 rfl) E46 ?_; refine Wh_all (rs := [13]) (by kernel_rfl) rfl ?_; refine WhAll_cons rfl ?_ ?_
            refine Wo_st (v := v3) rfl Try.sizeOf23 rfl rfl (OwnedB.isC hO.toB) hB (by simp) (by omega) E38 ?_; rintro w21 E47 hB K5 hz5; have E48 := E39.wroteAt E38 E47 K5 hz5 (by omega); have szE48 := E48.size
            have E49 := E40.wroteAt E38 E47 K5 hz5 (by omega); have szE49 := E49.size; have E50 := E41.wroteAt E38 E47 K5 hz5 (by omega); have szE50 := E50.size; have E51 := E42.wroteAt E38 E47 K5 hz5 (by omega); have szE51 := E51.size
            have E52 := E43.wroteAt E38 E47 K5 hz5 (by omega); have szE52 := E52.size; have E53 := E44.wroteAt E38 E47 K5 hz5 (by omega); have szE53 := E53.size; have E54 := E45.wroteAt E38 E47 K5 hz5 (by omega); have szE54 := E54.size
            have E55 := E46.wroteAt E38 E47 K5 hz5 (by omega); have szE55 := E55.size; simp only [List.set] at hB; have hO := hO.toB.wrote K5 (by omega); have B7 := B7.of_heap (K5 _ (by omega)); have B8 := B8.of_heap (K5 _ (by omega))
            have hB7 := hB7.of_heap (K5 _ (by omega)); have hLb10 := hLb10.wrote K5 (by omega); have hB8 := hB8.of_heap (K5 _ (by omega)); have hLb11 := hLb11.wrote K5 (by omega); refine Wo_nil ?_; refine ⟨E55, ?_⟩
            refine Wh_done (by kernel_rfl) ?_; refine W_region rfl ?_; refine Wo rfl (opv_move (v := .int _ _) rfl) ?_; refine Wo rfl (opv_add rfl rfl (by omega)) ?_; refine Wo rfl (opv_assign (v := .int _ _) rfl) ?_; refine Wo_nil ?_
            rotate_left; exact WhAll_nil; exact WhAll_nil; exact WhAll_nil; exact WhAll_nil; exact WhAll_nil; exact WhAll_nil; exact WhAll_nil; exact WhAll_nil; contradiction
          all_goals
            refine ⟨(2, v3), by repeat (first | exact trivial | refine And.intro rfl ?_), by repeat (first | with_reducible exact Same.refl | refine Same.upd rfl ?_ | refine Same.upds rfl ?_ | refine Same.mix rfl ?_), ?_, by simp⟩
            exact ⟨by assumption, by omega, .inr (.inr rfl), by assumption, OwnedB.o ((win_succ (f := lay f g) (a := 0) (p := 1)).symm ▸ hO)⟩
        · have E15 := Ew.trans E14
          focus
            have szE15 := E15.size; have szE14 := E14.size; have szE32 := E32.size; have szE31 := E31.size; have szE30 := E30.size; have szE29 := E29.size; have szE28 := E28.size; have szE27 := E27.size; have szE26 := E26.size
            have szE25 := E25.size; have szE24 := E24.size; have szE23 := E23.size; have szE22 := E22.size; have szEw := Ew.size; have szEx := Ex.size; have szE21 := E21.size; have szE20 := E20.size; have szE19 := E19.size
            have szE18 := E18.size; have szE17 := E17.size; have szE16 := E16.size; have szE15 := E15.size; have szE14 := E14.size; have szE13 := E13.size; have szE12 := E12.size; have szE11 := E11.size; have szE10 := E10.size
            have szE9 := E9.size; have szE8 := E8.size; have szE7 := E7.size; have szE6 := E6.size; have szE5 := E5.size; have szE4 := E4.size; have szE3 := E3.size; have szE2 := E2.size; have szE1 := E1.size; refine W_seq ?_; refine W_seq ?_
            refine W_region rfl ?_; refine Wo rfl (opv_move (v := .int _ _) rfl) ?_; refine Wo rfl (opv_lss rfl rfl) ?_; refine Wo_nil ?_; refine W_cond_dec rfl (fun h10 => ?_) (fun h10 => ?_); contradiction; refine W_exit ?_
            refine exitX_same ?_; refine W_seq ?_; refine W_seq ?_; refine W_region rfl ?_; refine Wo rfl (opv_assign (v := .int _ _) rfl) ?_; refine Wo_nil ?_; refine W_block ?_
          have hO := hO.toB
          refine W_loop [14, 88, 89, 90, 91, 92, 93, 94, 95, 96, 97, 98, 99, 100, 101, 102, 103] (fun ((i, o2) : Nat × Value) => [(14, .int .i64 ((i : Int) + 1))]) (fun (i, o2) w' => Ext w11 w' ∧ w14.heap.size ≤ w'.heap.size ∧ i ≤ L ∧ Blk w' b9 [o, o2] ∧ OwnedB w13.heap.size w14.heap.size XI w' o (win (lay f g) 0 2) ∧ Owned w14.heap.size XI w' o2 (win (lay f g) 2 (2 * i))) (fun x => L - x.1) (0, .slice none 0 0) (by repeat (first | exact trivial | refine And.intro rfl ?_)) ?_ ?_
          · exact ⟨E14, Nat.le_refl _, Nat.zero_le _, hB, hO, by simpa [win] using (Owned.nil : Owned w14.heap.size XI w14 (.slice none 0 0) [])⟩
          clear hB hO
          rintro ⟨i, o2⟩ ρk w15 ⟨E16, hs15, hi, hB, hO, hO2⟩
          have hwl1 := win_len (f := lay f g) (a := 0) (p := 2)
          have hwl2 := win_len (f := lay f g) (a := 2) (p := 2 * i)
          by_cases hik : i < L
          · have hik' : (i : Int) + 1 ≤ L := by omega
            have B7 := P7.2
            have B8 := P8.2
            have he : win (lay f g) 2 (2 * (i + 1)) = win (lay f g) 2 (2 * i) ++ [lay f g (2 * ((i : Int) + 1).toNat), lay f g (2 * ((i : Int) + 1).toNat + 1)] := by
              rw [show 2 * (i + 1) = 2 * i + 1 + 1 by omega, win_succ, win_succ, show ((i : Int) + 1).toNat = i + 1 by omega, show 2 + 2 * i = 2 * (i + 1) by omega, show 2 + (2 * i + 1) = 2 * (i + 1) + 1 by omega]
              simp
            focus
              have szE16 := E16.size; have szE15 := E15.size; have szE14 := E14.size; have szE32 := E32.size; have szE31 := E31.size; have szE30 := E30.size; have szE29 := E29.size; have szE28 := E28.size; have szE27 := E27.size
              have szE26 := E26.size; have szE25 := E25.size; have szE24 := E24.size; have szE23 := E23.size; have szE22 := E22.size; have szEw := Ew.size; have szEx := Ex.size; have szE21 := E21.size; have szE20 := E20.size
              have szE19 := E19.size; have szE18 := E18.size; have szE17 := E17.size; have szE16 := E16.size; have szE15 := E15.size; have szE14 := E14.size; have szE13 := E13.size; have szE12 := E12.size; have szE11 := E11.size
              have szE10 := E10.size; have szE9 := E9.size; have szE8 := E8.size; have szE7 := E7.size; have szE6 := E6.size; have szE5 := E5.size; have szE4 := E4.size; have szE3 := E3.size; have szE2 := E2.size; have szE1 := E1.size
              refine W_seq ?_; refine W_seq ?_; refine W_region rfl ?_; refine Wo rfl (opv_move (v := .int _ _) rfl) ?_; refine Wo rfl (opv_move (v := .int _ _) rfl) ?_; refine Wo rfl (opv_leq rfl rfl) ?_; refine Wo_nil ?_
              refine W_cond_dec rfl (fun h11 => ?_) (fun h11 => ?_); refine W_skip ?_; refine W_seq ?_; refine W_block ?_; refine W_held (fun w' => Ext w11 w') mixed rfl (by kernel_rfl) ?_; intro w16 E33 K4 hz4; have hs11 := E33.size
              refine Wh_take 0 rfl (by kernel_rfl) (by kernel_rfl) rfl (fun _ _ => opv_fieldAddr Try.underlying25 rfl rfl Try.sizeOf23 rfl) (E16.trans E33) ?_
              refine Wh_take (v := .agg _) 2 rfl (by kernel_rfl) (by kernel_rfl) rfl (fun w' hw' => opv_load2 Try.isAgg25 Try.sizeOf25 rfl (B7.ext hw')) (E16.trans E33) ?_
              refine Wh_take 3 rfl (by kernel_rfl) (by kernel_rfl) rfl (fun _ _ => opv_move (v := .int _ _) rfl) (E16.trans E33) ?_
              refine Wh_take (v := .agg _) 5 rfl (by kernel_rfl) (by kernel_rfl) rfl (fun w' hw' => opv_load2 Try.isAgg25 Try.sizeOf25 rfl (B8.ext hw')) (E16.trans E33) ?_
              refine Wh_take 6 rfl (by kernel_rfl) (by kernel_rfl) rfl (fun _ _ => opv_move (v := .int _ _) rfl) (E16.trans E33) ?_; refine Wh_all (rs := [1, 4]) (by kernel_rfl) rfl ?_; refine WhAll_cons rfl ?_ ?_
              refine Wo (v := o2) rfl (opv_load Try.isAgg23 rfl ((hB.ext E33).cell rfl)) ?_; refine Wo_nil ?_; refine ⟨(E16.trans E33), ?_⟩; refine Wh_all (rs := [4]) (by kernel_rfl) rfl ?_; refine WhAll_cons rfl ?_ ?_
              refine Wo_call rfl (opc2 (a := .agg _) (b := .int _ _) Try.call57 rfl rfl) (b1 _ _ _ _ ((Mono.mono (E16.trans E33) r1)) ((Mono.mono (E16.trans E33) r2)) (by omega)) ?_; rintro _ w17 ⟨rfl, E34⟩; have hs12 := E34.size
              refine Wo_nil ?_; refine ⟨((E16.trans E33).trans E34), ?_⟩; refine Wh_all (rs := [7]) (by kernel_rfl) rfl ?_; refine WhAll_cons rfl ?_ ?_
              refine Wo_call rfl (opc2 (a := .agg _) (b := .int _ _) Try.call57 rfl rfl) (b2 _ _ _ _ ((Mono.mono ((E16.trans E33).trans E34) r3)) ((Mono.mono ((E16.trans E33).trans E34) r4)) (by omega)) ?_; rintro _ w18 ⟨rfl, E35⟩
              have hs13 := E35.size; refine Wo_nil ?_; refine ⟨(((E16.trans E33).trans E34).trans E35), ?_⟩; refine Wh_all (rs := [8]) (by kernel_rfl) rfl ?_; refine WhAll_cons rfl ?_ ?_
              refine Wo_buildSliceH (ps := [(0, .int _ _), (1, .int _ _)]) (cs := [_, _]) rfl Try.underlying23 Try.sizeOf3 Try.zeroValue3 rfl rfl rfl rfl ?_; rintro b10 w19 hb7 E36 hB7 hHb10; have hlb10 := hB7.lt; have hLb10 := own_lit2 hHb10 hb7
              clear hHb10; have hs16 := E36.size; refine Wo_nil ?_; refine ⟨((((E16.trans E33).trans E34).trans E35).trans E36), ?_⟩; refine Wh_all (rs := [9]) (by kernel_rfl) rfl ?_; refine WhAll_cons rfl ?_ ?_
              refine Wo_appS rfl el23 rfl rfl (Owned.read hLb10) (hO2.toB.ext (((E33.trans E34).trans E35).trans E36)) (by first | omega | (simp <;> omega)) (by omega) (by omega) (((((Ew.trans E16).trans E33).trans E34).trans E35).trans E36) (by omega) ?_
              have hT1 := (hO2.toB.ext (((E33.trans E34).trans E35).trans E36)); rintro v3 w20 hO2 E37 M1; have E38 := M1.ext hT1 ((((((E17.trans Ex).trans E16).trans E33).trans E34).trans E35).trans E36) (by omega); have szE38 := E38.size
              have E39 := M1.ext hT1 ((((((E18.trans Ex).trans E16).trans E33).trans E34).trans E35).trans E36) (by omega); have szE39 := E39.size
              have E40 := M1.ext hT1 ((((((E19.trans Ex).trans E16).trans E33).trans E34).trans E35).trans E36) (by omega); have szE40 := E40.size; have E41 := M1.ext hT1 (((((Ex.trans E16).trans E33).trans E34).trans E35).trans E36) (by omega)
              have szE41 := E41.size; have E42 := M1.ext hT1 (((((E21.trans E16).trans E33).trans E34).trans E35).trans E36) (by omega); have szE42 := E42.size; have E43 := M1.ext hT1 ((((E16.trans E33).trans E34).trans E35).trans E36) (by omega)
              have szE43 := E43.size; have hB := (hB.ext (((E33.trans E34).trans E35).trans E36)).moves M1 hT1 (by omega); have hO := (hO.ext (((E33.trans E34).trans E35).trans E36)).moves M1 hT1 (by omega)
              have B7 := (B7.ext ((((E16.trans E33).trans E34).trans E35).trans E36)).moves M1 hT1 (by omega); have B8 := (B8.ext ((((E16.trans E33).trans E34).trans E35).trans E36)).moves M1 hT1 (by omega)
              have hB7 := hB7.moves M1 hT1 (by omega); have hLb10 := hLb10.toB.moves M1 hT1 (by omega); have hs17 := E37.size; have szM1 := M1.1.size; have icv3 := OwnedB.isC (Owned.toB hO2); refine Wo_nil ?_; refine ⟨E43, ?_⟩
              refine Wh_take 10 rfl (by kernel_rfl) (by kernel_rfl) rfl (fun _ _ => opv_fieldAddr Try.underlying25 rfl rfl Try.sizeOf23 rfl) E43 ?_; refine Wh_all (rs := [11]) (by kernel_rfl) rfl ?_; refine WhAll_cons rfl ?_ ?_
              refine Wo_st (v := v3) rfl Try.sizeOf23 rfl rfl (OwnedB.isC hO2.toB) hB (by simp) (by omega) E37 ?_; rintro w21 E44 hB K5 hz5; have E45 := E38.wroteAt E37 E44 K5 hz5 (by omega); have szE45 := E45.size
              have E46 := E39.wroteAt E37 E44 K5 hz5 (by omega); have szE46 := E46.size; have E47 := E40.wroteAt E37 E44 K5 hz5 (by omega); have szE47 := E47.size; have E48 := E41.wroteAt E37 E44 K5 hz5 (by omega); have szE48 := E48.size
              have E49 := E42.wroteAt E37 E44 K5 hz5 (by omega); have szE49 := E49.size; have E50 := E43.wroteAt E37 E44 K5 hz5 (by omega); have szE50 := E50.size; simp only [List.set] at hB; have hO2 := hO2.toB.wrote K5 (by omega)
              have hO := hO.wrote K5 (by omega); have B7 := B7.of_heap (K5 _ (by omega)); have B8 := B8.of_heap (K5 _ (by omega)); have hB7 := hB7.of_heap (K5 _ (by omega)); have hLb10 := hLb10.wrote K5 (by omega); refine Wo_nil ?_
              refine ⟨E50, ?_⟩; refine Wh_done (by kernel_rfl) ?_; refine W_region rfl ?_; refine Wo rfl (opv_move (v := .int _ _) rfl) ?_; refine Wo rfl (opv_add rfl rfl (by omega)) ?_; refine Wo rfl (opv_assign (v := .int _ _) rfl) ?_
              refine Wo_nil ?_; rotate_left; exact WhAll_nil; exact WhAll_nil; exact WhAll_nil; exact WhAll_nil; exact WhAll_nil; refine WhAll_cons rfl ?_ ?_
              refine Wo_call rfl (opc2 (a := .agg _) (b := .int _ _) Try.call57 rfl rfl) (b1 _ _ _ _ ((Mono.mono (E16.trans E33) r1)) ((Mono.mono (E16.trans E33) r2)) (by omega)) ?_; rintro _ w17 ⟨rfl, E34⟩; have hs12 := E34.size
              refine Wo_nil ?_; refine ⟨((E16.trans E33).trans E34), ?_⟩; refine Wh_all (rs := [1, 7]) (by kernel_rfl) rfl ?_; refine WhAll_cons rfl ?_ ?_; refine Wo (v := o2) rfl (opv_load Try.isAgg23 rfl ((hB.ext (E33.trans E34)).cell rfl)) ?_
              refine Wo_nil ?_; refine ⟨((E16.trans E33).trans E34), ?_⟩; refine Wh_all (rs := [7]) (by kernel_rfl) rfl ?_; refine WhAll_cons rfl ?_ ?_
              refine Wo_call rfl (opc2 (a := .agg _) (b := .int _ _) Try.call57 rfl rfl) (b2 _ _ _ _ ((Mono.mono ((E16.trans E33).trans E34) r3)) ((Mono.mono ((E16.trans E33).trans E34) r4)) (by omega)) ?_; rintro _ w18 ⟨rfl, E35⟩
              have hs13 := E35.size; refine Wo_nil ?_; refine ⟨(((E16.trans E33).trans E34).trans E35), ?_⟩; refine Wh_all (rs := [8]) (by kernel_rfl) rfl ?_; refine WhAll_cons rfl ?_ ?_
              refine Wo_buildSliceH (ps := [(0, .int _ _), (1, .int _ _)]) (cs := [_, _]) rfl Try.underlying23 Try.sizeOf3 Try.zeroValue3 rfl rfl rfl rfl ?_; rintro b10 w19 hb7 E36 hB7 hHb10; have hlb10 := hB7.lt; have hLb10 := own_lit2 hHb10 hb7
              clear hHb10; have hs16 := E36.size; refine Wo_nil ?_; refine ⟨((((E16.trans E33).trans E34).trans E35).trans E36), ?_⟩; refine Wh_all (rs := [9]) (by kernel_rfl) rfl ?_; refine WhAll_cons rfl ?_ ?_
              refine Wo_appS rfl el23 rfl rfl (Owned.read hLb10) (hO2.toB.ext (((E33.trans E34).trans E35).trans E36)) (by first | omega | (simp <;> omega)) (by omega) (by omega) (((((Ew.trans E16).trans E33).trans E34).trans E35).trans E36) (by omega) ?_
              have hT1 := (hO2.toB.ext (((E33.trans E34).trans E35).trans E36)); rintro v3 w20 hO2 E37 M1; have E38 := M1.ext hT1 ((((((E17.trans Ex).trans E16).trans E33).trans E34).trans E35).trans E36) (by omega); have szE38 := E38.size
              have E39 := M1.ext hT1 ((((((E18.trans Ex).trans E16).trans E33).trans E34).trans E35).trans E36) (by omega); have szE39 := E39.size
              have E40 := M1.ext hT1 ((((((E19.trans Ex).trans E16).trans E33).trans E34).trans E35).trans E36) (by omega); have szE40 := E40.size; have E41 := M1.ext hT1 (((((Ex.trans E16).trans E33).trans E34).trans E35).trans E36) (by omega)
              have szE41 := E41.size; have E42 := M1.ext hT1 (((((E21.trans E16).trans E33).trans E34).trans E35).trans E36) (by omega); have szE42 := E42.size; have E43 := M1.ext hT1 ((((E16.trans E33).trans E34).trans E35).trans E36) (by omega)
              have szE43 := E43.size; have hB := (hB.ext (((E33.trans E34).trans E35).trans E36)).moves M1 hT1 (by omega); have hO := (hO.ext (((E33.trans E34).trans E35).trans E36)).moves M1 hT1 (by omega)
              have B7 := (B7.ext ((((E16.trans E33).trans E34).trans E35).trans E36)).moves M1 hT1 (by omega); have B8 := (B8.ext ((((E16.trans E33).trans E34).trans E35).trans E36)).moves M1 hT1 (by omega)
              have hB7 := hB7.moves M1 hT1 (by omega); have hLb10 := hLb10.toB.moves M1 hT1 (by omega); have hs17 := E37.size; have szM1 := M1.1.size; have icv3 := OwnedB.isC (Owned.toB hO2); refine Wo_nil ?_; refine ⟨E43, ?_⟩
              refine Wh_take 10 rfl (by kernel_rfl) (by kernel_rfl) rfl (fun _ _ => opv_fieldAddr Try.underlying25 rfl rfl Try.sizeOf23 rfl) E43 ?_; refine Wh_all (rs := [11]) (by kernel_rfl) rfl ?_; refine WhAll_cons rfl ?_ ?_
              refine Wo_st (v := v3) rfl Try.sizeOf23 rfl rfl (OwnedB.isC hO2.toB) hB (by simp) (by omega) E37 ?_; rintro w21 E44 hB K5 hz5; have E45 := E38.wroteAt E37 E44 K5 hz5 (by omega); have szE45 := E45.size
              have E46 := E39.wroteAt E37 E44 K5 hz5 (by omega); have szE46 := E46.size; have E47 := E40.wroteAt E37 E44 K5 hz5 (by omega); have szE47 := E47.size; have E48 := E41.wroteAt E37 E44 K5 hz5 (by omega); have szE48 := E48.size
              have E49 := E42.wroteAt E37 E44 K5 hz5 (by omega); have szE49 := E49.size; have E50 := E43.wroteAt E37 E44 K5 hz5 (by omega); have szE50 := E50.size; simp only [List.set] at hB; have hO2 := hO2.toB.wrote K5 (by omega)
              have hO := hO.wrote K5 (by omega); have B7 := B7.of_heap (K5 _ (by omega)); have B8 := B8.of_heap (K5 _ (by omega)); have hB7 := hB7.of_heap (K5 _ (by omega)); have hLb10 := hLb10.wrote K5 (by omega); refine Wo_nil ?_
              refine ⟨E50, ?_⟩; refine Wh_done (by kernel_rfl) ?_; refine W_region rfl ?_; refine Wo rfl (opv_move (v := .int _ _) rfl) ?_; refine Wo rfl (opv_add rfl rfl (by omega)) ?_; refine Wo rfl (opv_assign (v := .int _ _) rfl) ?_
              refine Wo_nil ?_; rotate_left; exact WhAll_nil; exact WhAll_nil; exact WhAll_nil; exact WhAll_nil; refine WhAll_cons rfl ?_ ?_
              refine Wo_call rfl (opc2 (a := .agg _) (b := .int _ _) Try.call57 rfl rfl) (b2 _ _ _ _ ((Mono.mono ((E16.trans E33).trans E34) r3)) ((Mono.mono ((E16.trans E33).trans E34) r4)) (by omega)) ?_; rintro _ w18 ⟨rfl, E35⟩
              have hs13 := E35.size; refine Wo_nil ?_; refine ⟨(((E16.trans E33).trans E34).trans E35), ?_⟩; refine Wh_all (rs := [1, 8]) (by kernel_rfl) rfl ?_; refine WhAll_cons rfl ?_ ?_
              refine Wo (v := o2) rfl (opv_load Try.isAgg23 rfl ((hB.ext ((E33.trans E34).trans E35)).cell rfl)) ?_; refine Wo_nil ?_; refine ⟨(((E16.trans E33).trans E34).trans E35), ?_⟩; refine Wh_all (rs := [8]) (by kernel_rfl) rfl ?_
              refine WhAll_cons rfl ?_ ?_; refine Wo_buildSliceH (ps := [(0, .int _ _), (1, .int _ _)]) (cs := [_, _]) rfl Try.underlying23 Try.sizeOf3 Try.zeroValue3 rfl rfl rfl rfl ?_; rintro b10 w19 hb7 E36 hB7 hHb10; have hlb10 := hB7.lt
              have hLb10 := own_lit2 hHb10 hb7; clear hHb10; have hs16 := E36.size; refine Wo_nil ?_; refine ⟨((((E16.trans E33).trans E34).trans E35).trans E36), ?_⟩; refine Wh_all (rs := [9]) (by kernel_rfl) rfl ?_; refine WhAll_cons rfl ?_ ?_
              refine Wo_appS rfl el23 rfl rfl (Owned.read hLb10) (hO2.toB.ext (((E33.trans E34).trans E35).trans E36)) (by first | omega | (simp <;> omega)) (by omega) (by omega) (((((Ew.trans E16).trans E33).trans E34).trans E35).trans E36) (by omega) ?_
              have hT1 := (hO2.toB.ext (((E33.trans E34).trans E35).trans E36)); rintro v3 w20 hO2 E37 M1; have E38 := M1.ext hT1 ((((((E17.trans Ex).trans E16).trans E33).trans E34).trans E35).trans E36) (by omega); have szE38 := E38.size
              have E39 := M1.ext hT1 ((((((E18.trans Ex).trans E16).trans E33).trans E34).trans E35).trans E36) (by omega); have szE39 := E39.size
              have E40 := M1.ext hT1 ((((((E19.trans Ex).trans E16).trans E33).trans E34).trans E35).trans E36) (by omega); have szE40 := E40.size; have E41 := M1.ext hT1 (((((Ex.trans E16).trans E33).trans E34).trans E35).trans E36) (by omega)
              have szE41 := E41.size; have E42 := M1.ext hT1 (((((E21.trans E16).trans E33).trans E34).trans E35).trans E36) (by omega); have szE42 := E42.size; have E43 := M1.ext hT1 ((((E16.trans E33).trans E34).trans E35).trans E36) (by omega)
              have szE43 := E43.size; have hB := (hB.ext (((E33.trans E34).trans E35).trans E36)).moves M1 hT1 (by omega); have hO := (hO.ext (((E33.trans E34).trans E35).trans E36)).moves M1 hT1 (by omega)
              have B7 := (B7.ext ((((E16.trans E33).trans E34).trans E35).trans E36)).moves M1 hT1 (by omega); have B8 := (B8.ext ((((E16.trans E33).trans E34).trans E35).trans E36)).moves M1 hT1 (by omega)
              have hB7 := hB7.moves M1 hT1 (by omega); have hLb10 := hLb10.toB.moves M1 hT1 (by omega); have hs17 := E37.size; have szM1 := M1.1.size; have icv3 := OwnedB.isC (Owned.toB hO2); refine Wo_nil ?_; refine ⟨E43, ?_⟩
              refine Wh_take 10 rfl (by kernel_rfl) (by kernel_rfl) rfl (fun _ _ => opv_fieldAddr Try.underlying25 rfl rfl Try.sizeOf23 rfl) E43 ?_; refine Wh_all (rs := [11]) (by kernel_rfl) rfl ?_; refine WhAll_cons rfl ?_ ?_
              refine Wo_st (v := v3) rfl Try.sizeOf23 rfl rfl (OwnedB.isC hO2.toB) hB (by simp) (by omega) E37 ?_; rintro w21 E44 hB K5 hz5; have E45 := E38.wroteAt E37 E44 K5 hz5 (by omega); have szE45 := E45.size
              have E46 := E39.wroteAt E37 E44 K5 hz5 (by omega); have szE46 := E46.size; have E47 := E40.wroteAt E37 E44 K5 hz5 (by omega); have szE47 := E47.size; have E48 := E41.wroteAt E37 E44 K5 hz5 (by omega); have szE48 := E48.size
              have E49 := E42.wroteAt E37 E44 K5 hz5 (by omega); have szE49 := E49.size; have E50 := E43.wroteAt E37 E44 K5 hz5 (by omega); have szE50 := E50.size; simp only [List.set] at hB; have hO2 := hO2.toB.wrote K5 (by omega)
              have hO := hO.wrote K5 (by omega); have B7 := B7.of_heap (K5 _ (by omega)); have B8 := B8.of_heap (K5 _ (by omega)); have hB7 := hB7.of_heap (K5 _ (by omega)); have hLb10 := hLb10.wrote K5 (by omega); refine Wo_nil ?_
              refine ⟨E50, ?_⟩; refine Wh_done (by kernel_rfl) ?_; refine W_region rfl ?_; refine Wo rfl (opv_move (v := .int _ _) rfl) ?_; refine Wo rfl (opv_add rfl rfl (by omega)) ?_; refine Wo rfl (opv_assign (v := .int _ _) rfl) ?_
              refine Wo_nil ?_; rotate_left; exact WhAll_nil; exact WhAll_nil; exact WhAll_nil; refine WhAll_cons rfl ?_ ?_
              refine Wo_buildSliceH (ps := [(0, .int _ _), (1, .int _ _)]) (cs := [_, _]) rfl Try.underlying23 Try.sizeOf3 Try.zeroValue3 rfl rfl rfl rfl ?_; rintro b10 w19 hb7 E36 hB7 hHb10; have hlb10 := hB7.lt; have hLb10 := own_lit2 hHb10 hb7
              clear hHb10; have hs16 := E36.size; refine Wo_nil ?_; refine ⟨((((E16.trans E33).trans E34).trans E35).trans E36), ?_⟩; refine Wh_all (rs := [1]) (by kernel_rfl) rfl ?_; refine WhAll_cons rfl ?_ ?_
              refine Wo (v := o2) rfl (opv_load Try.isAgg23 rfl ((hB.ext (((E33.trans E34).trans E35).trans E36)).cell rfl)) ?_; refine Wo_nil ?_; refine ⟨((((E16.trans E33).trans E34).trans E35).trans E36), ?_⟩
              refine Wh_all (rs := [9]) (by kernel_rfl) rfl ?_; refine WhAll_cons rfl ?_ ?_
              refine Wo_appS rfl el23 rfl rfl (Owned.read hLb10) (hO2.toB.ext (((E33.trans E34).trans E35).trans E36)) (by first | omega | (simp <;> omega)) (by omega) (by omega) (((((Ew.trans E16).trans E33).trans E34).trans E35).trans E36) (by omega) ?_
              have hT1 := (hO2.toB.ext (((E33.trans E34).trans E35).trans E36)); rintro v3 w20 hO2 E37 M1; have E38 := M1.ext hT1 ((((((E17.trans Ex).trans E16).trans E33).trans E34).trans E35).trans E36) (by omega); have szE38 := E38.size
              have E39 := M1.ext hT1 ((((((E18.trans Ex).trans E16).trans E33).trans E34).trans E35).trans E36) (by omega); have szE39 := E39.size
              have E40 := M1.ext hT1 ((((((E19.trans Ex).trans E16).trans E33).trans E34).trans E35).trans E36) (by omega); have szE40 := E40.size; have E41 := M1.ext hT1 (((((Ex.trans E16).trans E33).trans E34).trans E35).trans E36) (by omega)
              have szE41 := E41.size; have E42 := M1.ext hT1 (((((E21.trans E16).trans E33).trans E34).trans E35).trans E36) (by omega); have szE42 := E42.size; have E43 := M1.ext hT1 ((((E16.trans E33).trans E34).trans E35).trans E36) (by omega)
              have szE43 := E43.size; have hB := (hB.ext (((E33.trans E34).trans E35).trans E36)).moves M1 hT1 (by omega); have hO := (hO.ext (((E33.trans E34).trans E35).trans E36)).moves M1 hT1 (by omega)
              have B7 := (B7.ext ((((E16.trans E33).trans E34).trans E35).trans E36)).moves M1 hT1 (by omega); have B8 := (B8.ext ((((E16.trans E33).trans E34).trans E35).trans E36)).moves M1 hT1 (by omega)
              have hB7 := hB7.moves M1 hT1 (by omega); have hLb10 := hLb10.toB.moves M1 hT1 (by omega); have hs17 := E37.size; have szM1 := M1.1.size; have icv3 := OwnedB.isC (Owned.toB hO2); refine Wo_nil ?_; refine ⟨E43, ?_⟩
              refine Wh_take 10 rfl (by kernel_rfl) (by kernel_rfl) rfl (fun _ _ => opv_fieldAddr Try.underlying25 rfl rfl Try.sizeOf23 rfl) E43 ?_; refine Wh_all (rs := [11]) (by kernel_rfl) rfl ?_; refine WhAll_cons rfl ?_ ?_
              refine Wo_st (v := v3) rfl Try.sizeOf23 rfl rfl (OwnedB.isC hO2.toB) hB (by simp) (by omega) E37 ?_; rintro w21 E44 hB K5 hz5; have E45 := E38.wroteAt E37 E44 K5 hz5 (by omega); have szE45 := E45.size
              have E46 := E39.wroteAt E37 E44 K5 hz5 (by omega); have szE46 := E46.size; have E47 := E40.wroteAt E37 E44 K5 hz5 (by omega); have szE47 := E47.size; have E48 := E41.wroteAt E37 E44 K5 hz5 (by omega); have szE48 := E48.size
              have E49 := E42.wroteAt E37 E44 K5 hz5 (by omega); have szE49 := E49.size; have E50 := E43.wroteAt E37 E44 K5 hz5 (by omega); have szE50 := E50.size; simp only [List.set] at hB; have hO2 := hO2.toB.wrote K5 (by omega)
              have hO := hO.wrote K5 (by omega); have B7 := B7.of_heap (K5 _ (by omega)); have B8 := B8.of_heap (K5 _ (by omega)); have hB7 := hB7.of_heap (K5 _ (by omega)); have hLb10 := hLb10.wrote K5 (by omega); refine Wo_nil ?_
              refine ⟨E50, ?_⟩; refine Wh_done (by kernel_rfl) ?_; refine W_region rfl ?_; refine Wo rfl (opv_move (v := .int _ _) rfl) ?_; refine Wo rfl (opv_add rfl rfl (by omega)) ?_; refine Wo rfl (opv_assign (v := .int _ _) rfl) ?_
              refine Wo_nil ?_; rotate_left; exact WhAll_nil; exact WhAll_nil; exact WhAll_nil; exact WhAll_nil; exact WhAll_nil; exact WhAll_nil; contradiction
            all_goals
              refine ⟨(i + 1, v3), by repeat (first | exact trivial | refine And.intro rfl ?_), by repeat (first | with_reducible exact Same.refl | refine Same.upd rfl ?_ | refine Same.upds rfl ?_ | refine Same.mix rfl ?_), ?_, by simp only; omega⟩
              exact ⟨by assumption, by omega, by omega, by assumption, by assumption, OwnedB.o (he ▸ hO2)⟩
          · obtain rfl : i = L := by omega
            have hB3 := P6.2
            focus
              have szE16 := E16.size; have szE15 := E15.size; have szE14 := E14.size; have szE32 := E32.size; have szE31 := E31.size; have szE30 := E30.size; have szE29 := E29.size; have szE28 := E28.size; have szE27 := E27.size
              have szE26 := E26.size; have szE25 := E25.size; have szE24 := E24.size; have szE23 := E23.size; have szE22 := E22.size; have szEw := Ew.size; have szEx := Ex.size; have szE21 := E21.size; have szE20 := E20.size
              have szE19 := E19.size; have szE18 := E18.size; have szE17 := E17.size; have szE16 := E16.size; have szE15 := E15.size; have szE14 := E14.size; have szE13 := E13.size; have szE12 := E12.size; have szE11 := E11.size
              have szE10 := E10.size; have szE9 := E9.size; have szE8 := E8.size; have szE7 := E7.size; have szE6 := E6.size; have szE5 := E5.size; have szE4 := E4.size; have szE3 := E3.size; have szE2 := E2.size; have szE1 := E1.size
              refine W_seq ?_; refine W_seq ?_; refine W_region rfl ?_; refine Wo rfl (opv_move (v := .int _ _) rfl) ?_; refine Wo rfl (opv_move (v := .int _ _) rfl) ?_; refine Wo rfl (opv_leq rfl rfl) ?_; refine Wo_nil ?_
              refine W_cond_dec rfl (fun h11 => ?_) (fun h11 => ?_); (exfalso; omega); refine W_exit ?_; refine exitX_same ?_; refine W_seq ?_; refine W_region rfl ?_; refine Wo (v := .agg _) rfl (opv_load2 Try.isAgg25 Try.sizeOf25 rfl hB) ?_
              refine Wo_call rfl (opc1 (a := .agg _) Try.call53 rfl) (b3 _ _ _ ((OwnedB.read hO)) ((Owned.read hO2))) ?_; rintro _ w16 ⟨u5, q3, rfl, E33, hO3, hQ3, hd3⟩; have icu5 := OwnedB.isC (Owned.toB hO3)
              have cpu5 := OwnedB.capOk (Owned.toB hO3); have icq3 := OwnedB.isC (Owned.toB hQ3); have cpq3 := OwnedB.capOk (Owned.toB hQ3); have hs11 := E33.size
              refine Wo_st2 rfl Try.sizeOf25 rfl rfl (by first | rfl | assumption) (by first | rfl | assumption) (hB3.ext (E16.trans E33)) (by omega) ((Ew.trans E16).trans E33) ?_; rintro w17 E34 hB3 K4 hz4
              have hB := (hB.ext E33).of_heap (K4 _ (by omega)); have hO := (hO.ext E33).wrote K4 (by omega); have hO2 := (hO2.toB.ext E33).wrote K4 (by omega); have hO3 := hO3.toB.wrote K4 (by omega); have hQ3 := hQ3.toB.wrote K4 (by omega)
              refine Wo rfl (opv_assign (v := .bool _) rfl) ?_; refine Wo_nil ?_; refine W_ret ?_
            all_goals exact ⟨_, _, _, rfl, by assumption, _, _, rfl, by assumption, hO3.o.mono (by omega), hQ3.o.mono (by omega), hd3⟩
      · rw [if_neg hc]
        clear ctx
        by_cases hnm : (shR f).length = (shR g).length
        · have hL' : L = (shR f).length := by rw [← hL]; exact if_pos hnm
          have hnm' : ((shR f).length : Int) = ((shR g).length : Int) := by omega
          by_cases h5 : (shR f).length * (shR g).length ≤ 5
          · have := hsm.1 (.inl h5)
            focus
              refine W_seq ?_; refine W_region rfl ?_; refine Wo_box rfl rfl rfl ?_; rintro b1 w1 hb1 E1 hB1; have hlb1 := hB1.lt; have hs1 := E1.size; refine Wo_box rfl rfl rfl ?_; rintro b2 w2 hb2 E2 hB2; have hlb2 := hB2.lt
              have hs2 := E2.size; refine Wo_alloc2 rfl flat25 ?_; rintro b3 w3 hb3 E3 hB3; have hlb3 := hB3.lt; have hs3 := E3.size; refine Wo rfl (opv_assign (v := .bool _) rfl) ?_; refine Wo_nil ?_; refine W_seq ?_; refine W_region rfl ?_
              refine Wo (v := .agg _) rfl (opv_load2 Try.isAgg25 Try.sizeOf25 rfl (hB1.ext (E2.trans E3))) ?_
              refine Wo_call rfl (opc1 (a := .agg _) Try.call53 rfl) (k1 _ _ _ ((Mono.mono ((E1.trans E2).trans E3) h1)) ((Mono.mono ((E1.trans E2).trans E3) h2))) ?_; rintro _ w4 ⟨u3, q1, rfl, E4, hO1, hQ1, hd1⟩
              have icu3 := OwnedB.isC (Owned.toB hO1); have cpu3 := OwnedB.capOk (Owned.toB hO1); have icq1 := OwnedB.isC (Owned.toB hQ1); have cpq1 := OwnedB.capOk (Owned.toB hQ1); have hs4 := E4.size; refine Wo_alloc2 rfl flat25 ?_
              rintro b4 w5 hb4 E5 hB4; have hlb4 := hB4.lt; have hs5 := E5.size; refine Wo_st2 rfl Try.sizeOf25 rfl rfl (by first | rfl | assumption) (by first | rfl | assumption) hB4 (by omega) ((((E1.trans E2).trans E3).trans E4).trans E5) ?_
              rintro w6 E6 hB4 K1 hz1; have E7 := (((E2.trans E3).trans E4).trans E5).wroteAt ((((E1.trans E2).trans E3).trans E4).trans E5) E6 K1 hz1 (by omega); have szE7 := E7.size
              have E8 := ((E3.trans E4).trans E5).wroteAt ((((E1.trans E2).trans E3).trans E4).trans E5) E6 K1 hz1 (by omega); have szE8 := E8.size
              have E9 := (E4.trans E5).wroteAt ((((E1.trans E2).trans E3).trans E4).trans E5) E6 K1 hz1 (by omega); have szE9 := E9.size; have E10 := E5.wroteAt ((((E1.trans E2).trans E3).trans E4).trans E5) E6 K1 hz1 (by omega)
              have szE10 := E10.size; have hB1 := (hB1.ext (((E2.trans E3).trans E4).trans E5)).of_heap (K1 _ (by omega)); have hB2 := (hB2.ext ((E3.trans E4).trans E5)).of_heap (K1 _ (by omega))
              have hB3 := (hB3.ext (E4.trans E5)).of_heap (K1 _ (by omega)); have hO1 := (hO1.toB.ext E5).wrote K1 (by omega); have hQ1 := (hQ1.toB.ext E5).wrote K1 (by omega); refine Wo_nil ?_; refine W_seq ?_; refine W_region rfl ?_
              refine Wo (v := .agg _) rfl (opv_load2 Try.isAgg25 Try.sizeOf25 rfl hB2) ?_; refine Wo_call rfl (opc1 (a := .agg _) Try.call53 rfl) (k2 _ _ _ ((Mono.mono E6 h3)) ((Mono.mono E6 h4))) ?_; rintro _ w7 ⟨u4, q2, rfl, E11, hO2, hQ2, hd2⟩
              have icu4 := OwnedB.isC (Owned.toB hO2); have cpu4 := OwnedB.capOk (Owned.toB hO2); have icq2 := OwnedB.isC (Owned.toB hQ2); have cpq2 := OwnedB.capOk (Owned.toB hQ2); have hs6 := E11.size; refine Wo_alloc2 rfl flat25 ?_
              rintro b5 w8 hb5 E12 hB5; have hlb5 := hB5.lt; have hs7 := E12.size; refine Wo_st2 rfl Try.sizeOf25 rfl rfl (by first | rfl | assumption) (by first | rfl | assumption) hB5 (by omega) ((E6.trans E11).trans E12) ?_
              rintro w9 E13 hB5 K2 hz2; have E14 := ((E7.trans E11).trans E12).wroteAt ((E6.trans E11).trans E12) E13 K2 hz2 (by omega); have szE14 := E14.size
              have E15 := ((E8.trans E11).trans E12).wroteAt ((E6.trans E11).trans E12) E13 K2 hz2 (by omega); have szE15 := E15.size; have E16 := ((E9.trans E11).trans E12).wroteAt ((E6.trans E11).trans E12) E13 K2 hz2 (by omega)
              have szE16 := E16.size; have E17 := ((E10.trans E11).trans E12).wroteAt ((E6.trans E11).trans E12) E13 K2 hz2 (by omega); have szE17 := E17.size; have E18 := (E11.trans E12).wroteAt ((E6.trans E11).trans E12) E13 K2 hz2 (by omega)
              have szE18 := E18.size; have E19 := E12.wroteAt ((E6.trans E11).trans E12) E13 K2 hz2 (by omega); have szE19 := E19.size; have hB4 := (hB4.ext (E11.trans E12)).of_heap (K2 _ (by omega))
              have hB1 := (hB1.ext (E11.trans E12)).of_heap (K2 _ (by omega)); have hB2 := (hB2.ext (E11.trans E12)).of_heap (K2 _ (by omega)); have hB3 := (hB3.ext (E11.trans E12)).of_heap (K2 _ (by omega))
              have hO1 := (hO1.ext (E11.trans E12)).wrote K2 (by omega); have hQ1 := (hQ1.ext (E11.trans E12)).wrote K2 (by omega); have hO2 := (hO2.toB.ext E12).wrote K2 (by omega); have hQ2 := (hQ2.toB.ext E12).wrote K2 (by omega)
              refine Wo_nil ?_; refine W_seq ?_; refine W_region rfl ?_; refine Wo rfl (opv_fieldAddr Try.underlying25 rfl rfl Try.sizeOf23 rfl) ?_; refine Wo (v := q1) rfl (opv_load Try.isAgg23 rfl (hB4.cell rfl)) ?_
              refine Wo rfl (opv_len Try.underlying23 rfl (OwnedB.read hQ1)) ?_; refine Wo rfl (opv_assign (v := .int _ _) rfl) ?_; refine Wo_nil ?_; refine W_seq ?_; refine W_region rfl ?_
              refine Wo rfl (opv_fieldAddr Try.underlying25 rfl rfl Try.sizeOf23 rfl) ?_; refine Wo (v := q2) rfl (opv_load Try.isAgg23 rfl (hB5.cell rfl)) ?_; refine Wo rfl (opv_len Try.underlying23 rfl (OwnedB.read hQ2)) ?_
              refine Wo rfl (opv_assign (v := .int _ _) rfl) ?_; refine Wo_nil ?_; refine W_seq ?_; refine W_region rfl ?_; refine Wo rfl (opv_move (v := .int _ _) rfl) ?_; refine Wo rfl (opv_move (v := .int _ _) rfl) ?_
              refine Wo rfl (opv_mul rfl rfl (by omega)) ?_; refine Wo rfl (opv_leq rfl rfl) ?_; refine Wo_split_dec rfl (opv_move (v := .bool _) rfl) (fun h6 => ?_) (fun h6 => ?_); refine Wo_skip rfl ?_; refine Wo_skip rfl ?_
              refine Wo_skip rfl ?_; refine Wo_skip rfl ?_; refine Wo_skip rfl ?_; refine Wo_skip rfl ?_; refine Wo_skip rfl ?_; refine Wo rfl (opv_pick_t (v := .bool _) rfl rfl) ?_; refine Wo rfl (opv_assign (v := .bool _) rfl) ?_
              refine Wo_nil ?_; refine W_seq ?_; refine W_seq ?_; refine W_region rfl ?_; refine Wo (v := .agg _) rfl (opv_load2 Try.isAgg25 Try.sizeOf25 rfl hB1) ?_
              refine Wo_call rfl (opc1 (a := .agg _) Try.call16 rfl) (k3 _ _ _ ((Mono.mono E13 h1)) ((Mono.mono E13 h2))) ?_; rintro _ w10 ⟨rfl, E20⟩; have hs8 := E20.size; refine Wo rfl (opv_not rfl) ?_
              refine Wo_split rfl (opv_move (v := .bool _) rfl) (fun h7 => ?_) (fun h7 => ?_); contradiction; refine Wo (v := .agg _) rfl (opv_load2 Try.isAgg25 Try.sizeOf25 rfl (hB2.ext E20)) ?_
              refine Wo_call rfl (opc1 (a := .agg _) Try.call16 rfl) (k4 _ _ _ ((Mono.mono (E13.trans E20) h3)) ((Mono.mono (E13.trans E20) h4))) ?_; rintro _ w11 ⟨rfl, E21⟩; have hs9 := E21.size; refine Wo rfl (opv_not rfl) ?_
              refine Wo rfl (opv_pick_f (v := .bool _) rfl rfl) ?_; refine Wo_split rfl (opv_move (v := .bool _) rfl) (fun h8 => ?_) (fun h8 => ?_); contradiction; refine Wo rfl (opv_fieldAddr Try.underlying25 rfl rfl Try.sizeOf23 rfl) ?_
              refine Wo (v := u3) rfl (opv_load Try.isAgg23 rfl ((hB4.ext (E20.trans E21)).cell rfl)) ?_; refine Wo rfl (opv_len Try.underlying23 rfl (OwnedB.read hO1)) ?_; refine Wo rfl (opv_gtr rfl rfl) ?_
              refine Wo rfl (opv_pick_f (v := .bool _) rfl rfl) ?_; refine Wo_split_dec rfl (opv_move (v := .bool _) rfl) (fun h9 => ?_) (fun h9 => ?_); refine Wo_skip rfl ?_; refine Wo_skip rfl ?_; refine Wo_skip rfl ?_; refine Wo_skip rfl ?_
              refine Wo rfl (opv_pick_t (v := .bool _) rfl rfl) ?_; refine Wo rfl (opv_move (v := .bool _) rfl) ?_; refine Wo_skip rfl ?_; refine Wo_skip rfl ?_; refine Wo rfl (opv_pick_t (v := .bool _) rfl rfl) ?_; refine Wo_nil ?_
              refine W_cond_true rfl ?_; refine W_seq ?_; refine W_region rfl ?_; refine Wo rfl (opv_build (ps := []) (cs := [_, _]) flat25 rfl rfl) ?_
              refine Wo_st2 rfl Try.sizeOf25 rfl rfl (by first | rfl | assumption) (by first | rfl | assumption) (hB3.ext (E20.trans E21)) (by omega) ((E13.trans E20).trans E21) ?_; rintro w12 E22 hB3 K3 hz3
              have E23 := ((E14.trans E20).trans E21).wroteAt ((E13.trans E20).trans E21) E22 K3 hz3 (by omega); have szE23 := E23.size; have E24 := ((E15.trans E20).trans E21).wroteAt ((E13.trans E20).trans E21) E22 K3 hz3 (by omega)
              have szE24 := E24.size; have hB5 := (hB5.ext (E20.trans E21)).of_heap (K3 _ (by omega)); have hB4 := (hB4.ext (E20.trans E21)).of_heap (K3 _ (by omega)); have hB1 := (hB1.ext (E20.trans E21)).of_heap (K3 _ (by omega))
              have hB2 := (hB2.ext (E20.trans E21)).of_heap (K3 _ (by omega)); have hO1 := (hO1.ext (E20.trans E21)).wrote K3 (by omega); have hQ1 := (hQ1.ext (E20.trans E21)).wrote K3 (by omega)
              have hO2 := (hO2.ext (E20.trans E21)).wrote K3 (by omega); have hQ2 := (hQ2.ext (E20.trans E21)).wrote K3 (by omega); refine Wo rfl (opv_assign (v := .bool _) rfl) ?_; refine Wo_nil ?_; refine W_ret ?_; rotate_left
              refine Wo rfl (opv_fieldAddr Try.underlying25 rfl rfl Try.sizeOf23 rfl) ?_; refine Wo (v := u4) rfl (opv_load Try.isAgg23 rfl ((hB5.ext (E20.trans E21)).cell rfl)) ?_
              refine Wo rfl (opv_len Try.underlying23 rfl (OwnedB.read hO2)) ?_; refine Wo rfl (opv_gtr rfl rfl) ?_; refine Wo rfl (opv_pick_f (v := .bool _) rfl rfl) ?_
              refine Wo_split_dec rfl (opv_move (v := .bool _) rfl) (fun h10 => ?_) (fun h10 => ?_); refine Wo_skip rfl ?_; refine Wo_skip rfl ?_; refine Wo rfl (opv_pick_t (v := .bool _) rfl rfl) ?_; refine Wo_nil ?_; refine W_cond_true rfl ?_
              refine W_seq ?_; refine W_region rfl ?_; refine Wo rfl (opv_build (ps := []) (cs := [_, _]) flat25 rfl rfl) ?_
              refine Wo_st2 rfl Try.sizeOf25 rfl rfl (by first | rfl | assumption) (by first | rfl | assumption) (hB3.ext (E20.trans E21)) (by omega) ((E13.trans E20).trans E21) ?_; rintro w12 E22 hB3 K3 hz3
              have E23 := ((E14.trans E20).trans E21).wroteAt ((E13.trans E20).trans E21) E22 K3 hz3 (by omega); have szE23 := E23.size; have E24 := ((E15.trans E20).trans E21).wroteAt ((E13.trans E20).trans E21) E22 K3 hz3 (by omega)
              have szE24 := E24.size; have hB5 := (hB5.ext (E20.trans E21)).of_heap (K3 _ (by omega)); have hB4 := (hB4.ext (E20.trans E21)).of_heap (K3 _ (by omega)); have hB1 := (hB1.ext (E20.trans E21)).of_heap (K3 _ (by omega))
              have hB2 := (hB2.ext (E20.trans E21)).of_heap (K3 _ (by omega)); have hO1 := (hO1.ext (E20.trans E21)).wrote K3 (by omega); have hQ1 := (hQ1.ext (E20.trans E21)).wrote K3 (by omega)
              have hO2 := (hO2.ext (E20.trans E21)).wrote K3 (by omega); have hQ2 := (hQ2.ext (E20.trans E21)).wrote K3 (by omega); refine Wo rfl (opv_assign (v := .bool _) rfl) ?_; refine Wo_nil ?_; refine W_ret ?_; rotate_left; (exfalso; omega)
              (exfalso; omega)
            all_goals first | exact ⟨_, _, _, rfl, by assumption, _, _, rfl, by assumption, Owned.nil, Owned.nil, .inr rfl⟩ | (exfalso; omega)
          · focus
              refine W_seq ?_; refine W_region rfl ?_; refine Wo_box rfl rfl rfl ?_; rintro b1 w1 hb1 E1 hB1; have hlb1 := hB1.lt; have hs1 := E1.size; refine Wo_box rfl rfl rfl ?_; rintro b2 w2 hb2 E2 hB2; have hlb2 := hB2.lt
              have hs2 := E2.size; refine Wo_alloc2 rfl flat25 ?_; rintro b3 w3 hb3 E3 hB3; have hlb3 := hB3.lt; have hs3 := E3.size; refine Wo rfl (opv_assign (v := .bool _) rfl) ?_; refine Wo_nil ?_; refine W_seq ?_; refine W_region rfl ?_
              refine Wo (v := .agg _) rfl (opv_load2 Try.isAgg25 Try.sizeOf25 rfl (hB1.ext (E2.trans E3))) ?_
              refine Wo_call rfl (opc1 (a := .agg _) Try.call53 rfl) (k1 _ _ _ ((Mono.mono ((E1.trans E2).trans E3) h1)) ((Mono.mono ((E1.trans E2).trans E3) h2))) ?_; rintro _ w4 ⟨u3, q1, rfl, E4, hO1, hQ1, hd1⟩
              have icu3 := OwnedB.isC (Owned.toB hO1); have cpu3 := OwnedB.capOk (Owned.toB hO1); have icq1 := OwnedB.isC (Owned.toB hQ1); have cpq1 := OwnedB.capOk (Owned.toB hQ1); have hs4 := E4.size; refine Wo_alloc2 rfl flat25 ?_
              rintro b4 w5 hb4 E5 hB4; have hlb4 := hB4.lt; have hs5 := E5.size; refine Wo_st2 rfl Try.sizeOf25 rfl rfl (by first | rfl | assumption) (by first | rfl | assumption) hB4 (by omega) ((((E1.trans E2).trans E3).trans E4).trans E5) ?_
              rintro w6 E6 hB4 K1 hz1; have E7 := (((E2.trans E3).trans E4).trans E5).wroteAt ((((E1.trans E2).trans E3).trans E4).trans E5) E6 K1 hz1 (by omega); have szE7 := E7.size
              have E8 := ((E3.trans E4).trans E5).wroteAt ((((E1.trans E2).trans E3).trans E4).trans E5) E6 K1 hz1 (by omega); have szE8 := E8.size
              have E9 := (E4.trans E5).wroteAt ((((E1.trans E2).trans E3).trans E4).trans E5) E6 K1 hz1 (by omega); have szE9 := E9.size; have E10 := E5.wroteAt ((((E1.trans E2).trans E3).trans E4).trans E5) E6 K1 hz1 (by omega)
              have szE10 := E10.size; have hB1 := (hB1.ext (((E2.trans E3).trans E4).trans E5)).of_heap (K1 _ (by omega)); have hB2 := (hB2.ext ((E3.trans E4).trans E5)).of_heap (K1 _ (by omega))
              have hB3 := (hB3.ext (E4.trans E5)).of_heap (K1 _ (by omega)); have hO1 := (hO1.toB.ext E5).wrote K1 (by omega); have hQ1 := (hQ1.toB.ext E5).wrote K1 (by omega); refine Wo_nil ?_; refine W_seq ?_; refine W_region rfl ?_
              refine Wo (v := .agg _) rfl (opv_load2 Try.isAgg25 Try.sizeOf25 rfl hB2) ?_; refine Wo_call rfl (opc1 (a := .agg _) Try.call53 rfl) (k2 _ _ _ ((Mono.mono E6 h3)) ((Mono.mono E6 h4))) ?_; rintro _ w7 ⟨u4, q2, rfl, E11, hO2, hQ2, hd2⟩
              have icu4 := OwnedB.isC (Owned.toB hO2); have cpu4 := OwnedB.capOk (Owned.toB hO2); have icq2 := OwnedB.isC (Owned.toB hQ2); have cpq2 := OwnedB.capOk (Owned.toB hQ2); have hs6 := E11.size; refine Wo_alloc2 rfl flat25 ?_
              rintro b5 w8 hb5 E12 hB5; have hlb5 := hB5.lt; have hs7 := E12.size; refine Wo_st2 rfl Try.sizeOf25 rfl rfl (by first | rfl | assumption) (by first | rfl | assumption) hB5 (by omega) ((E6.trans E11).trans E12) ?_
              rintro w9 E13 hB5 K2 hz2; have E14 := ((E7.trans E11).trans E12).wroteAt ((E6.trans E11).trans E12) E13 K2 hz2 (by omega); have szE14 := E14.size
              have E15 := ((E8.trans E11).trans E12).wroteAt ((E6.trans E11).trans E12) E13 K2 hz2 (by omega); have szE15 := E15.size; have E16 := ((E9.trans E11).trans E12).wroteAt ((E6.trans E11).trans E12) E13 K2 hz2 (by omega)
              have szE16 := E16.size; have E17 := ((E10.trans E11).trans E12).wroteAt ((E6.trans E11).trans E12) E13 K2 hz2 (by omega); have szE17 := E17.size; have E18 := (E11.trans E12).wroteAt ((E6.trans E11).trans E12) E13 K2 hz2 (by omega)
              have szE18 := E18.size; have E19 := E12.wroteAt ((E6.trans E11).trans E12) E13 K2 hz2 (by omega); have szE19 := E19.size; have hB4 := (hB4.ext (E11.trans E12)).of_heap (K2 _ (by omega))
              have hB1 := (hB1.ext (E11.trans E12)).of_heap (K2 _ (by omega)); have hB2 := (hB2.ext (E11.trans E12)).of_heap (K2 _ (by omega)); have hB3 := (hB3.ext (E11.trans E12)).of_heap (K2 _ (by omega))
              have hO1 := (hO1.ext (E11.trans E12)).wrote K2 (by omega); have hQ1 := (hQ1.ext (E11.trans E12)).wrote K2 (by omega); have hO2 := (hO2.toB.ext E12).wrote K2 (by omega); have hQ2 := (hQ2.toB.ext E12).wrote K2 (by omega)
              refine Wo_nil ?_; refine W_seq ?_; refine W_region rfl ?_; refine Wo rfl (opv_fieldAddr Try.underlying25 rfl rfl Try.sizeOf23 rfl) ?_; refine Wo (v := q1) rfl (opv_load Try.isAgg23 rfl (hB4.cell rfl)) ?_
              refine Wo rfl (opv_len Try.underlying23 rfl (OwnedB.read hQ1)) ?_; refine Wo rfl (opv_assign (v := .int _ _) rfl) ?_; refine Wo_nil ?_; refine W_seq ?_; refine W_region rfl ?_
              refine Wo rfl (opv_fieldAddr Try.underlying25 rfl rfl Try.sizeOf23 rfl) ?_; refine Wo (v := q2) rfl (opv_load Try.isAgg23 rfl (hB5.cell rfl)) ?_; refine Wo rfl (opv_len Try.underlying23 rfl (OwnedB.read hQ2)) ?_
              refine Wo rfl (opv_assign (v := .int _ _) rfl) ?_; refine Wo_nil ?_; refine W_seq ?_; refine W_region rfl ?_; refine Wo rfl (opv_move (v := .int _ _) rfl) ?_; refine Wo rfl (opv_move (v := .int _ _) rfl) ?_
              refine Wo rfl (opv_mul rfl rfl (by omega)) ?_; refine Wo rfl (opv_leq rfl rfl) ?_; refine Wo_split_dec rfl (opv_move (v := .bool _) rfl) (fun h6 => ?_) (fun h6 => ?_); (exfalso; omega)
              refine Wo rfl (opv_move (v := .int _ _) rfl) ?_; refine Wo rfl (opv_move (v := .int _ _) rfl) ?_; refine Wo rfl (opv_eql rfl rfl) ?_; refine Wo_split_dec rfl (opv_move (v := .bool _) rfl) (fun h7 => ?_) (fun h7 => ?_)
              refine Wo rfl (opv_move (v := .int _ _) rfl) ?_; refine Wo rfl (opv_leq rfl rfl) ?_; refine Wo rfl (opv_pick_t (v := .bool _) rfl rfl) ?_; refine Wo rfl (opv_pick_f (v := .bool _) rfl rfl) ?_
              refine Wo rfl (opv_assign (v := .bool _) rfl) ?_; refine Wo_nil ?_; refine W_seq ?_; refine W_seq ?_; refine W_region rfl ?_; refine Wo (v := .agg _) rfl (opv_load2 Try.isAgg25 Try.sizeOf25 rfl hB1) ?_
              refine Wo_call rfl (opc1 (a := .agg _) Try.call16 rfl) (k3 _ _ _ ((Mono.mono E13 h1)) ((Mono.mono E13 h2))) ?_; rintro _ w10 ⟨rfl, E20⟩; have hs8 := E20.size; refine Wo rfl (opv_not rfl) ?_
              refine Wo_split rfl (opv_move (v := .bool _) rfl) (fun h8 => ?_) (fun h8 => ?_); contradiction; refine Wo (v := .agg _) rfl (opv_load2 Try.isAgg25 Try.sizeOf25 rfl (hB2.ext E20)) ?_
              refine Wo_call rfl (opc1 (a := .agg _) Try.call16 rfl) (k4 _ _ _ ((Mono.mono (E13.trans E20) h3)) ((Mono.mono (E13.trans E20) h4))) ?_; rintro _ w11 ⟨rfl, E21⟩; have hs9 := E21.size; refine Wo rfl (opv_not rfl) ?_
              refine Wo rfl (opv_pick_f (v := .bool _) rfl rfl) ?_; refine Wo_split rfl (opv_move (v := .bool _) rfl) (fun h9 => ?_) (fun h9 => ?_); contradiction; refine Wo rfl (opv_fieldAddr Try.underlying25 rfl rfl Try.sizeOf23 rfl) ?_
              refine Wo (v := u3) rfl (opv_load Try.isAgg23 rfl ((hB4.ext (E20.trans E21)).cell rfl)) ?_; refine Wo rfl (opv_len Try.underlying23 rfl (OwnedB.read hO1)) ?_; refine Wo rfl (opv_gtr rfl rfl) ?_
              refine Wo rfl (opv_pick_f (v := .bool _) rfl rfl) ?_; refine Wo_split_dec rfl (opv_move (v := .bool _) rfl) (fun h10 => ?_) (fun h10 => ?_); refine Wo_skip rfl ?_; refine Wo_skip rfl ?_; refine Wo_skip rfl ?_; refine Wo_skip rfl ?_
              refine Wo rfl (opv_pick_t (v := .bool _) rfl rfl) ?_; refine Wo rfl (opv_move (v := .bool _) rfl) ?_; refine Wo_skip rfl ?_; refine Wo_skip rfl ?_; refine Wo rfl (opv_pick_t (v := .bool _) rfl rfl) ?_; refine Wo_nil ?_
              refine W_cond_true rfl ?_; refine W_seq ?_; refine W_region rfl ?_; refine Wo rfl (opv_build (ps := []) (cs := [_, _]) flat25 rfl rfl) ?_
              refine Wo_st2 rfl Try.sizeOf25 rfl rfl (by first | rfl | assumption) (by first | rfl | assumption) (hB3.ext (E20.trans E21)) (by omega) ((E13.trans E20).trans E21) ?_; rintro w12 E22 hB3 K3 hz3
              have E23 := ((E14.trans E20).trans E21).wroteAt ((E13.trans E20).trans E21) E22 K3 hz3 (by omega); have szE23 := E23.size; have E24 := ((E15.trans E20).trans E21).wroteAt ((E13.trans E20).trans E21) E22 K3 hz3 (by omega)
              have szE24 := E24.size; have hB5 := (hB5.ext (E20.trans E21)).of_heap (K3 _ (by omega)); have hB4 := (hB4.ext (E20.trans E21)).of_heap (K3 _ (by omega)); have hB1 := (hB1.ext (E20.trans E21)).of_heap (K3 _ (by omega))
              have hB2 := (hB2.ext (E20.trans E21)).of_heap (K3 _ (by omega)); have hO1 := (hO1.ext (E20.trans E21)).wrote K3 (by omega); have hQ1 := (hQ1.ext (E20.trans E21)).wrote K3 (by omega)
              have hO2 := (hO2.ext (E20.trans E21)).wrote K3 (by omega); have hQ2 := (hQ2.ext (E20.trans E21)).wrote K3 (by omega); refine Wo rfl (opv_assign (v := .bool _) rfl) ?_; refine Wo_nil ?_; refine W_ret ?_; rotate_left
              refine Wo rfl (opv_fieldAddr Try.underlying25 rfl rfl Try.sizeOf23 rfl) ?_; refine Wo (v := u4) rfl (opv_load Try.isAgg23 rfl ((hB5.ext (E20.trans E21)).cell rfl)) ?_
              refine Wo rfl (opv_len Try.underlying23 rfl (OwnedB.read hO2)) ?_; refine Wo rfl (opv_gtr rfl rfl) ?_; refine Wo rfl (opv_pick_f (v := .bool _) rfl rfl) ?_
              refine Wo_split_dec rfl (opv_move (v := .bool _) rfl) (fun h11 => ?_) (fun h11 => ?_); refine Wo_skip rfl ?_; refine Wo_skip rfl ?_; refine Wo rfl (opv_pick_t (v := .bool _) rfl rfl) ?_; refine Wo_nil ?_; refine W_cond_true rfl ?_
              refine W_seq ?_; refine W_region rfl ?_; refine Wo rfl (opv_build (ps := []) (cs := [_, _]) flat25 rfl rfl) ?_
              refine Wo_st2 rfl Try.sizeOf25 rfl rfl (by first | rfl | assumption) (by first | rfl | assumption) (hB3.ext (E20.trans E21)) (by omega) ((E13.trans E20).trans E21) ?_; rintro w12 E22 hB3 K3 hz3
              have E23 := ((E14.trans E20).trans E21).wroteAt ((E13.trans E20).trans E21) E22 K3 hz3 (by omega); have szE23 := E23.size; have E24 := ((E15.trans E20).trans E21).wroteAt ((E13.trans E20).trans E21) E22 K3 hz3 (by omega)
              have szE24 := E24.size; have hB5 := (hB5.ext (E20.trans E21)).of_heap (K3 _ (by omega)); have hB4 := (hB4.ext (E20.trans E21)).of_heap (K3 _ (by omega)); have hB1 := (hB1.ext (E20.trans E21)).of_heap (K3 _ (by omega))
              have hB2 := (hB2.ext (E20.trans E21)).of_heap (K3 _ (by omega)); have hO1 := (hO1.ext (E20.trans E21)).wrote K3 (by omega); have hQ1 := (hQ1.ext (E20.trans E21)).wrote K3 (by omega)
              have hO2 := (hO2.ext (E20.trans E21)).wrote K3 (by omega); have hQ2 := (hQ2.ext (E20.trans E21)).wrote K3 (by omega); refine Wo rfl (opv_assign (v := .bool _) rfl) ?_; refine Wo_nil ?_; refine W_ret ?_; rotate_left
              refine Wo rfl (opv_move (v := .bool _) rfl) ?_; refine Wo rfl (opv_not rfl) ?_; refine Wo rfl (opv_pick_f (v := .bool _) rfl rfl) ?_; refine Wo_nil ?_; refine W_cond_ndec rfl (fun h12 => ?_) (fun h12 => ?_); refine W_seq ?_
              refine W_region rfl ?_; refine Wo rfl (opv_build (ps := []) (cs := [_, _]) flat25 rfl rfl) ?_
              refine Wo_st2 rfl Try.sizeOf25 rfl rfl (by first | rfl | assumption) (by first | rfl | assumption) (hB3.ext (E20.trans E21)) (by omega) ((E13.trans E20).trans E21) ?_; rintro w12 E22 hB3 K3 hz3
              have E23 := ((E14.trans E20).trans E21).wroteAt ((E13.trans E20).trans E21) E22 K3 hz3 (by omega); have szE23 := E23.size; have E24 := ((E15.trans E20).trans E21).wroteAt ((E13.trans E20).trans E21) E22 K3 hz3 (by omega)
              have szE24 := E24.size; have hB5 := (hB5.ext (E20.trans E21)).of_heap (K3 _ (by omega)); have hB4 := (hB4.ext (E20.trans E21)).of_heap (K3 _ (by omega)); have hB1 := (hB1.ext (E20.trans E21)).of_heap (K3 _ (by omega))
              have hB2 := (hB2.ext (E20.trans E21)).of_heap (K3 _ (by omega)); have hO1 := (hO1.ext (E20.trans E21)).wrote K3 (by omega); have hQ1 := (hQ1.ext (E20.trans E21)).wrote K3 (by omega)
              have hO2 := (hO2.ext (E20.trans E21)).wrote K3 (by omega); have hQ2 := (hQ2.ext (E20.trans E21)).wrote K3 (by omega); refine Wo rfl (opv_assign (v := .bool _) rfl) ?_; refine Wo_nil ?_; refine W_ret ?_; rotate_left; (exfalso; omega)
              contradiction
            all_goals first | exact ⟨_, _, _, rfl, by assumption, _, _, rfl, by assumption, Owned.nil, Owned.nil, .inr rfl⟩ | (exfalso; omega)
        · have hL' : L = (shR f).length * (shR g).length := by rw [← hL]; exact if_neg hnm
          have hnm' : ¬ ((shR f).length : Int) = ((shR g).length : Int) := by omega
          focus
            refine W_seq ?_; refine W_region rfl ?_; refine Wo_box rfl rfl rfl ?_; rintro b1 w1 hb1 E1 hB1; have hlb1 := hB1.lt; have hs1 := E1.size; refine Wo_box rfl rfl rfl ?_; rintro b2 w2 hb2 E2 hB2; have hlb2 := hB2.lt
            have hs2 := E2.size; refine Wo_alloc2 rfl flat25 ?_; rintro b3 w3 hb3 E3 hB3; have hlb3 := hB3.lt; have hs3 := E3.size; refine Wo rfl (opv_assign (v := .bool _) rfl) ?_; refine Wo_nil ?_; refine W_seq ?_; refine W_region rfl ?_
            refine Wo (v := .agg _) rfl (opv_load2 Try.isAgg25 Try.sizeOf25 rfl (hB1.ext (E2.trans E3))) ?_
            refine Wo_call rfl (opc1 (a := .agg _) Try.call53 rfl) (k1 _ _ _ ((Mono.mono ((E1.trans E2).trans E3) h1)) ((Mono.mono ((E1.trans E2).trans E3) h2))) ?_; rintro _ w4 ⟨u3, q1, rfl, E4, hO1, hQ1, hd1⟩
            have icu3 := OwnedB.isC (Owned.toB hO1); have cpu3 := OwnedB.capOk (Owned.toB hO1); have icq1 := OwnedB.isC (Owned.toB hQ1); have cpq1 := OwnedB.capOk (Owned.toB hQ1); have hs4 := E4.size; refine Wo_alloc2 rfl flat25 ?_
            rintro b4 w5 hb4 E5 hB4; have hlb4 := hB4.lt; have hs5 := E5.size; refine Wo_st2 rfl Try.sizeOf25 rfl rfl (by first | rfl | assumption) (by first | rfl | assumption) hB4 (by omega) ((((E1.trans E2).trans E3).trans E4).trans E5) ?_
            rintro w6 E6 hB4 K1 hz1; have E7 := (((E2.trans E3).trans E4).trans E5).wroteAt ((((E1.trans E2).trans E3).trans E4).trans E5) E6 K1 hz1 (by omega); have szE7 := E7.size
            have E8 := ((E3.trans E4).trans E5).wroteAt ((((E1.trans E2).trans E3).trans E4).trans E5) E6 K1 hz1 (by omega); have szE8 := E8.size
            have E9 := (E4.trans E5).wroteAt ((((E1.trans E2).trans E3).trans E4).trans E5) E6 K1 hz1 (by omega); have szE9 := E9.size; have E10 := E5.wroteAt ((((E1.trans E2).trans E3).trans E4).trans E5) E6 K1 hz1 (by omega)
            have szE10 := E10.size; have hB1 := (hB1.ext (((E2.trans E3).trans E4).trans E5)).of_heap (K1 _ (by omega)); have hB2 := (hB2.ext ((E3.trans E4).trans E5)).of_heap (K1 _ (by omega))
            have hB3 := (hB3.ext (E4.trans E5)).of_heap (K1 _ (by omega)); have hO1 := (hO1.toB.ext E5).wrote K1 (by omega); have hQ1 := (hQ1.toB.ext E5).wrote K1 (by omega); refine Wo_nil ?_; refine W_seq ?_; refine W_region rfl ?_
            refine Wo (v := .agg _) rfl (opv_load2 Try.isAgg25 Try.sizeOf25 rfl hB2) ?_; refine Wo_call rfl (opc1 (a := .agg _) Try.call53 rfl) (k2 _ _ _ ((Mono.mono E6 h3)) ((Mono.mono E6 h4))) ?_; rintro _ w7 ⟨u4, q2, rfl, E11, hO2, hQ2, hd2⟩
            have icu4 := OwnedB.isC (Owned.toB hO2); have cpu4 := OwnedB.capOk (Owned.toB hO2); have icq2 := OwnedB.isC (Owned.toB hQ2); have cpq2 := OwnedB.capOk (Owned.toB hQ2); have hs6 := E11.size; refine Wo_alloc2 rfl flat25 ?_
            rintro b5 w8 hb5 E12 hB5; have hlb5 := hB5.lt; have hs7 := E12.size; refine Wo_st2 rfl Try.sizeOf25 rfl rfl (by first | rfl | assumption) (by first | rfl | assumption) hB5 (by omega) ((E6.trans E11).trans E12) ?_
            rintro w9 E13 hB5 K2 hz2; have E14 := ((E7.trans E11).trans E12).wroteAt ((E6.trans E11).trans E12) E13 K2 hz2 (by omega); have szE14 := E14.size
            have E15 := ((E8.trans E11).trans E12).wroteAt ((E6.trans E11).trans E12) E13 K2 hz2 (by omega); have szE15 := E15.size; have E16 := ((E9.trans E11).trans E12).wroteAt ((E6.trans E11).trans E12) E13 K2 hz2 (by omega)
            have szE16 := E16.size; have E17 := ((E10.trans E11).trans E12).wroteAt ((E6.trans E11).trans E12) E13 K2 hz2 (by omega); have szE17 := E17.size; have E18 := (E11.trans E12).wroteAt ((E6.trans E11).trans E12) E13 K2 hz2 (by omega)
            have szE18 := E18.size; have E19 := E12.wroteAt ((E6.trans E11).trans E12) E13 K2 hz2 (by omega); have szE19 := E19.size; have hB4 := (hB4.ext (E11.trans E12)).of_heap (K2 _ (by omega))
            have hB1 := (hB1.ext (E11.trans E12)).of_heap (K2 _ (by omega)); have hB2 := (hB2.ext (E11.trans E12)).of_heap (K2 _ (by omega)); have hB3 := (hB3.ext (E11.trans E12)).of_heap (K2 _ (by omega))
            have hO1 := (hO1.ext (E11.trans E12)).wrote K2 (by omega); have hQ1 := (hQ1.ext (E11.trans E12)).wrote K2 (by omega); have hO2 := (hO2.toB.ext E12).wrote K2 (by omega); have hQ2 := (hQ2.toB.ext E12).wrote K2 (by omega)
            refine Wo_nil ?_; refine W_seq ?_; refine W_region rfl ?_; refine Wo rfl (opv_fieldAddr Try.underlying25 rfl rfl Try.sizeOf23 rfl) ?_; refine Wo (v := q1) rfl (opv_load Try.isAgg23 rfl (hB4.cell rfl)) ?_
            refine Wo rfl (opv_len Try.underlying23 rfl (OwnedB.read hQ1)) ?_; refine Wo rfl (opv_assign (v := .int _ _) rfl) ?_; refine Wo_nil ?_; refine W_seq ?_; refine W_region rfl ?_
            refine Wo rfl (opv_fieldAddr Try.underlying25 rfl rfl Try.sizeOf23 rfl) ?_; refine Wo (v := q2) rfl (opv_load Try.isAgg23 rfl (hB5.cell rfl)) ?_; refine Wo rfl (opv_len Try.underlying23 rfl (OwnedB.read hQ2)) ?_
            refine Wo rfl (opv_assign (v := .int _ _) rfl) ?_; refine Wo_nil ?_; refine W_seq ?_; refine W_region rfl ?_; refine Wo rfl (opv_move (v := .int _ _) rfl) ?_; refine Wo rfl (opv_move (v := .int _ _) rfl) ?_
            refine Wo rfl (opv_mul rfl rfl (by omega)) ?_; refine Wo rfl (opv_leq rfl rfl) ?_; refine Wo_split_dec rfl (opv_move (v := .bool _) rfl) (fun h5 => ?_) (fun h5 => ?_); refine Wo_skip rfl ?_; refine Wo_skip rfl ?_
            refine Wo_skip rfl ?_; refine Wo_skip rfl ?_; refine Wo_skip rfl ?_; refine Wo_skip rfl ?_; refine Wo_skip rfl ?_; refine Wo rfl (opv_pick_t (v := .bool _) rfl rfl) ?_; refine Wo rfl (opv_assign (v := .bool _) rfl) ?_
            refine Wo_nil ?_; refine W_seq ?_; refine W_seq ?_; refine W_region rfl ?_; refine Wo (v := .agg _) rfl (opv_load2 Try.isAgg25 Try.sizeOf25 rfl hB1) ?_
            refine Wo_call rfl (opc1 (a := .agg _) Try.call16 rfl) (k3 _ _ _ ((Mono.mono E13 h1)) ((Mono.mono E13 h2))) ?_; rintro _ w10 ⟨rfl, E20⟩; have hs8 := E20.size; refine Wo rfl (opv_not rfl) ?_
            refine Wo_split rfl (opv_move (v := .bool _) rfl) (fun h6 => ?_) (fun h6 => ?_); contradiction; refine Wo (v := .agg _) rfl (opv_load2 Try.isAgg25 Try.sizeOf25 rfl (hB2.ext E20)) ?_
            refine Wo_call rfl (opc1 (a := .agg _) Try.call16 rfl) (k4 _ _ _ ((Mono.mono (E13.trans E20) h3)) ((Mono.mono (E13.trans E20) h4))) ?_; rintro _ w11 ⟨rfl, E21⟩; have hs9 := E21.size; refine Wo rfl (opv_not rfl) ?_
            refine Wo rfl (opv_pick_f (v := .bool _) rfl rfl) ?_; refine Wo_split rfl (opv_move (v := .bool _) rfl) (fun h7 => ?_) (fun h7 => ?_); contradiction; refine Wo rfl (opv_fieldAddr Try.underlying25 rfl rfl Try.sizeOf23 rfl) ?_
            refine Wo (v := u3) rfl (opv_load Try.isAgg23 rfl ((hB4.ext (E20.trans E21)).cell rfl)) ?_; refine Wo rfl (opv_len Try.underlying23 rfl (OwnedB.read hO1)) ?_; refine Wo rfl (opv_gtr rfl rfl) ?_
            refine Wo rfl (opv_pick_f (v := .bool _) rfl rfl) ?_; refine Wo_split_dec rfl (opv_move (v := .bool _) rfl) (fun h8 => ?_) (fun h8 => ?_); refine Wo_skip rfl ?_; refine Wo_skip rfl ?_; refine Wo_skip rfl ?_; refine Wo_skip rfl ?_
            refine Wo rfl (opv_pick_t (v := .bool _) rfl rfl) ?_; refine Wo rfl (opv_move (v := .bool _) rfl) ?_; refine Wo_skip rfl ?_; refine Wo_skip rfl ?_; refine Wo rfl (opv_pick_t (v := .bool _) rfl rfl) ?_; refine Wo_nil ?_
            refine W_cond_true rfl ?_; refine W_seq ?_; refine W_region rfl ?_; refine Wo rfl (opv_build (ps := []) (cs := [_, _]) flat25 rfl rfl) ?_
            refine Wo_st2 rfl Try.sizeOf25 rfl rfl (by first | rfl | assumption) (by first | rfl | assumption) (hB3.ext (E20.trans E21)) (by omega) ((E13.trans E20).trans E21) ?_; rintro w12 E22 hB3 K3 hz3
            have E23 := ((E14.trans E20).trans E21).wroteAt ((E13.trans E20).trans E21) E22 K3 hz3 (by omega); have szE23 := E23.size; have E24 := ((E15.trans E20).trans E21).wroteAt ((E13.trans E20).trans E21) E22 K3 hz3 (by omega)
            have szE24 := E24.size; have hB5 := (hB5.ext (E20.trans E21)).of_heap (K3 _ (by omega)); have hB4 := (hB4.ext (E20.trans E21)).of_heap (K3 _ (by omega)); have hB1 := (hB1.ext (E20.trans E21)).of_heap (K3 _ (by omega))
            have hB2 := (hB2.ext (E20.trans E21)).of_heap (K3 _ (by omega)); have hO1 := (hO1.ext (E20.trans E21)).wrote K3 (by omega); have hQ1 := (hQ1.ext (E20.trans E21)).wrote K3 (by omega)
            have hO2 := (hO2.ext (E20.trans E21)).wrote K3 (by omega); have hQ2 := (hQ2.ext (E20.trans E21)).wrote K3 (by omega); refine Wo rfl (opv_assign (v := .bool _) rfl) ?_; refine Wo_nil ?_; refine W_ret ?_; rotate_left
            refine Wo rfl (opv_fieldAddr Try.underlying25 rfl rfl Try.sizeOf23 rfl) ?_; refine Wo (v := u4) rfl (opv_load Try.isAgg23 rfl ((hB5.ext (E20.trans E21)).cell rfl)) ?_
            refine Wo rfl (opv_len Try.underlying23 rfl (OwnedB.read hO2)) ?_; refine Wo rfl (opv_gtr rfl rfl) ?_; refine Wo rfl (opv_pick_f (v := .bool _) rfl rfl) ?_
            refine Wo_split_dec rfl (opv_move (v := .bool _) rfl) (fun h9 => ?_) (fun h9 => ?_); refine Wo_skip rfl ?_; refine Wo_skip rfl ?_; refine Wo rfl (opv_pick_t (v := .bool _) rfl rfl) ?_; refine Wo_nil ?_; refine W_cond_true rfl ?_
            refine W_seq ?_; refine W_region rfl ?_; refine Wo rfl (opv_build (ps := []) (cs := [_, _]) flat25 rfl rfl) ?_
            refine Wo_st2 rfl Try.sizeOf25 rfl rfl (by first | rfl | assumption) (by first | rfl | assumption) (hB3.ext (E20.trans E21)) (by omega) ((E13.trans E20).trans E21) ?_; rintro w12 E22 hB3 K3 hz3
            have E23 := ((E14.trans E20).trans E21).wroteAt ((E13.trans E20).trans E21) E22 K3 hz3 (by omega); have szE23 := E23.size; have E24 := ((E15.trans E20).trans E21).wroteAt ((E13.trans E20).trans E21) E22 K3 hz3 (by omega)
            have szE24 := E24.size; have hB5 := (hB5.ext (E20.trans E21)).of_heap (K3 _ (by omega)); have hB4 := (hB4.ext (E20.trans E21)).of_heap (K3 _ (by omega)); have hB1 := (hB1.ext (E20.trans E21)).of_heap (K3 _ (by omega))
            have hB2 := (hB2.ext (E20.trans E21)).of_heap (K3 _ (by omega)); have hO1 := (hO1.ext (E20.trans E21)).wrote K3 (by omega); have hQ1 := (hQ1.ext (E20.trans E21)).wrote K3 (by omega)
            have hO2 := (hO2.ext (E20.trans E21)).wrote K3 (by omega); have hQ2 := (hQ2.ext (E20.trans E21)).wrote K3 (by omega); refine Wo rfl (opv_assign (v := .bool _) rfl) ?_; refine Wo_nil ?_; refine W_ret ?_; rotate_left; (exfalso; omega)
            refine Wo rfl (opv_move (v := .int _ _) rfl) ?_; refine Wo rfl (opv_move (v := .int _ _) rfl) ?_; refine Wo rfl (opv_eql rfl rfl) ?_; refine Wo_split_dec rfl (opv_move (v := .bool _) rfl) (fun h6 => ?_) (fun h6 => ?_); contradiction
            refine Wo_skip rfl ?_; refine Wo_skip rfl ?_; refine Wo rfl (opv_pick_f (v := .bool _) rfl rfl) ?_; refine Wo rfl (opv_pick_f (v := .bool _) rfl rfl) ?_; refine Wo rfl (opv_assign (v := .bool _) rfl) ?_; refine Wo_nil ?_
            refine W_seq ?_; refine W_seq ?_; refine W_region rfl ?_; refine Wo (v := .agg _) rfl (opv_load2 Try.isAgg25 Try.sizeOf25 rfl hB1) ?_
            refine Wo_call rfl (opc1 (a := .agg _) Try.call16 rfl) (k3 _ _ _ ((Mono.mono E13 h1)) ((Mono.mono E13 h2))) ?_; rintro _ w10 ⟨rfl, E20⟩; have hs8 := E20.size; refine Wo rfl (opv_not rfl) ?_
            refine Wo_split rfl (opv_move (v := .bool _) rfl) (fun h7 => ?_) (fun h7 => ?_); contradiction; refine Wo (v := .agg _) rfl (opv_load2 Try.isAgg25 Try.sizeOf25 rfl (hB2.ext E20)) ?_
            refine Wo_call rfl (opc1 (a := .agg _) Try.call16 rfl) (k4 _ _ _ ((Mono.mono (E13.trans E20) h3)) ((Mono.mono (E13.trans E20) h4))) ?_; rintro _ w11 ⟨rfl, E21⟩; have hs9 := E21.size; refine Wo rfl (opv_not rfl) ?_
            refine Wo rfl (opv_pick_f (v := .bool _) rfl rfl) ?_; refine Wo_split rfl (opv_move (v := .bool _) rfl) (fun h8 => ?_) (fun h8 => ?_); contradiction; refine Wo rfl (opv_fieldAddr Try.underlying25 rfl rfl Try.sizeOf23 rfl) ?_
            refine Wo (v := u3) rfl (opv_load Try.isAgg23 rfl ((hB4.ext (E20.trans E21)).cell rfl)) ?_; refine Wo rfl (opv_len Try.underlying23 rfl (OwnedB.read hO1)) ?_; refine Wo rfl (opv_gtr rfl rfl) ?_
            refine Wo rfl (opv_pick_f (v := .bool _) rfl rfl) ?_; refine Wo_split_dec rfl (opv_move (v := .bool _) rfl) (fun h9 => ?_) (fun h9 => ?_); refine Wo_skip rfl ?_; refine Wo_skip rfl ?_; refine Wo_skip rfl ?_; refine Wo_skip rfl ?_
            refine Wo rfl (opv_pick_t (v := .bool _) rfl rfl) ?_; refine Wo rfl (opv_move (v := .bool _) rfl) ?_; refine Wo_skip rfl ?_; refine Wo_skip rfl ?_; refine Wo rfl (opv_pick_t (v := .bool _) rfl rfl) ?_; refine Wo_nil ?_
            refine W_cond_true rfl ?_; refine W_seq ?_; refine W_region rfl ?_; refine Wo rfl (opv_build (ps := []) (cs := [_, _]) flat25 rfl rfl) ?_
            refine Wo_st2 rfl Try.sizeOf25 rfl rfl (by first | rfl | assumption) (by first | rfl | assumption) (hB3.ext (E20.trans E21)) (by omega) ((E13.trans E20).trans E21) ?_; rintro w12 E22 hB3 K3 hz3
            have E23 := ((E14.trans E20).trans E21).wroteAt ((E13.trans E20).trans E21) E22 K3 hz3 (by omega); have szE23 := E23.size; have E24 := ((E15.trans E20).trans E21).wroteAt ((E13.trans E20).trans E21) E22 K3 hz3 (by omega)
            have szE24 := E24.size; have hB5 := (hB5.ext (E20.trans E21)).of_heap (K3 _ (by omega)); have hB4 := (hB4.ext (E20.trans E21)).of_heap (K3 _ (by omega)); have hB1 := (hB1.ext (E20.trans E21)).of_heap (K3 _ (by omega))
            have hB2 := (hB2.ext (E20.trans E21)).of_heap (K3 _ (by omega)); have hO1 := (hO1.ext (E20.trans E21)).wrote K3 (by omega); have hQ1 := (hQ1.ext (E20.trans E21)).wrote K3 (by omega)
            have hO2 := (hO2.ext (E20.trans E21)).wrote K3 (by omega); have hQ2 := (hQ2.ext (E20.trans E21)).wrote K3 (by omega); refine Wo rfl (opv_assign (v := .bool _) rfl) ?_; refine Wo_nil ?_; refine W_ret ?_; rotate_left
            refine Wo rfl (opv_fieldAddr Try.underlying25 rfl rfl Try.sizeOf23 rfl) ?_; refine Wo (v := u4) rfl (opv_load Try.isAgg23 rfl ((hB5.ext (E20.trans E21)).cell rfl)) ?_
            refine Wo rfl (opv_len Try.underlying23 rfl (OwnedB.read hO2)) ?_; refine Wo rfl (opv_gtr rfl rfl) ?_; refine Wo rfl (opv_pick_f (v := .bool _) rfl rfl) ?_
            refine Wo_split_dec rfl (opv_move (v := .bool _) rfl) (fun h10 => ?_) (fun h10 => ?_); refine Wo_skip rfl ?_; refine Wo_skip rfl ?_; refine Wo rfl (opv_pick_t (v := .bool _) rfl rfl) ?_; refine Wo_nil ?_; refine W_cond_true rfl ?_
            refine W_seq ?_; refine W_region rfl ?_; refine Wo rfl (opv_build (ps := []) (cs := [_, _]) flat25 rfl rfl) ?_
            refine Wo_st2 rfl Try.sizeOf25 rfl rfl (by first | rfl | assumption) (by first | rfl | assumption) (hB3.ext (E20.trans E21)) (by omega) ((E13.trans E20).trans E21) ?_; rintro w12 E22 hB3 K3 hz3
            have E23 := ((E14.trans E20).trans E21).wroteAt ((E13.trans E20).trans E21) E22 K3 hz3 (by omega); have szE23 := E23.size; have E24 := ((E15.trans E20).trans E21).wroteAt ((E13.trans E20).trans E21) E22 K3 hz3 (by omega)
            have szE24 := E24.size; have hB5 := (hB5.ext (E20.trans E21)).of_heap (K3 _ (by omega)); have hB4 := (hB4.ext (E20.trans E21)).of_heap (K3 _ (by omega)); have hB1 := (hB1.ext (E20.trans E21)).of_heap (K3 _ (by omega))
            have hB2 := (hB2.ext (E20.trans E21)).of_heap (K3 _ (by omega)); have hO1 := (hO1.ext (E20.trans E21)).wrote K3 (by omega); have hQ1 := (hQ1.ext (E20.trans E21)).wrote K3 (by omega)
            have hO2 := (hO2.ext (E20.trans E21)).wrote K3 (by omega); have hQ2 := (hQ2.ext (E20.trans E21)).wrote K3 (by omega); refine Wo rfl (opv_assign (v := .bool _) rfl) ?_; refine Wo_nil ?_; refine W_ret ?_; rotate_left
            refine Wo rfl (opv_move (v := .bool _) rfl) ?_; refine Wo rfl (opv_not rfl) ?_; refine Wo rfl (opv_pick_f (v := .bool _) rfl rfl) ?_; refine Wo_nil ?_; refine W_cond rfl (fun h11 => ?_) (fun h11 => ?_); refine W_seq ?_
            refine W_region rfl ?_; refine Wo rfl (opv_build (ps := []) (cs := [_, _]) flat25 rfl rfl) ?_
            refine Wo_st2 rfl Try.sizeOf25 rfl rfl (by first | rfl | assumption) (by first | rfl | assumption) (hB3.ext (E20.trans E21)) (by omega) ((E13.trans E20).trans E21) ?_; rintro w12 E22 hB3 K3 hz3
            have E23 := ((E14.trans E20).trans E21).wroteAt ((E13.trans E20).trans E21) E22 K3 hz3 (by omega); have szE23 := E23.size; have E24 := ((E15.trans E20).trans E21).wroteAt ((E13.trans E20).trans E21) E22 K3 hz3 (by omega)
            have szE24 := E24.size; have hB5 := (hB5.ext (E20.trans E21)).of_heap (K3 _ (by omega)); have hB4 := (hB4.ext (E20.trans E21)).of_heap (K3 _ (by omega)); have hB1 := (hB1.ext (E20.trans E21)).of_heap (K3 _ (by omega))
            have hB2 := (hB2.ext (E20.trans E21)).of_heap (K3 _ (by omega)); have hO1 := (hO1.ext (E20.trans E21)).wrote K3 (by omega); have hQ1 := (hQ1.ext (E20.trans E21)).wrote K3 (by omega)
            have hO2 := (hO2.ext (E20.trans E21)).wrote K3 (by omega); have hQ2 := (hQ2.ext (E20.trans E21)).wrote K3 (by omega); refine Wo rfl (opv_assign (v := .bool _) rfl) ?_; refine Wo_nil ?_; refine W_ret ?_; rotate_left; contradiction
          all_goals first | exact ⟨_, _, _, rfl, by assumption, _, _, rfl, by assumption, Owned.nil, Owned.nil, .inr rfl⟩ | (exfalso; omega)
    · have k4 := hok A' B' false hA' hB' (decide_eq_false hs')
      have e0 : lbV A B A' B' = ([], [], false) := if_neg (fun h => hs' h.2.1)
      rw [e0]
      clear hok
      refine fn_of_Wct Try.func35 rfl Try.results35 Try.ntmps35 rfl Try.isAgg25 Try.sizeOf25 ?_
      focus
        refine W_seq ?_; refine W_region rfl ?_; refine Wo_box rfl rfl rfl ?_; rintro b1 w1 hb1 E1 hB1; have hlb1 := hB1.lt; have hs1 := E1.size; refine Wo_box rfl rfl rfl ?_; rintro b2 w2 hb2 E2 hB2; have hlb2 := hB2.lt
        have hs2 := E2.size; refine Wo_alloc2 rfl flat25 ?_; rintro b3 w3 hb3 E3 hB3; have hlb3 := hB3.lt; have hs3 := E3.size; refine Wo rfl (opv_assign (v := .bool _) rfl) ?_; refine Wo_nil ?_; refine W_seq ?_; refine W_region rfl ?_
        refine Wo (v := .agg _) rfl (opv_load2 Try.isAgg25 Try.sizeOf25 rfl (hB1.ext (E2.trans E3))) ?_
        refine Wo_call rfl (opc1 (a := .agg _) Try.call53 rfl) (k1 _ _ _ ((Mono.mono ((E1.trans E2).trans E3) h1)) ((Mono.mono ((E1.trans E2).trans E3) h2))) ?_; rintro _ w4 ⟨u3, q1, rfl, E4, hO1, hQ1, hd1⟩
        have icu3 := OwnedB.isC (Owned.toB hO1); have cpu3 := OwnedB.capOk (Owned.toB hO1); have icq1 := OwnedB.isC (Owned.toB hQ1); have cpq1 := OwnedB.capOk (Owned.toB hQ1); have hs4 := E4.size; refine Wo_alloc2 rfl flat25 ?_
        rintro b4 w5 hb4 E5 hB4; have hlb4 := hB4.lt; have hs5 := E5.size; refine Wo_st2 rfl Try.sizeOf25 rfl rfl (by first | rfl | assumption) (by first | rfl | assumption) hB4 (by omega) ((((E1.trans E2).trans E3).trans E4).trans E5) ?_
        rintro w6 E6 hB4 K1 hz1; have E7 := (((E2.trans E3).trans E4).trans E5).wroteAt ((((E1.trans E2).trans E3).trans E4).trans E5) E6 K1 hz1 (by omega); have szE7 := E7.size
        have E8 := ((E3.trans E4).trans E5).wroteAt ((((E1.trans E2).trans E3).trans E4).trans E5) E6 K1 hz1 (by omega); have szE8 := E8.size
        have E9 := (E4.trans E5).wroteAt ((((E1.trans E2).trans E3).trans E4).trans E5) E6 K1 hz1 (by omega); have szE9 := E9.size; have E10 := E5.wroteAt ((((E1.trans E2).trans E3).trans E4).trans E5) E6 K1 hz1 (by omega)
        have szE10 := E10.size; have hB1 := (hB1.ext (((E2.trans E3).trans E4).trans E5)).of_heap (K1 _ (by omega)); have hB2 := (hB2.ext ((E3.trans E4).trans E5)).of_heap (K1 _ (by omega))
        have hB3 := (hB3.ext (E4.trans E5)).of_heap (K1 _ (by omega)); have hO1 := (hO1.toB.ext E5).wrote K1 (by omega); have hQ1 := (hQ1.toB.ext E5).wrote K1 (by omega); refine Wo_nil ?_; refine W_seq ?_; refine W_region rfl ?_
        refine Wo (v := .agg _) rfl (opv_load2 Try.isAgg25 Try.sizeOf25 rfl hB2) ?_; refine Wo_call rfl (opc1 (a := .agg _) Try.call53 rfl) (k2 _ _ _ ((Mono.mono E6 h3)) ((Mono.mono E6 h4))) ?_; rintro _ w7 ⟨u4, q2, rfl, E11, hO2, hQ2, hd2⟩
        have icu4 := OwnedB.isC (Owned.toB hO2); have cpu4 := OwnedB.capOk (Owned.toB hO2); have icq2 := OwnedB.isC (Owned.toB hQ2); have cpq2 := OwnedB.capOk (Owned.toB hQ2); have hs6 := E11.size; refine Wo_alloc2 rfl flat25 ?_
        rintro b5 w8 hb5 E12 hB5; have hlb5 := hB5.lt; have hs7 := E12.size; refine Wo_st2 rfl Try.sizeOf25 rfl rfl (by first | rfl | assumption) (by first | rfl | assumption) hB5 (by omega) ((E6.trans E11).trans E12) ?_
        rintro w9 E13 hB5 K2 hz2; have E14 := ((E7.trans E11).trans E12).wroteAt ((E6.trans E11).trans E12) E13 K2 hz2 (by omega); have szE14 := E14.size
        have E15 := ((E8.trans E11).trans E12).wroteAt ((E6.trans E11).trans E12) E13 K2 hz2 (by omega); have szE15 := E15.size; have E16 := ((E9.trans E11).trans E12).wroteAt ((E6.trans E11).trans E12) E13 K2 hz2 (by omega)
        have szE16 := E16.size; have E17 := ((E10.trans E11).trans E12).wroteAt ((E6.trans E11).trans E12) E13 K2 hz2 (by omega); have szE17 := E17.size; have E18 := (E11.trans E12).wroteAt ((E6.trans E11).trans E12) E13 K2 hz2 (by omega)
        have szE18 := E18.size; have E19 := E12.wroteAt ((E6.trans E11).trans E12) E13 K2 hz2 (by omega); have szE19 := E19.size; have hB4 := (hB4.ext (E11.trans E12)).of_heap (K2 _ (by omega))
        have hB1 := (hB1.ext (E11.trans E12)).of_heap (K2 _ (by omega)); have hB2 := (hB2.ext (E11.trans E12)).of_heap (K2 _ (by omega)); have hB3 := (hB3.ext (E11.trans E12)).of_heap (K2 _ (by omega))
        have hO1 := (hO1.ext (E11.trans E12)).wrote K2 (by omega); have hQ1 := (hQ1.ext (E11.trans E12)).wrote K2 (by omega); have hO2 := (hO2.toB.ext E12).wrote K2 (by omega); have hQ2 := (hQ2.toB.ext E12).wrote K2 (by omega)
        refine Wo_nil ?_; refine W_seq ?_; refine W_region rfl ?_; refine Wo rfl (opv_fieldAddr Try.underlying25 rfl rfl Try.sizeOf23 rfl) ?_; refine Wo (v := q1) rfl (opv_load Try.isAgg23 rfl (hB4.cell rfl)) ?_
        refine Wo rfl (opv_len Try.underlying23 rfl (OwnedB.read hQ1)) ?_; refine Wo rfl (opv_assign (v := .int _ _) rfl) ?_; refine Wo_nil ?_; refine W_seq ?_; refine W_region rfl ?_
        refine Wo rfl (opv_fieldAddr Try.underlying25 rfl rfl Try.sizeOf23 rfl) ?_; refine Wo (v := q2) rfl (opv_load Try.isAgg23 rfl (hB5.cell rfl)) ?_; refine Wo rfl (opv_len Try.underlying23 rfl (OwnedB.read hQ2)) ?_
        refine Wo rfl (opv_assign (v := .int _ _) rfl) ?_; refine Wo_nil ?_; refine W_seq ?_; refine W_region rfl ?_; refine Wo rfl (opv_move (v := .int _ _) rfl) ?_; refine Wo rfl (opv_move (v := .int _ _) rfl) ?_
        refine Wo rfl (opv_mul rfl rfl (by omega)) ?_; refine Wo rfl (opv_leq rfl rfl) ?_; refine Wo_split_dec rfl (opv_move (v := .bool _) rfl) (fun h5 => ?_) (fun h5 => ?_); refine Wo_skip rfl ?_; refine Wo_skip rfl ?_
        refine Wo_skip rfl ?_; refine Wo_skip rfl ?_; refine Wo_skip rfl ?_; refine Wo_skip rfl ?_; refine Wo_skip rfl ?_; refine Wo rfl (opv_pick_t (v := .bool _) rfl rfl) ?_; refine Wo rfl (opv_assign (v := .bool _) rfl) ?_
        refine Wo_nil ?_; refine W_seq ?_; refine W_seq ?_; refine W_region rfl ?_; refine Wo (v := .agg _) rfl (opv_load2 Try.isAgg25 Try.sizeOf25 rfl hB1) ?_
        refine Wo_call rfl (opc1 (a := .agg _) Try.call16 rfl) (k3 _ _ _ ((Mono.mono E13 h1)) ((Mono.mono E13 h2))) ?_; rintro _ w10 ⟨rfl, E20⟩; have hs8 := E20.size; refine Wo rfl (opv_not rfl) ?_
        refine Wo_split rfl (opv_move (v := .bool _) rfl) (fun h6 => ?_) (fun h6 => ?_); contradiction; refine Wo (v := .agg _) rfl (opv_load2 Try.isAgg25 Try.sizeOf25 rfl (hB2.ext E20)) ?_
        refine Wo_call rfl (opc1 (a := .agg _) Try.call16 rfl) (k4 _ _ _ ((Mono.mono (E13.trans E20) h3)) ((Mono.mono (E13.trans E20) h4))) ?_; rintro _ w11 ⟨rfl, E21⟩; have hs9 := E21.size; refine Wo rfl (opv_not rfl) ?_
        refine Wo rfl (opv_pick_f (v := .bool _) rfl rfl) ?_; refine Wo_split rfl (opv_move (v := .bool _) rfl) (fun h7 => ?_) (fun h7 => ?_); refine Wo_skip rfl ?_; refine Wo_skip rfl ?_; refine Wo_skip rfl ?_; refine Wo_skip rfl ?_
        refine Wo rfl (opv_pick_t (v := .bool _) rfl rfl) ?_; refine Wo rfl (opv_move (v := .bool _) rfl) ?_; refine Wo_skip rfl ?_; refine Wo_skip rfl ?_; refine Wo_skip rfl ?_; refine Wo_skip rfl ?_
        refine Wo rfl (opv_pick_t (v := .bool _) rfl rfl) ?_; refine Wo rfl (opv_move (v := .bool _) rfl) ?_; refine Wo_skip rfl ?_; refine Wo_skip rfl ?_; refine Wo rfl (opv_pick_t (v := .bool _) rfl rfl) ?_; refine Wo_nil ?_
        refine W_cond_true rfl ?_; refine W_seq ?_; refine W_region rfl ?_; refine Wo rfl (opv_build (ps := []) (cs := [_, _]) flat25 rfl rfl) ?_
        refine Wo_st2 rfl Try.sizeOf25 rfl rfl (by first | rfl | assumption) (by first | rfl | assumption) (hB3.ext (E20.trans E21)) (by omega) ((E13.trans E20).trans E21) ?_; rintro w12 E22 hB3 K3 hz3
        have E23 := ((E14.trans E20).trans E21).wroteAt ((E13.trans E20).trans E21) E22 K3 hz3 (by omega); have szE23 := E23.size; have E24 := ((E15.trans E20).trans E21).wroteAt ((E13.trans E20).trans E21) E22 K3 hz3 (by omega)
        have szE24 := E24.size; have hB5 := (hB5.ext (E20.trans E21)).of_heap (K3 _ (by omega)); have hB4 := (hB4.ext (E20.trans E21)).of_heap (K3 _ (by omega)); have hB1 := (hB1.ext (E20.trans E21)).of_heap (K3 _ (by omega))
        have hB2 := (hB2.ext (E20.trans E21)).of_heap (K3 _ (by omega)); have hO1 := (hO1.ext (E20.trans E21)).wrote K3 (by omega); have hQ1 := (hQ1.ext (E20.trans E21)).wrote K3 (by omega)
        have hO2 := (hO2.ext (E20.trans E21)).wrote K3 (by omega); have hQ2 := (hQ2.ext (E20.trans E21)).wrote K3 (by omega); refine Wo rfl (opv_assign (v := .bool _) rfl) ?_; refine Wo_nil ?_; refine W_ret ?_; rotate_left; contradiction
        refine Wo rfl (opv_move (v := .int _ _) rfl) ?_; refine Wo rfl (opv_move (v := .int _ _) rfl) ?_; refine Wo rfl (opv_eql rfl rfl) ?_; refine Wo_split_dec rfl (opv_move (v := .bool _) rfl) (fun h6 => ?_) (fun h6 => ?_)
        refine Wo rfl (opv_move (v := .int _ _) rfl) ?_; refine Wo rfl (opv_leq rfl rfl) ?_; refine Wo rfl (opv_pick_t (v := .bool _) rfl rfl) ?_; refine Wo rfl (opv_pick_f (v := .bool _) rfl rfl) ?_
        refine Wo rfl (opv_assign (v := .bool _) rfl) ?_; refine Wo_nil ?_; refine W_seq ?_; refine W_seq ?_; refine W_region rfl ?_; refine Wo (v := .agg _) rfl (opv_load2 Try.isAgg25 Try.sizeOf25 rfl hB1) ?_
        refine Wo_call rfl (opc1 (a := .agg _) Try.call16 rfl) (k3 _ _ _ ((Mono.mono E13 h1)) ((Mono.mono E13 h2))) ?_; rintro _ w10 ⟨rfl, E20⟩; have hs8 := E20.size; refine Wo rfl (opv_not rfl) ?_
        refine Wo_split rfl (opv_move (v := .bool _) rfl) (fun h7 => ?_) (fun h7 => ?_); contradiction; refine Wo (v := .agg _) rfl (opv_load2 Try.isAgg25 Try.sizeOf25 rfl (hB2.ext E20)) ?_
        refine Wo_call rfl (opc1 (a := .agg _) Try.call16 rfl) (k4 _ _ _ ((Mono.mono (E13.trans E20) h3)) ((Mono.mono (E13.trans E20) h4))) ?_; rintro _ w11 ⟨rfl, E21⟩; have hs9 := E21.size; refine Wo rfl (opv_not rfl) ?_
        refine Wo rfl (opv_pick_f (v := .bool _) rfl rfl) ?_; refine Wo_split rfl (opv_move (v := .bool _) rfl) (fun h8 => ?_) (fun h8 => ?_); refine Wo_skip rfl ?_; refine Wo_skip rfl ?_; refine Wo_skip rfl ?_; refine Wo_skip rfl ?_
        refine Wo rfl (opv_pick_t (v := .bool _) rfl rfl) ?_; refine Wo rfl (opv_move (v := .bool _) rfl) ?_; refine Wo_skip rfl ?_; refine Wo_skip rfl ?_; refine Wo_skip rfl ?_; refine Wo_skip rfl ?_
        refine Wo rfl (opv_pick_t (v := .bool _) rfl rfl) ?_; refine Wo rfl (opv_move (v := .bool _) rfl) ?_; refine Wo_skip rfl ?_; refine Wo_skip rfl ?_; refine Wo rfl (opv_pick_t (v := .bool _) rfl rfl) ?_; refine Wo_nil ?_
        refine W_cond_true rfl ?_; refine W_seq ?_; refine W_region rfl ?_; refine Wo rfl (opv_build (ps := []) (cs := [_, _]) flat25 rfl rfl) ?_
        refine Wo_st2 rfl Try.sizeOf25 rfl rfl (by first | rfl | assumption) (by first | rfl | assumption) (hB3.ext (E20.trans E21)) (by omega) ((E13.trans E20).trans E21) ?_; rintro w12 E22 hB3 K3 hz3
        have E23 := ((E14.trans E20).trans E21).wroteAt ((E13.trans E20).trans E21) E22 K3 hz3 (by omega); have szE23 := E23.size; have E24 := ((E15.trans E20).trans E21).wroteAt ((E13.trans E20).trans E21) E22 K3 hz3 (by omega)
        have szE24 := E24.size; have hB5 := (hB5.ext (E20.trans E21)).of_heap (K3 _ (by omega)); have hB4 := (hB4.ext (E20.trans E21)).of_heap (K3 _ (by omega)); have hB1 := (hB1.ext (E20.trans E21)).of_heap (K3 _ (by omega))
        have hB2 := (hB2.ext (E20.trans E21)).of_heap (K3 _ (by omega)); have hO1 := (hO1.ext (E20.trans E21)).wrote K3 (by omega); have hQ1 := (hQ1.ext (E20.trans E21)).wrote K3 (by omega)
        have hO2 := (hO2.ext (E20.trans E21)).wrote K3 (by omega); have hQ2 := (hQ2.ext (E20.trans E21)).wrote K3 (by omega); refine Wo rfl (opv_assign (v := .bool _) rfl) ?_; refine Wo_nil ?_; refine W_ret ?_; rotate_left; contradiction
        refine Wo_skip rfl ?_; refine Wo_skip rfl ?_; refine Wo rfl (opv_pick_f (v := .bool _) rfl rfl) ?_; refine Wo rfl (opv_pick_f (v := .bool _) rfl rfl) ?_; refine Wo rfl (opv_assign (v := .bool _) rfl) ?_; refine Wo_nil ?_
        refine W_seq ?_; refine W_seq ?_; refine W_region rfl ?_; refine Wo (v := .agg _) rfl (opv_load2 Try.isAgg25 Try.sizeOf25 rfl hB1) ?_
        refine Wo_call rfl (opc1 (a := .agg _) Try.call16 rfl) (k3 _ _ _ ((Mono.mono E13 h1)) ((Mono.mono E13 h2))) ?_; rintro _ w10 ⟨rfl, E20⟩; have hs8 := E20.size; refine Wo rfl (opv_not rfl) ?_
        refine Wo_split rfl (opv_move (v := .bool _) rfl) (fun h7 => ?_) (fun h7 => ?_); contradiction; refine Wo (v := .agg _) rfl (opv_load2 Try.isAgg25 Try.sizeOf25 rfl (hB2.ext E20)) ?_
        refine Wo_call rfl (opc1 (a := .agg _) Try.call16 rfl) (k4 _ _ _ ((Mono.mono (E13.trans E20) h3)) ((Mono.mono (E13.trans E20) h4))) ?_; rintro _ w11 ⟨rfl, E21⟩; have hs9 := E21.size; refine Wo rfl (opv_not rfl) ?_
        refine Wo rfl (opv_pick_f (v := .bool _) rfl rfl) ?_; refine Wo_split rfl (opv_move (v := .bool _) rfl) (fun h8 => ?_) (fun h8 => ?_); refine Wo_skip rfl ?_; refine Wo_skip rfl ?_; refine Wo_skip rfl ?_; refine Wo_skip rfl ?_
        refine Wo rfl (opv_pick_t (v := .bool _) rfl rfl) ?_; refine Wo rfl (opv_move (v := .bool _) rfl) ?_; refine Wo_skip rfl ?_; refine Wo_skip rfl ?_; refine Wo_skip rfl ?_; refine Wo_skip rfl ?_
        refine Wo rfl (opv_pick_t (v := .bool _) rfl rfl) ?_; refine Wo rfl (opv_move (v := .bool _) rfl) ?_; refine Wo_skip rfl ?_; refine Wo_skip rfl ?_; refine Wo rfl (opv_pick_t (v := .bool _) rfl rfl) ?_; refine Wo_nil ?_
        refine W_cond_true rfl ?_; refine W_seq ?_; refine W_region rfl ?_; refine Wo rfl (opv_build (ps := []) (cs := [_, _]) flat25 rfl rfl) ?_
        refine Wo_st2 rfl Try.sizeOf25 rfl rfl (by first | rfl | assumption) (by first | rfl | assumption) (hB3.ext (E20.trans E21)) (by omega) ((E13.trans E20).trans E21) ?_; rintro w12 E22 hB3 K3 hz3
        have E23 := ((E14.trans E20).trans E21).wroteAt ((E13.trans E20).trans E21) E22 K3 hz3 (by omega); have szE23 := E23.size; have E24 := ((E15.trans E20).trans E21).wroteAt ((E13.trans E20).trans E21) E22 K3 hz3 (by omega)
        have szE24 := E24.size; have hB5 := (hB5.ext (E20.trans E21)).of_heap (K3 _ (by omega)); have hB4 := (hB4.ext (E20.trans E21)).of_heap (K3 _ (by omega)); have hB1 := (hB1.ext (E20.trans E21)).of_heap (K3 _ (by omega))
        have hB2 := (hB2.ext (E20.trans E21)).of_heap (K3 _ (by omega)); have hO1 := (hO1.ext (E20.trans E21)).wrote K3 (by omega); have hQ1 := (hQ1.ext (E20.trans E21)).wrote K3 (by omega)
        have hO2 := (hO2.ext (E20.trans E21)).wrote K3 (by omega); have hQ2 := (hQ2.ext (E20.trans E21)).wrote K3 (by omega); refine Wo rfl (opv_assign (v := .bool _) rfl) ?_; refine Wo_nil ?_; refine W_ret ?_; rotate_left; contradiction
      all_goals exact ⟨_, _, _, rfl, by assumption, _, _, rfl, by assumption, Owned.nil, Owned.nil, .inr rfl⟩
  · have k3 := hok A B false hA hB (decide_eq_false hs)
    have e0 : lbV A B A' B' = ([], [], false) := if_neg (fun h => hs h.1)
    rw [e0]
    clear hok
    refine fn_of_Wct Try.func35 rfl Try.results35 Try.ntmps35 rfl Try.isAgg25 Try.sizeOf25 ?_
    focus
      refine W_seq ?_; refine W_region rfl ?_; refine Wo_box rfl rfl rfl ?_; rintro b1 w1 hb1 E1 hB1; have hlb1 := hB1.lt; have hs1 := E1.size; refine Wo_box rfl rfl rfl ?_; rintro b2 w2 hb2 E2 hB2; have hlb2 := hB2.lt
      have hs2 := E2.size; refine Wo_alloc2 rfl flat25 ?_; rintro b3 w3 hb3 E3 hB3; have hlb3 := hB3.lt; have hs3 := E3.size; refine Wo rfl (opv_assign (v := .bool _) rfl) ?_; refine Wo_nil ?_; refine W_seq ?_; refine W_region rfl ?_
      refine Wo (v := .agg _) rfl (opv_load2 Try.isAgg25 Try.sizeOf25 rfl (hB1.ext (E2.trans E3))) ?_
      refine Wo_call rfl (opc1 (a := .agg _) Try.call53 rfl) (k1 _ _ _ ((Mono.mono ((E1.trans E2).trans E3) h1)) ((Mono.mono ((E1.trans E2).trans E3) h2))) ?_; rintro _ w4 ⟨u3, q1, rfl, E4, hO1, hQ1, hd1⟩
      have icu3 := OwnedB.isC (Owned.toB hO1); have cpu3 := OwnedB.capOk (Owned.toB hO1); have icq1 := OwnedB.isC (Owned.toB hQ1); have cpq1 := OwnedB.capOk (Owned.toB hQ1); have hs4 := E4.size; refine Wo_alloc2 rfl flat25 ?_
      rintro b4 w5 hb4 E5 hB4; have hlb4 := hB4.lt; have hs5 := E5.size; refine Wo_st2 rfl Try.sizeOf25 rfl rfl (by first | rfl | assumption) (by first | rfl | assumption) hB4 (by omega) ((((E1.trans E2).trans E3).trans E4).trans E5) ?_
      rintro w6 E6 hB4 K1 hz1; have E7 := (((E2.trans E3).trans E4).trans E5).wroteAt ((((E1.trans E2).trans E3).trans E4).trans E5) E6 K1 hz1 (by omega); have szE7 := E7.size
      have E8 := ((E3.trans E4).trans E5).wroteAt ((((E1.trans E2).trans E3).trans E4).trans E5) E6 K1 hz1 (by omega); have szE8 := E8.size
      have E9 := (E4.trans E5).wroteAt ((((E1.trans E2).trans E3).trans E4).trans E5) E6 K1 hz1 (by omega); have szE9 := E9.size; have E10 := E5.wroteAt ((((E1.trans E2).trans E3).trans E4).trans E5) E6 K1 hz1 (by omega)
      have szE10 := E10.size; have hB1 := (hB1.ext (((E2.trans E3).trans E4).trans E5)).of_heap (K1 _ (by omega)); have hB2 := (hB2.ext ((E3.trans E4).trans E5)).of_heap (K1 _ (by omega))
      have hB3 := (hB3.ext (E4.trans E5)).of_heap (K1 _ (by omega)); have hO1 := (hO1.toB.ext E5).wrote K1 (by omega); have hQ1 := (hQ1.toB.ext E5).wrote K1 (by omega); refine Wo_nil ?_; refine W_seq ?_; refine W_region rfl ?_
      refine Wo (v := .agg _) rfl (opv_load2 Try.isAgg25 Try.sizeOf25 rfl hB2) ?_; refine Wo_call rfl (opc1 (a := .agg _) Try.call53 rfl) (k2 _ _ _ ((Mono.mono E6 h3)) ((Mono.mono E6 h4))) ?_; rintro _ w7 ⟨u4, q2, rfl, E11, hO2, hQ2, hd2⟩
      have icu4 := OwnedB.isC (Owned.toB hO2); have cpu4 := OwnedB.capOk (Owned.toB hO2); have icq2 := OwnedB.isC (Owned.toB hQ2); have cpq2 := OwnedB.capOk (Owned.toB hQ2); have hs6 := E11.size; refine Wo_alloc2 rfl flat25 ?_
      rintro b5 w8 hb5 E12 hB5; have hlb5 := hB5.lt; have hs7 := E12.size; refine Wo_st2 rfl Try.sizeOf25 rfl rfl (by first | rfl | assumption) (by first | rfl | assumption) hB5 (by omega) ((E6.trans E11).trans E12) ?_
      rintro w9 E13 hB5 K2 hz2; have E14 := ((E7.trans E11).trans E12).wroteAt ((E6.trans E11).trans E12) E13 K2 hz2 (by omega); have szE14 := E14.size
      have E15 := ((E8.trans E11).trans E12).wroteAt ((E6.trans E11).trans E12) E13 K2 hz2 (by omega); have szE15 := E15.size; have E16 := ((E9.trans E11).trans E12).wroteAt ((E6.trans E11).trans E12) E13 K2 hz2 (by omega)
      have szE16 := E16.size; have E17 := ((E10.trans E11).trans E12).wroteAt ((E6.trans E11).trans E12) E13 K2 hz2 (by omega); have szE17 := E17.size; have E18 := (E11.trans E12).wroteAt ((E6.trans E11).trans E12) E13 K2 hz2 (by omega)
      have szE18 := E18.size; have E19 := E12.wroteAt ((E6.trans E11).trans E12) E13 K2 hz2 (by omega); have szE19 := E19.size; have hB4 := (hB4.ext (E11.trans E12)).of_heap (K2 _ (by omega))
      have hB1 := (hB1.ext (E11.trans E12)).of_heap (K2 _ (by omega)); have hB2 := (hB2.ext (E11.trans E12)).of_heap (K2 _ (by omega)); have hB3 := (hB3.ext (E11.trans E12)).of_heap (K2 _ (by omega))
      have hO1 := (hO1.ext (E11.trans E12)).wrote K2 (by omega); have hQ1 := (hQ1.ext (E11.trans E12)).wrote K2 (by omega); have hO2 := (hO2.toB.ext E12).wrote K2 (by omega); have hQ2 := (hQ2.toB.ext E12).wrote K2 (by omega)
      refine Wo_nil ?_; refine W_seq ?_; refine W_region rfl ?_; refine Wo rfl (opv_fieldAddr Try.underlying25 rfl rfl Try.sizeOf23 rfl) ?_; refine Wo (v := q1) rfl (opv_load Try.isAgg23 rfl (hB4.cell rfl)) ?_
      refine Wo rfl (opv_len Try.underlying23 rfl (OwnedB.read hQ1)) ?_; refine Wo rfl (opv_assign (v := .int _ _) rfl) ?_; refine Wo_nil ?_; refine W_seq ?_; refine W_region rfl ?_
      refine Wo rfl (opv_fieldAddr Try.underlying25 rfl rfl Try.sizeOf23 rfl) ?_; refine Wo (v := q2) rfl (opv_load Try.isAgg23 rfl (hB5.cell rfl)) ?_; refine Wo rfl (opv_len Try.underlying23 rfl (OwnedB.read hQ2)) ?_
      refine Wo rfl (opv_assign (v := .int _ _) rfl) ?_; refine Wo_nil ?_; refine W_seq ?_; refine W_region rfl ?_; refine Wo rfl (opv_move (v := .int _ _) rfl) ?_; refine Wo rfl (opv_move (v := .int _ _) rfl) ?_
      refine Wo rfl (opv_mul rfl rfl (by omega)) ?_; refine Wo rfl (opv_leq rfl rfl) ?_; refine Wo_split_dec rfl (opv_move (v := .bool _) rfl) (fun h5 => ?_) (fun h5 => ?_); refine Wo_skip rfl ?_; refine Wo_skip rfl ?_
      refine Wo_skip rfl ?_; refine Wo_skip rfl ?_; refine Wo_skip rfl ?_; refine Wo_skip rfl ?_; refine Wo_skip rfl ?_; refine Wo rfl (opv_pick_t (v := .bool _) rfl rfl) ?_; refine Wo rfl (opv_assign (v := .bool _) rfl) ?_
      refine Wo_nil ?_; refine W_seq ?_; refine W_seq ?_; refine W_region rfl ?_; refine Wo (v := .agg _) rfl (opv_load2 Try.isAgg25 Try.sizeOf25 rfl hB1) ?_
      refine Wo_call rfl (opc1 (a := .agg _) Try.call16 rfl) (k3 _ _ _ ((Mono.mono E13 h1)) ((Mono.mono E13 h2))) ?_; rintro _ w10 ⟨rfl, E20⟩; have hs8 := E20.size; refine Wo rfl (opv_not rfl) ?_
      refine Wo_split rfl (opv_move (v := .bool _) rfl) (fun h6 => ?_) (fun h6 => ?_); refine Wo_skip rfl ?_; refine Wo_skip rfl ?_; refine Wo_skip rfl ?_; refine Wo rfl (opv_pick_t (v := .bool _) rfl rfl) ?_
      refine Wo rfl (opv_move (v := .bool _) rfl) ?_; refine Wo_skip rfl ?_; refine Wo_skip rfl ?_; refine Wo_skip rfl ?_; refine Wo_skip rfl ?_; refine Wo rfl (opv_pick_t (v := .bool _) rfl rfl) ?_
      refine Wo rfl (opv_move (v := .bool _) rfl) ?_; refine Wo_skip rfl ?_; refine Wo_skip rfl ?_; refine Wo_skip rfl ?_; refine Wo_skip rfl ?_; refine Wo rfl (opv_pick_t (v := .bool _) rfl rfl) ?_
      refine Wo rfl (opv_move (v := .bool _) rfl) ?_; refine Wo_skip rfl ?_; refine Wo_skip rfl ?_; refine Wo rfl (opv_pick_t (v := .bool _) rfl rfl) ?_; refine Wo_nil ?_; refine W_cond_true rfl ?_; refine W_seq ?_; refine W_region rfl ?_
      refine Wo rfl (opv_build (ps := []) (cs := [_, _]) flat25 rfl rfl) ?_; refine Wo_st2 rfl Try.sizeOf25 rfl rfl (by first | rfl | assumption) (by first | rfl | assumption) (hB3.ext E20) (by omega) (E13.trans E20) ?_
      rintro w11 E21 hB3 K3 hz3; have E22 := (E14.trans E20).wroteAt (E13.trans E20) E21 K3 hz3 (by omega); have szE22 := E22.size; have E23 := (E15.trans E20).wroteAt (E13.trans E20) E21 K3 hz3 (by omega); have szE23 := E23.size
      have hB5 := (hB5.ext E20).of_heap (K3 _ (by omega)); have hB4 := (hB4.ext E20).of_heap (K3 _ (by omega)); have hB1 := (hB1.ext E20).of_heap (K3 _ (by omega)); have hB2 := (hB2.ext E20).of_heap (K3 _ (by omega))
      have hO1 := (hO1.ext E20).wrote K3 (by omega); have hQ1 := (hQ1.ext E20).wrote K3 (by omega); have hO2 := (hO2.ext E20).wrote K3 (by omega); have hQ2 := (hQ2.ext E20).wrote K3 (by omega)
      refine Wo rfl (opv_assign (v := .bool _) rfl) ?_; refine Wo_nil ?_; refine W_ret ?_; rotate_left; contradiction; refine Wo rfl (opv_move (v := .int _ _) rfl) ?_; refine Wo rfl (opv_move (v := .int _ _) rfl) ?_
      refine Wo rfl (opv_eql rfl rfl) ?_; refine Wo_split_dec rfl (opv_move (v := .bool _) rfl) (fun h6 => ?_) (fun h6 => ?_); refine Wo rfl (opv_move (v := .int _ _) rfl) ?_; refine Wo rfl (opv_leq rfl rfl) ?_
      refine Wo rfl (opv_pick_t (v := .bool _) rfl rfl) ?_; refine Wo rfl (opv_pick_f (v := .bool _) rfl rfl) ?_; refine Wo rfl (opv_assign (v := .bool _) rfl) ?_; refine Wo_nil ?_; refine W_seq ?_; refine W_seq ?_; refine W_region rfl ?_
      refine Wo (v := .agg _) rfl (opv_load2 Try.isAgg25 Try.sizeOf25 rfl hB1) ?_; refine Wo_call rfl (opc1 (a := .agg _) Try.call16 rfl) (k3 _ _ _ ((Mono.mono E13 h1)) ((Mono.mono E13 h2))) ?_; rintro _ w10 ⟨rfl, E20⟩
      have hs8 := E20.size; refine Wo rfl (opv_not rfl) ?_; refine Wo_split rfl (opv_move (v := .bool _) rfl) (fun h7 => ?_) (fun h7 => ?_); refine Wo_skip rfl ?_; refine Wo_skip rfl ?_; refine Wo_skip rfl ?_
      refine Wo rfl (opv_pick_t (v := .bool _) rfl rfl) ?_; refine Wo rfl (opv_move (v := .bool _) rfl) ?_; refine Wo_skip rfl ?_; refine Wo_skip rfl ?_; refine Wo_skip rfl ?_; refine Wo_skip rfl ?_
      refine Wo rfl (opv_pick_t (v := .bool _) rfl rfl) ?_; refine Wo rfl (opv_move (v := .bool _) rfl) ?_; refine Wo_skip rfl ?_; refine Wo_skip rfl ?_; refine Wo_skip rfl ?_; refine Wo_skip rfl ?_
      refine Wo rfl (opv_pick_t (v := .bool _) rfl rfl) ?_; refine Wo rfl (opv_move (v := .bool _) rfl) ?_; refine Wo_skip rfl ?_; refine Wo_skip rfl ?_; refine Wo rfl (opv_pick_t (v := .bool _) rfl rfl) ?_; refine Wo_nil ?_
      refine W_cond_true rfl ?_; refine W_seq ?_; refine W_region rfl ?_; refine Wo rfl (opv_build (ps := []) (cs := [_, _]) flat25 rfl rfl) ?_
      refine Wo_st2 rfl Try.sizeOf25 rfl rfl (by first | rfl | assumption) (by first | rfl | assumption) (hB3.ext E20) (by omega) (E13.trans E20) ?_; rintro w11 E21 hB3 K3 hz3
      have E22 := (E14.trans E20).wroteAt (E13.trans E20) E21 K3 hz3 (by omega); have szE22 := E22.size; have E23 := (E15.trans E20).wroteAt (E13.trans E20) E21 K3 hz3 (by omega); have szE23 := E23.size
      have hB5 := (hB5.ext E20).of_heap (K3 _ (by omega)); have hB4 := (hB4.ext E20).of_heap (K3 _ (by omega)); have hB1 := (hB1.ext E20).of_heap (K3 _ (by omega)); have hB2 := (hB2.ext E20).of_heap (K3 _ (by omega))
      have hO1 := (hO1.ext E20).wrote K3 (by omega); have hQ1 := (hQ1.ext E20).wrote K3 (by omega); have hO2 := (hO2.ext E20).wrote K3 (by omega); have hQ2 := (hQ2.ext E20).wrote K3 (by omega)
      refine Wo rfl (opv_assign (v := .bool _) rfl) ?_; refine Wo_nil ?_; refine W_ret ?_; rotate_left; contradiction; refine Wo_skip rfl ?_; refine Wo_skip rfl ?_; refine Wo rfl (opv_pick_f (v := .bool _) rfl rfl) ?_
      refine Wo rfl (opv_pick_f (v := .bool _) rfl rfl) ?_; refine Wo rfl (opv_assign (v := .bool _) rfl) ?_; refine Wo_nil ?_; refine W_seq ?_; refine W_seq ?_; refine W_region rfl ?_
      refine Wo (v := .agg _) rfl (opv_load2 Try.isAgg25 Try.sizeOf25 rfl hB1) ?_; refine Wo_call rfl (opc1 (a := .agg _) Try.call16 rfl) (k3 _ _ _ ((Mono.mono E13 h1)) ((Mono.mono E13 h2))) ?_; rintro _ w10 ⟨rfl, E20⟩
      have hs8 := E20.size; refine Wo rfl (opv_not rfl) ?_; refine Wo_split rfl (opv_move (v := .bool _) rfl) (fun h7 => ?_) (fun h7 => ?_); refine Wo_skip rfl ?_; refine Wo_skip rfl ?_; refine Wo_skip rfl ?_
      refine Wo rfl (opv_pick_t (v := .bool _) rfl rfl) ?_; refine Wo rfl (opv_move (v := .bool _) rfl) ?_; refine Wo_skip rfl ?_; refine Wo_skip rfl ?_; refine Wo_skip rfl ?_; refine Wo_skip rfl ?_
      refine Wo rfl (opv_pick_t (v := .bool _) rfl rfl) ?_; refine Wo rfl (opv_move (v := .bool _) rfl) ?_; refine Wo_skip rfl ?_; refine Wo_skip rfl ?_; refine Wo_skip rfl ?_; refine Wo_skip rfl ?_
      refine Wo rfl (opv_pick_t (v := .bool _) rfl rfl) ?_; refine Wo rfl (opv_move (v := .bool _) rfl) ?_; refine Wo_skip rfl ?_; refine Wo_skip rfl ?_; refine Wo rfl (opv_pick_t (v := .bool _) rfl rfl) ?_; refine Wo_nil ?_
      refine W_cond_true rfl ?_; refine W_seq ?_; refine W_region rfl ?_; refine Wo rfl (opv_build (ps := []) (cs := [_, _]) flat25 rfl rfl) ?_
      refine Wo_st2 rfl Try.sizeOf25 rfl rfl (by first | rfl | assumption) (by first | rfl | assumption) (hB3.ext E20) (by omega) (E13.trans E20) ?_; rintro w11 E21 hB3 K3 hz3
      have E22 := (E14.trans E20).wroteAt (E13.trans E20) E21 K3 hz3 (by omega); have szE22 := E22.size; have E23 := (E15.trans E20).wroteAt (E13.trans E20) E21 K3 hz3 (by omega); have szE23 := E23.size
      have hB5 := (hB5.ext E20).of_heap (K3 _ (by omega)); have hB4 := (hB4.ext E20).of_heap (K3 _ (by omega)); have hB1 := (hB1.ext E20).of_heap (K3 _ (by omega)); have hB2 := (hB2.ext E20).of_heap (K3 _ (by omega))
      have hO1 := (hO1.ext E20).wrote K3 (by omega); have hQ1 := (hQ1.ext E20).wrote K3 (by omega); have hO2 := (hO2.ext E20).wrote K3 (by omega); have hQ2 := (hQ2.ext E20).wrote K3 (by omega)
      refine Wo rfl (opv_assign (v := .bool _) rfl) ?_; refine Wo_nil ?_; refine W_ret ?_; rotate_left; contradiction
    all_goals exact ⟨_, _, _, rfl, by assumption, _, _, rfl, by assumption, Owned.nil, Owned.nil, .inr rfl⟩

end Go.Proofs.Ytlalfmialbolhaa
