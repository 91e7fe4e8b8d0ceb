/- Walks: a bit put ahead of a stream, by the reference. -/
import Derived.Test.YtlalfmialbolhaaHsWStrP
namespace Go.Proofs.Ytlalfmialbolhaa
open Go.Hs
set_option maxRecDepth 10000
set_option maxHeartbeats 4000000
set_option linter.unusedVariables false
set_option linter.unusedSimpArgs false

theorem spec_PutAhead_ok (w : World) (u1 u2 : Value) (z : Int) (A B : List Int) (h1 : Ints w u1 A) (h2 : Ints w u2 B) (hA : A.length ≤ 4000000) (hB : B.length ≤ 4000000) : Does Try.prog 31 [.int .i64 z, .agg #[u1, u2]] w (RetS2b w 3 (paV z A B).1 (paV z A B).2.1 (paV z A B).2.2) := by
  have hok : ∀ (A B : List Int) (x : Bool), A.length ≤ 4000000 → B.length ≤ 4000000 → decide (Stm A B) = x → ∀ (w : World) (u1 u2 : Value), Ints w u1 A → Ints w u2 B → Does Try.prog 16 [.agg #[u1, u2]] w (Ret w (.bool x)) := fun A B x hA hB e w u1 u2 h1 h2 => e ▸ StreamOk_ok w u1 u2 A B h1 h2 hA hB
  by_cases hs : Stm A B
  · have k1 := hok A B true hA hB (decide_eq_true hs)
    by_cases hz : z = 0 ∨ z = 1
    · have hsl := hs.2.2
      have hsh := hs.sh
      have hshort := hs.short
      have hsst := hs.short_stm
      have eV : shV A B = (shL (bat A B), shR (bat A B)) := if_pos hs
      obtain ⟨f, hf⟩ : ∃ f, f = bat A B := ⟨_, rfl⟩
      have hl1 : (shL f).length = shA f := win_len
      have hl2 : (shR f).length = shP f := win_len
      rw [← hf] at hsh hshort hsst eV
      have k2 : ∀ (w : World) (u1 u2 : Value), Ints w u1 A → Ints w u2 B → Does Try.prog 53 [.agg #[u1, u2]] w (RetS2 w 3 (shL f) (shR f)) := fun w u1 u2 h1 h2 => by
        have := spec_ShortOf_ok w u1 u2 A B h1 h2 hA hB
        rw [eV] at this; exact this
      have litown : True := trivial
      have hone : ([z] : List Int).length = 1 := rfl
      have hne : 0 ≤ z ∧ z ≤ 1 := by omega
      by_cases h12 : (shL f).length + (shR f).length = 12
      · have e0 : paV z A B = ([], [], false) := if_neg (fun h => by have h9 := h.2.2; rw [← hf] at h9; exact h9 h12)
        rw [e0]
        have hn : ¬ Stm ([z] ++ shL f) (shR f) := fun h => by have := h.2.2.2; simp at this; omega
        have k3 := hok ([z] ++ shL f) (shR f) false (by simp; omega) (by omega) (decide_eq_false hn)
        clear hok
        refine fn_of_Wct Try.func31 rfl Try.results31 Try.ntmps31 rfl Try.isAgg25 Try.sizeOf25 ?_
        have stop4 : True := trivial
        have heldS : True := trivial
        focus
          refine W_seq ?_; refine W_region rfl ?_; refine Wo_box rfl rfl rfl ?_; rintro b1 w1 hb1 E1 hB1; have hlb1 := hB1.lt; have hs1 := E1.size; refine Wo_alloc2 rfl flat25 ?_; rintro b2 w2 hb2 E2 hB2; have hlb2 := hB2.lt
          have hs2 := E2.size; refine Wo rfl (opv_assign (v := .bool _) rfl) ?_; refine Wo_nil ?_; refine W_seq ?_; refine W_seq ?_; refine W_region rfl ?_; refine Wo (v := .agg _) rfl (opv_load2 Try.isAgg25 Try.sizeOf25 rfl (hB1.ext E2)) ?_
          refine Wo_call rfl (opc1 (a := .agg _) Try.call16 rfl) (k1 _ _ _ ((Mono.mono (E1.trans E2) h1)) ((Mono.mono (E1.trans E2) h2))) ?_; rintro _ w3 ⟨rfl, E3⟩; have hs3 := E3.size; refine Wo rfl (opv_not rfl) ?_
          refine Wo_split rfl (opv_move (v := .bool _) rfl) (fun h3 => ?_) (fun h3 => ?_); contradiction; refine Wo rfl (opv_move (v := .int _ _) rfl) ?_
          refine Wo_call rfl (opc3 (a := .int _ _) (b := .int _ _) (c := .int _ _) Try.call58 rfl rfl rfl) (l1In_ok _ _ _ _) ?_; rintro _ w4 ⟨rfl, E4⟩; have hs4 := E4.size; refine Wo rfl (opv_not rfl) ?_
          refine Wo rfl (opv_pick_f (v := .bool _) rfl rfl) ?_; refine Wo_nil ?_; refine W_cond_ndec rfl (fun h4 => ?_) (fun h4 => ?_); contradiction; refine W_skip ?_; refine W_seq ?_; refine W_region rfl ?_
          refine Wo (v := .agg _) rfl (opv_load2 Try.isAgg25 Try.sizeOf25 rfl (hB1.ext ((E2.trans E3).trans E4))) ?_
          refine Wo_call rfl (opc1 (a := .agg _) Try.call53 rfl) (k2 _ _ _ ((Mono.mono (((E1.trans E2).trans E3).trans E4) h1)) ((Mono.mono (((E1.trans E2).trans E3).trans E4) h2))) ?_; rintro _ w5 ⟨u3, q1, rfl, E5, hO1, hQ1, hd1⟩
          have icu3 := OwnedB.isC (Owned.toB hO1); have cpu3 := OwnedB.capOk (Owned.toB hO1); have icq1 := OwnedB.isC (Owned.toB hQ1); have cpq1 := OwnedB.capOk (Owned.toB hQ1); have hs5 := E5.size; refine Wo_alloc2 rfl flat25 ?_
          rintro b3 w6 hb3 E6 hB3; have hlb3 := hB3.lt; have hs6 := E6.size
          refine Wo_st2 rfl Try.sizeOf25 rfl rfl (by first | rfl | assumption) (by first | rfl | assumption) hB3 (by omega) (((((E1.trans E2).trans E3).trans E4).trans E5).trans E6) ?_; rintro w7 E7 hB3 K1 hz1
          have E8 := ((((E2.trans E3).trans E4).trans E5).trans E6).wroteAt (((((E1.trans E2).trans E3).trans E4).trans E5).trans E6) E7 K1 hz1 (by omega); have szE8 := E8.size
          have E9 := (((E3.trans E4).trans E5).trans E6).wroteAt (((((E1.trans E2).trans E3).trans E4).trans E5).trans E6) E7 K1 hz1 (by omega); have szE9 := E9.size
          have E10 := ((E4.trans E5).trans E6).wroteAt (((((E1.trans E2).trans E3).trans E4).trans E5).trans E6) E7 K1 hz1 (by omega); have szE10 := E10.size
          have E11 := (E5.trans E6).wroteAt (((((E1.trans E2).trans E3).trans E4).trans E5).trans E6) E7 K1 hz1 (by omega); have szE11 := E11.size
          have E12 := E6.wroteAt (((((E1.trans E2).trans E3).trans E4).trans E5).trans E6) E7 K1 hz1 (by omega); have szE12 := E12.size; have hB1 := (hB1.ext ((((E2.trans E3).trans E4).trans E5).trans E6)).of_heap (K1 _ (by omega))
          have hB2 := (hB2.ext (((E3.trans E4).trans E5).trans E6)).of_heap (K1 _ (by omega)); have hO1 := (hO1.toB.ext E6).wrote K1 (by omega); have hQ1 := (hQ1.toB.ext E6).wrote K1 (by omega); refine Wo_nil ?_; refine W_seq ?_
        clear stop4
        refine W_mid [7, 19, 20, 21, 22, 23, 24, 25, 26] (fun ((bo, _) : Nat × Value) => [(7, .pointer (some ⟨bo, 0, none⟩))]) (fun (bo, v1) w' => Ext w7 w' ∧ Blk w' bo [v1, q1] ∧ Owned w7.heap.size XI w' v1 ([z] ++ shL f)) ?_ ?_
        · focus
            have szE12 := E12.size; have szE11 := E11.size; have szE10 := E10.size; have szE9 := E9.size; have szE8 := E8.size; have szE7 := E7.size; have szE6 := E6.size; have szE5 := E5.size; have szE4 := E4.size; have szE3 := E3.size
            have szE2 := E2.size; have szE1 := E1.size; refine W_held (fun w' => Ext w7 w') mixed rfl (by kernel_rfl) ?_; intro w8 E13 K2 hz2; have hs7 := E13.size
            refine Wh_take 0 rfl (by kernel_rfl) (by kernel_rfl) rfl (fun _ _ => opv_move (v := .int _ _) rfl) E13 ?_
            refine Wh_take 2 rfl (by kernel_rfl) (by kernel_rfl) rfl (fun _ _ => opv_fieldAddr Try.underlying25 rfl rfl Try.sizeOf23 rfl) E13 ?_
            refine Wh_take (v := u3) 3 rfl (by kernel_rfl) (by kernel_rfl) rfl (fun w' hw' => opv_load Try.isAgg23 rfl ((hB3.ext hw').cell rfl)) E13 ?_
            refine Wh_take 5 rfl (by kernel_rfl) (by kernel_rfl) rfl (fun _ _ => opv_fieldAddr Try.underlying25 rfl rfl Try.sizeOf23 rfl) E13 ?_
            refine Wh_take (v := q1) 6 rfl (by kernel_rfl) (by kernel_rfl) rfl (fun w' hw' => opv_load Try.isAgg23 rfl ((hB3.ext hw').cell rfl)) E13 ?_; refine Wh_all (rs := [1, 8]) (by kernel_rfl) rfl ?_; refine WhAll_cons rfl ?_ ?_
            refine Wo_buildSliceH (ps := [(0, .int _ _)]) (cs := [_]) rfl Try.underlying23 Try.sizeOf3 Try.zeroValue3 rfl rfl rfl rfl ?_; rintro b4 w9 hb4 E14 hB4 hHb4; have hlb4 := hB4.lt; have hLb4 := own_lit1 hHb4 hb4; clear hHb4
            have hs8 := E14.size; refine Wo_nil ?_; refine ⟨(E13.trans E14), ?_⟩; refine Wh_all (rs := [4, 8]) (by kernel_rfl) rfl ?_; refine WhAll_cons rfl ?_ ?_
            refine Wo_appS rfl el23 rfl rfl (Mono.mono (E13.trans E14) (OwnedB.read hO1)) hLb4.toB (by first | omega | (simp <;> omega)) (by omega) (by omega) ((E7.trans E13).trans E14) (by omega) ?_; have hT1 := hLb4.toB
            rintro v1 w10 hLb4 E15 M1; have E16 := M1.ext hT1 ((E8.trans E13).trans E14) (by omega); have szE16 := E16.size; have E17 := M1.ext hT1 ((E9.trans E13).trans E14) (by omega); have szE17 := E17.size
            have E18 := M1.ext hT1 ((E10.trans E13).trans E14) (by omega); have szE18 := E18.size; have E19 := M1.ext hT1 ((E11.trans E13).trans E14) (by omega); have szE19 := E19.size
            have E20 := M1.ext hT1 ((E12.trans E13).trans E14) (by omega); have szE20 := E20.size; have E21 := M1.ext hT1 (E13.trans E14) (by omega); have szE21 := E21.size; have E22 := M1.ext hT1 E14 (by omega); have szE22 := E22.size
            have hB3 := (hB3.ext (E13.trans E14)).moves M1 hT1 (by omega); have hB1 := (hB1.ext (E13.trans E14)).moves M1 hT1 (by omega); have hB2 := (hB2.ext (E13.trans E14)).moves M1 hT1 (by omega)
            have hO1 := (hO1.ext (E13.trans E14)).moves M1 hT1 (by omega); have hQ1 := (hQ1.ext (E13.trans E14)).moves M1 hT1 (by omega); have hs9 := E15.size; have icv1 := OwnedB.isC (Owned.toB hLb4); refine Wo_nil ?_; refine ⟨E21, ?_⟩
            refine Wh_take 7 rfl (by kernel_rfl) (by kernel_rfl) rfl (fun _ _ => opv_build2 flat25 rfl (by first | assumption | rfl) (by first | assumption | rfl)) E21 ?_; refine Wh_all (rs := [8]) (by kernel_rfl) rfl ?_
            refine WhAll_cons rfl ?_ ?_; refine Wo_alloc2 rfl flat25 ?_; rintro b5 w11 hb5 E23 hB5; have hlb5 := hB5.lt; have hs10 := E23.size; refine Wo_nil ?_; refine ⟨(E21.trans E23), ?_⟩; refine Wh_all (rs := [9]) (by kernel_rfl) rfl ?_
            refine WhAll_cons rfl ?_ ?_; refine Wo_st2 rfl Try.sizeOf25 rfl rfl (by first | rfl | assumption) (by first | rfl | assumption) hB5 (by omega) (E15.trans E23) ?_; rintro w12 E24 hB5 K3 hz3
            have E25 := (E16.trans E23).wroteAt (E15.trans E23) E24 K3 hz3 (by omega); have szE25 := E25.size; have E26 := (E17.trans E23).wroteAt (E15.trans E23) E24 K3 hz3 (by omega); have szE26 := E26.size
            have E27 := (E18.trans E23).wroteAt (E15.trans E23) E24 K3 hz3 (by omega); have szE27 := E27.size; have E28 := (E19.trans E23).wroteAt (E15.trans E23) E24 K3 hz3 (by omega); have szE28 := E28.size
            have E29 := (E20.trans E23).wroteAt (E15.trans E23) E24 K3 hz3 (by omega); have szE29 := E29.size; have E30 := (E21.trans E23).wroteAt (E15.trans E23) E24 K3 hz3 (by omega); have szE30 := E30.size
            have E31 := (E22.trans E23).wroteAt (E15.trans E23) E24 K3 hz3 (by omega); have szE31 := E31.size; have E32 := E23.wroteAt (E15.trans E23) E24 K3 hz3 (by omega); have szE32 := E32.size; simp only [List.set] at hB5
            have hLb4 := (hLb4.toB.ext E23).wrote K3 (by omega); have hB3 := (hB3.ext E23).of_heap (K3 _ (by omega)); have hB1 := (hB1.ext E23).of_heap (K3 _ (by omega)); have hB2 := (hB2.ext E23).of_heap (K3 _ (by omega))
            have hO1 := (hO1.ext E23).wrote K3 (by omega); have hQ1 := (hQ1.ext E23).wrote K3 (by omega); refine Wo_nil ?_; refine ⟨E30, ?_⟩; refine Wh_done (by kernel_rfl) ?_; rotate_left; exact WhAll_nil; exact WhAll_nil
            refine WhAll_cons rfl ?_ ?_; refine Wo_alloc2 rfl flat25 ?_; rintro b5 w10 hb5 E15 hB5; have hlb5 := hB5.lt; have hs9 := E15.size; refine Wo_nil ?_; refine ⟨((E13.trans E14).trans E15), ?_⟩
            refine Wh_all (rs := [4]) (by kernel_rfl) rfl ?_; refine WhAll_cons rfl ?_ ?_
            refine Wo_appS rfl el23 rfl rfl (Mono.mono ((E13.trans E14).trans E15) (OwnedB.read hO1)) (hLb4.toB.ext E15) (by first | omega | (simp <;> omega)) (by omega) (by omega) (((E7.trans E13).trans E14).trans E15) (by omega) ?_
            have hT1 := (hLb4.toB.ext E15); rintro v1 w11 hLb4 E16 M1; have E17 := M1.ext hT1 (((E8.trans E13).trans E14).trans E15) (by omega); have szE17 := E17.size; have E18 := M1.ext hT1 (((E9.trans E13).trans E14).trans E15) (by omega)
            have szE18 := E18.size; have E19 := M1.ext hT1 (((E10.trans E13).trans E14).trans E15) (by omega); have szE19 := E19.size; have E20 := M1.ext hT1 (((E11.trans E13).trans E14).trans E15) (by omega); have szE20 := E20.size
            have E21 := M1.ext hT1 (((E12.trans E13).trans E14).trans E15) (by omega); have szE21 := E21.size; have E22 := M1.ext hT1 ((E13.trans E14).trans E15) (by omega); have szE22 := E22.size
            have E23 := M1.ext hT1 (E14.trans E15) (by omega); have szE23 := E23.size; have hB3 := (hB3.ext ((E13.trans E14).trans E15)).moves M1 hT1 (by omega); have hB1 := (hB1.ext ((E13.trans E14).trans E15)).moves M1 hT1 (by omega)
            have hB2 := (hB2.ext ((E13.trans E14).trans E15)).moves M1 hT1 (by omega); have hO1 := (hO1.ext ((E13.trans E14).trans E15)).moves M1 hT1 (by omega); have hQ1 := (hQ1.ext ((E13.trans E14).trans E15)).moves M1 hT1 (by omega)
            have hB5 := hB5.moves M1 hT1 (by omega); have hs10 := E16.size; have icv1 := OwnedB.isC (Owned.toB hLb4); refine Wo_nil ?_; refine ⟨E22, ?_⟩
            refine Wh_take 7 rfl (by kernel_rfl) (by kernel_rfl) rfl (fun _ _ => opv_build2 flat25 rfl (by first | assumption | rfl) (by first | assumption | rfl)) E22 ?_; refine Wh_all (rs := [9]) (by kernel_rfl) rfl ?_
            refine WhAll_cons rfl ?_ ?_; refine Wo_st2 rfl Try.sizeOf25 rfl rfl (by first | rfl | assumption) (by first | rfl | assumption) hB5 (by omega) E16 ?_; rintro w12 E24 hB5 K3 hz3; have E25 := E17.wroteAt E16 E24 K3 hz3 (by omega)
            have szE25 := E25.size; have E26 := E18.wroteAt E16 E24 K3 hz3 (by omega); have szE26 := E26.size; have E27 := E19.wroteAt E16 E24 K3 hz3 (by omega); have szE27 := E27.size; have E28 := E20.wroteAt E16 E24 K3 hz3 (by omega)
            have szE28 := E28.size; have E29 := E21.wroteAt E16 E24 K3 hz3 (by omega); have szE29 := E29.size; have E30 := E22.wroteAt E16 E24 K3 hz3 (by omega); have szE30 := E30.size; have E31 := E23.wroteAt E16 E24 K3 hz3 (by omega)
            have szE31 := E31.size; simp only [List.set] at hB5; have hLb4 := OwnedB.wroteOff hLb4.toB (Moves.offS M1 rfl (by omega) (by omega)) K3; have hB3 := hB3.of_heap (K3 _ (by omega)); have hB1 := hB1.of_heap (K3 _ (by omega))
            have hB2 := hB2.of_heap (K3 _ (by omega)); have hO1 := hO1.wrote K3 (by omega); have hQ1 := hQ1.wrote K3 (by omega); refine Wo_nil ?_; refine ⟨E30, ?_⟩; refine Wh_done (by kernel_rfl) ?_; rotate_left; exact WhAll_nil
            exact WhAll_nil; exact WhAll_nil; refine WhAll_cons rfl ?_ ?_; refine Wo_alloc2 rfl flat25 ?_; rintro b4 w9 hb4 E14 hB4; have hlb4 := hB4.lt; have hs8 := E14.size; refine Wo_nil ?_; refine ⟨(E13.trans E14), ?_⟩
            refine Wh_all (rs := [1]) (by kernel_rfl) rfl ?_; refine WhAll_cons rfl ?_ ?_; refine Wo_buildSliceH (ps := [(0, .int _ _)]) (cs := [_]) rfl Try.underlying23 Try.sizeOf3 Try.zeroValue3 rfl rfl rfl rfl ?_
            rintro b5 w10 hb5 E15 hB5 hHb5; have hlb5 := hB5.lt; have hLb5 := own_lit1 hHb5 hb5; clear hHb5; have hs9 := E15.size; refine Wo_nil ?_; refine ⟨((E13.trans E14).trans E15), ?_⟩; refine Wh_all (rs := [4]) (by kernel_rfl) rfl ?_
            refine WhAll_cons rfl ?_ ?_
            refine Wo_appS rfl el23 rfl rfl (Mono.mono ((E13.trans E14).trans E15) (OwnedB.read hO1)) hLb5.toB (by first | omega | (simp <;> omega)) (by omega) (by omega) (((E7.trans E13).trans E14).trans E15) (by omega) ?_
            have hT1 := hLb5.toB; rintro v1 w11 hLb5 E16 M1; have E17 := M1.ext hT1 (((E8.trans E13).trans E14).trans E15) (by omega); have szE17 := E17.size; have E18 := M1.ext hT1 (((E9.trans E13).trans E14).trans E15) (by omega)
            have szE18 := E18.size; have E19 := M1.ext hT1 (((E10.trans E13).trans E14).trans E15) (by omega); have szE19 := E19.size; have E20 := M1.ext hT1 (((E11.trans E13).trans E14).trans E15) (by omega); have szE20 := E20.size
            have E21 := M1.ext hT1 (((E12.trans E13).trans E14).trans E15) (by omega); have szE21 := E21.size; have E22 := M1.ext hT1 ((E13.trans E14).trans E15) (by omega); have szE22 := E22.size
            have E23 := M1.ext hT1 (E14.trans E15) (by omega); have szE23 := E23.size; have E24 := M1.ext hT1 E15 (by omega); have szE24 := E24.size; have hB3 := (hB3.ext ((E13.trans E14).trans E15)).moves M1 hT1 (by omega)
            have hB1 := (hB1.ext ((E13.trans E14).trans E15)).moves M1 hT1 (by omega); have hB2 := (hB2.ext ((E13.trans E14).trans E15)).moves M1 hT1 (by omega); have hO1 := (hO1.ext ((E13.trans E14).trans E15)).moves M1 hT1 (by omega)
            have hQ1 := (hQ1.ext ((E13.trans E14).trans E15)).moves M1 hT1 (by omega); have hB4 := (hB4.ext E15).moves M1 hT1 (by omega); have hs10 := E16.size; have icv1 := OwnedB.isC (Owned.toB hLb5); refine Wo_nil ?_; refine ⟨E22, ?_⟩
            refine Wh_take 7 rfl (by kernel_rfl) (by kernel_rfl) rfl (fun _ _ => opv_build2 flat25 rfl (by first | assumption | rfl) (by first | assumption | rfl)) E22 ?_; refine Wh_all (rs := [9]) (by kernel_rfl) rfl ?_
            refine WhAll_cons rfl ?_ ?_; refine Wo_st2 rfl Try.sizeOf25 rfl rfl (by first | rfl | assumption) (by first | rfl | assumption) hB4 (by omega) E16 ?_; rintro w12 E25 hB4 K3 hz3; have E26 := E17.wroteAt E16 E25 K3 hz3 (by omega)
            have szE26 := E26.size; have E27 := E18.wroteAt E16 E25 K3 hz3 (by omega); have szE27 := E27.size; have E28 := E19.wroteAt E16 E25 K3 hz3 (by omega); have szE28 := E28.size; have E29 := E20.wroteAt E16 E25 K3 hz3 (by omega)
            have szE29 := E29.size; have E30 := E21.wroteAt E16 E25 K3 hz3 (by omega); have szE30 := E30.size; have E31 := E22.wroteAt E16 E25 K3 hz3 (by omega); have szE31 := E31.size; have E32 := E23.wroteAt E16 E25 K3 hz3 (by omega)
            have szE32 := E32.size; simp only [List.set] at hB4; have hLb5 := hLb5.toB.wrote K3 (by omega); have hB3 := hB3.of_heap (K3 _ (by omega)); have hB1 := hB1.of_heap (K3 _ (by omega)); have hB2 := hB2.of_heap (K3 _ (by omega))
            have hO1 := hO1.wrote K3 (by omega); have hQ1 := hQ1.wrote K3 (by omega); refine Wo_nil ?_; refine ⟨E31, ?_⟩; refine Wh_done (by kernel_rfl) ?_; rotate_left; exact WhAll_nil; exact WhAll_nil; exact WhAll_nil; exact WhAll_nil
          all_goals
            first
            | refine ⟨(b5, v1), ⟨rfl, trivial⟩, by repeat (first | with_reducible exact Same.refl | refine Same.upd rfl ?_ | refine Same.upds rfl ?_ | refine Same.mix rfl ?_), ?_⟩
            | refine ⟨(b4, v1), ⟨rfl, trivial⟩, by repeat (first | with_reducible exact Same.refl | refine Same.upd rfl ?_ | refine Same.upds rfl ?_ | refine Same.mix rfl ?_), ?_⟩
            exact ⟨by assumption, by assumption, Owned.mono (OwnedB.o (by assumption)) (by omega)⟩
        clear hB3 hB2 hB1
        rintro ⟨bo, v1⟩ ρy w20 ⟨E20, hB20, hO20⟩
        focus
          have szE20 := E20.size; have szE12 := E12.size; have szE11 := E11.size; have szE10 := E10.size; have szE9 := E9.size; have szE8 := E8.size; have szE7 := E7.size; have szE6 := E6.size; have szE5 := E5.size; have szE4 := E4.size
          have szE3 := E3.size; have szE2 := E2.size; have szE1 := E1.size; refine W_seq ?_; refine W_seq ?_; refine W_region rfl ?_; refine Wo (v := .agg _) rfl (opv_load2 Try.isAgg25 Try.sizeOf25 rfl hB20) ?_
          refine Wo_call rfl (opc1 (a := .agg _) Try.call16 rfl) (k3 _ _ _ ((Owned.read hO20)) ((Mono.mono E20 (OwnedB.read hQ1)))) ?_; rintro _ w8 ⟨rfl, E13⟩; have hs7 := E13.size; refine Wo rfl (opv_not rfl) ?_; refine Wo_nil ?_
          refine W_cond rfl (fun h5 => ?_) (fun h5 => ?_); refine W_seq ?_; refine W_region rfl ?_; refine Wo rfl (opv_build (ps := []) (cs := [_, _]) flat25 rfl rfl) ?_
          refine Wo_st2 rfl Try.sizeOf25 rfl rfl (by first | rfl | assumption) (by first | rfl | assumption) (hB2.ext ((E9.trans E20).trans E13)) (by omega) ((E7.trans E20).trans E13) ?_; rintro w9 E14 hB2 K2 hz2
          have E15 := ((E8.trans E20).trans E13).wroteAt ((E7.trans E20).trans E13) E14 K2 hz2 (by omega); have szE15 := E15.size; have hB1 := (hB1.ext ((E8.trans E20).trans E13)).of_heap (K2 _ (by omega))
          have hO1 := (hO1.ext (E20.trans E13)).wrote K2 (by omega); have hQ1 := (hQ1.ext (E20.trans E13)).wrote K2 (by omega); have hO20 := (hO20.toB.ext E13).wrote K2 (by omega); refine Wo rfl (opv_assign (v := .bool _) rfl) ?_
          refine Wo_nil ?_; refine W_ret ?_; rotate_left; contradiction
        all_goals exact ⟨_, _, _, rfl, by assumption, _, _, rfl, by assumption, Owned.nil, Owned.nil, .inr rfl⟩
      · have e0 : paV z A B = (shL (cns z f), shR (cns z f), true) := by rw [hf]; exact if_pos ⟨hz, hs, by rw [← hf]; exact h12⟩
        rw [e0]
        have hn : Stm ([z] ++ shL f) (shR f) := ⟨fun x hx => (List.mem_append.1 hx).elim (fun h => by simp at h; omega) (fun h => hsst.1 x h), hsst.2.1, hsst.2.2.1, by have := hsst.2.2.2; simp; omega⟩
        have k3 := hok ([z] ++ shL f) (shR f) true (by simp; omega) (by omega) (decide_eq_true hn)
        have k4 : ∀ (w : World) (u1 u2 : Value), Ints w u1 ([z] ++ shL f) → Ints w u2 (shR f) → Does Try.prog 53 [.agg #[u1, u2]] w (RetS2 w 3 (shL (cns z f)) (shR (cns z f))) := fun w u1 u2 h1 h2 => by
          have := spec_ShortOf_ok w u1 u2 _ _ h1 h2 (by simp; omega) (by omega)
          rw [show shV ([z] ++ shL f) (shR f) = (shL (cns z f), shR (cns z f)) by unfold shV; rw [if_pos hn, show bat ([z] ++ shL f) (shR f) = cns z f from bat_cns hsh.1]] at this
          exact this
        clear hok
        refine fn_of_Wct Try.func31 rfl Try.results31 Try.ntmps31 rfl Try.isAgg25 Try.sizeOf25 ?_
        have stop4 : True := trivial
        have heldS : True := trivial
        focus
          refine W_seq ?_; refine W_region rfl ?_; refine Wo_box rfl rfl rfl ?_; rintro b1 w1 hb1 E1 hB1; have hlb1 := hB1.lt; have hs1 := E1.size; refine Wo_alloc2 rfl flat25 ?_; rintro b2 w2 hb2 E2 hB2; have hlb2 := hB2.lt
          have hs2 := E2.size; refine Wo rfl (opv_assign (v := .bool _) rfl) ?_; refine Wo_nil ?_; refine W_seq ?_; refine W_seq ?_; refine W_region rfl ?_; refine Wo (v := .agg _) rfl (opv_load2 Try.isAgg25 Try.sizeOf25 rfl (hB1.ext E2)) ?_
          refine Wo_call rfl (opc1 (a := .agg _) Try.call16 rfl) (k1 _ _ _ ((Mono.mono (E1.trans E2) h1)) ((Mono.mono (E1.trans E2) h2))) ?_; rintro _ w3 ⟨rfl, E3⟩; have hs3 := E3.size; refine Wo rfl (opv_not rfl) ?_
          refine Wo_split rfl (opv_move (v := .bool _) rfl) (fun h3 => ?_) (fun h3 => ?_); contradiction; refine Wo rfl (opv_move (v := .int _ _) rfl) ?_
          refine Wo_call rfl (opc3 (a := .int _ _) (b := .int _ _) (c := .int _ _) Try.call58 rfl rfl rfl) (l1In_ok _ _ _ _) ?_; rintro _ w4 ⟨rfl, E4⟩; have hs4 := E4.size; refine Wo rfl (opv_not rfl) ?_
          refine Wo rfl (opv_pick_f (v := .bool _) rfl rfl) ?_; refine Wo_nil ?_; refine W_cond_ndec rfl (fun h4 => ?_) (fun h4 => ?_); contradiction; refine W_skip ?_; refine W_seq ?_; refine W_region rfl ?_
          refine Wo (v := .agg _) rfl (opv_load2 Try.isAgg25 Try.sizeOf25 rfl (hB1.ext ((E2.trans E3).trans E4))) ?_
          refine Wo_call rfl (opc1 (a := .agg _) Try.call53 rfl) (k2 _ _ _ ((Mono.mono (((E1.trans E2).trans E3).trans E4) h1)) ((Mono.mono (((E1.trans E2).trans E3).trans E4) h2))) ?_; rintro _ w5 ⟨u3, q1, rfl, E5, hO1, hQ1, hd1⟩
          have icu3 := OwnedB.isC (Owned.toB hO1); have cpu3 := OwnedB.capOk (Owned.toB hO1); have icq1 := OwnedB.isC (Owned.toB hQ1); have cpq1 := OwnedB.capOk (Owned.toB hQ1); have hs5 := E5.size; refine Wo_alloc2 rfl flat25 ?_
          rintro b3 w6 hb3 E6 hB3; have hlb3 := hB3.lt; have hs6 := E6.size
          refine Wo_st2 rfl Try.sizeOf25 rfl rfl (by first | rfl | assumption) (by first | rfl | assumption) hB3 (by omega) (((((E1.trans E2).trans E3).trans E4).trans E5).trans E6) ?_; rintro w7 E7 hB3 K1 hz1
          have E8 := ((((E2.trans E3).trans E4).trans E5).trans E6).wroteAt (((((E1.trans E2).trans E3).trans E4).trans E5).trans E6) E7 K1 hz1 (by omega); have szE8 := E8.size
          have E9 := (((E3.trans E4).trans E5).trans E6).wroteAt (((((E1.trans E2).trans E3).trans E4).trans E5).trans E6) E7 K1 hz1 (by omega); have szE9 := E9.size
          have E10 := ((E4.trans E5).trans E6).wroteAt (((((E1.trans E2).trans E3).trans E4).trans E5).trans E6) E7 K1 hz1 (by omega); have szE10 := E10.size
          have E11 := (E5.trans E6).wroteAt (((((E1.trans E2).trans E3).trans E4).trans E5).trans E6) E7 K1 hz1 (by omega); have szE11 := E11.size
          have E12 := E6.wroteAt (((((E1.trans E2).trans E3).trans E4).trans E5).trans E6) E7 K1 hz1 (by omega); have szE12 := E12.size; have hB1 := (hB1.ext ((((E2.trans E3).trans E4).trans E5).trans E6)).of_heap (K1 _ (by omega))
          have hB2 := (hB2.ext (((E3.trans E4).trans E5).trans E6)).of_heap (K1 _ (by omega)); have hO1 := (hO1.toB.ext E6).wrote K1 (by omega); have hQ1 := (hQ1.toB.ext E6).wrote K1 (by omega); refine Wo_nil ?_; refine W_seq ?_
        clear stop4
        refine W_mid [7, 19, 20, 21, 22, 23, 24, 25, 26] (fun ((bo, _) : Nat × Value) => [(7, .pointer (some ⟨bo, 0, none⟩))]) (fun (bo, v1) w' => Ext w7 w' ∧ Blk w' bo [v1, q1] ∧ Owned w7.heap.size XI w' v1 ([z] ++ shL f)) ?_ ?_
        · focus
            have szE12 := E12.size; have szE11 := E11.size; have szE10 := E10.size; have szE9 := E9.size; have szE8 := E8.size; have szE7 := E7.size; have szE6 := E6.size; have szE5 := E5.size; have szE4 := E4.size; have szE3 := E3.size
            have szE2 := E2.size; have szE1 := E1.size; refine W_held (fun w' => Ext w7 w') mixed rfl (by kernel_rfl) ?_; intro w8 E13 K2 hz2; have hs7 := E13.size
            refine Wh_take 0 rfl (by kernel_rfl) (by kernel_rfl) rfl (fun _ _ => opv_move (v := .int _ _) rfl) E13 ?_
            refine Wh_take 2 rfl (by kernel_rfl) (by kernel_rfl) rfl (fun _ _ => opv_fieldAddr Try.underlying25 rfl rfl Try.sizeOf23 rfl) E13 ?_
            refine Wh_take (v := u3) 3 rfl (by kernel_rfl) (by kernel_rfl) rfl (fun w' hw' => opv_load Try.isAgg23 rfl ((hB3.ext hw').cell rfl)) E13 ?_
            refine Wh_take 5 rfl (by kernel_rfl) (by kernel_rfl) rfl (fun _ _ => opv_fieldAddr Try.underlying25 rfl rfl Try.sizeOf23 rfl) E13 ?_
            refine Wh_take (v := q1) 6 rfl (by kernel_rfl) (by kernel_rfl) rfl (fun w' hw' => opv_load Try.isAgg23 rfl ((hB3.ext hw').cell rfl)) E13 ?_; refine Wh_all (rs := [1, 8]) (by kernel_rfl) rfl ?_; refine WhAll_cons rfl ?_ ?_
            refine Wo_buildSliceH (ps := [(0, .int _ _)]) (cs := [_]) rfl Try.underlying23 Try.sizeOf3 Try.zeroValue3 rfl rfl rfl rfl ?_; rintro b4 w9 hb4 E14 hB4 hHb4; have hlb4 := hB4.lt; have hLb4 := own_lit1 hHb4 hb4; clear hHb4
            have hs8 := E14.size; refine Wo_nil ?_; refine ⟨(E13.trans E14), ?_⟩; refine Wh_all (rs := [4, 8]) (by kernel_rfl) rfl ?_; refine WhAll_cons rfl ?_ ?_
            refine Wo_appS rfl el23 rfl rfl (Mono.mono (E13.trans E14) (OwnedB.read hO1)) hLb4.toB (by first | omega | (simp <;> omega)) (by omega) (by omega) ((E7.trans E13).trans E14) (by omega) ?_; have hT1 := hLb4.toB
            rintro v1 w10 hLb4 E15 M1; have E16 := M1.ext hT1 ((E8.trans E13).trans E14) (by omega); have szE16 := E16.size; have E17 := M1.ext hT1 ((E9.trans E13).trans E14) (by omega); have szE17 := E17.size
            have E18 := M1.ext hT1 ((E10.trans E13).trans E14) (by omega); have szE18 := E18.size; have E19 := M1.ext hT1 ((E11.trans E13).trans E14) (by omega); have szE19 := E19.size
            have E20 := M1.ext hT1 ((E12.trans E13).trans E14) (by omega); have szE20 := E20.size; have E21 := M1.ext hT1 (E13.trans E14) (by omega); have szE21 := E21.size; have E22 := M1.ext hT1 E14 (by omega); have szE22 := E22.size
            have hB3 := (hB3.ext (E13.trans E14)).moves M1 hT1 (by omega); have hB1 := (hB1.ext (E13.trans E14)).moves M1 hT1 (by omega); have hB2 := (hB2.ext (E13.trans E14)).moves M1 hT1 (by omega)
            have hO1 := (hO1.ext (E13.trans E14)).moves M1 hT1 (by omega); have hQ1 := (hQ1.ext (E13.trans E14)).moves M1 hT1 (by omega); have hs9 := E15.size; have icv1 := OwnedB.isC (Owned.toB hLb4); refine Wo_nil ?_; refine ⟨E21, ?_⟩
            refine Wh_take 7 rfl (by kernel_rfl) (by kernel_rfl) rfl (fun _ _ => opv_build2 flat25 rfl (by first | assumption | rfl) (by first | assumption | rfl)) E21 ?_; refine Wh_all (rs := [8]) (by kernel_rfl) rfl ?_
            refine WhAll_cons rfl ?_ ?_; refine Wo_alloc2 rfl flat25 ?_; rintro b5 w11 hb5 E23 hB5; have hlb5 := hB5.lt; have hs10 := E23.size; refine Wo_nil ?_; refine ⟨(E21.trans E23), ?_⟩; refine Wh_all (rs := [9]) (by kernel_rfl) rfl ?_
            refine WhAll_cons rfl ?_ ?_; refine Wo_st2 rfl Try.sizeOf25 rfl rfl (by first | rfl | assumption) (by first | rfl | assumption) hB5 (by omega) (E15.trans E23) ?_; rintro w12 E24 hB5 K3 hz3
            have E25 := (E16.trans E23).wroteAt (E15.trans E23) E24 K3 hz3 (by omega); have szE25 := E25.size; have E26 := (E17.trans E23).wroteAt (E15.trans E23) E24 K3 hz3 (by omega); have szE26 := E26.size
            have E27 := (E18.trans E23).wroteAt (E15.trans E23) E24 K3 hz3 (by omega); have szE27 := E27.size; have E28 := (E19.trans E23).wroteAt (E15.trans E23) E24 K3 hz3 (by omega); have szE28 := E28.size
            have E29 := (E20.trans E23).wroteAt (E15.trans E23) E24 K3 hz3 (by omega); have szE29 := E29.size; have E30 := (E21.trans E23).wroteAt (E15.trans E23) E24 K3 hz3 (by omega); have szE30 := E30.size
            have E31 := (E22.trans E23).wroteAt (E15.trans E23) E24 K3 hz3 (by omega); have szE31 := E31.size; have E32 := E23.wroteAt (E15.trans E23) E24 K3 hz3 (by omega); have szE32 := E32.size; simp only [List.set] at hB5
            have hLb4 := (hLb4.toB.ext E23).wrote K3 (by omega); have hB3 := (hB3.ext E23).of_heap (K3 _ (by omega)); have hB1 := (hB1.ext E23).of_heap (K3 _ (by omega)); have hB2 := (hB2.ext E23).of_heap (K3 _ (by omega))
            have hO1 := (hO1.ext E23).wrote K3 (by omega); have hQ1 := (hQ1.ext E23).wrote K3 (by omega); refine Wo_nil ?_; refine ⟨E30, ?_⟩; refine Wh_done (by kernel_rfl) ?_; rotate_left; exact WhAll_nil; exact WhAll_nil
            refine WhAll_cons rfl ?_ ?_; refine Wo_alloc2 rfl flat25 ?_; rintro b5 w10 hb5 E15 hB5; have hlb5 := hB5.lt; have hs9 := E15.size; refine Wo_nil ?_; refine ⟨((E13.trans E14).trans E15), ?_⟩
            refine Wh_all (rs := [4]) (by kernel_rfl) rfl ?_; refine WhAll_cons rfl ?_ ?_
            refine Wo_appS rfl el23 rfl rfl (Mono.mono ((E13.trans E14).trans E15) (OwnedB.read hO1)) (hLb4.toB.ext E15) (by first | omega | (simp <;> omega)) (by omega) (by omega) (((E7.trans E13).trans E14).trans E15) (by omega) ?_
            have hT1 := (hLb4.toB.ext E15); rintro v1 w11 hLb4 E16 M1; have E17 := M1.ext hT1 (((E8.trans E13).trans E14).trans E15) (by omega); have szE17 := E17.size; have E18 := M1.ext hT1 (((E9.trans E13).trans E14).trans E15) (by omega)
            have szE18 := E18.size; have E19 := M1.ext hT1 (((E10.trans E13).trans E14).trans E15) (by omega); have szE19 := E19.size; have E20 := M1.ext hT1 (((E11.trans E13).trans E14).trans E15) (by omega); have szE20 := E20.size
            have E21 := M1.ext hT1 (((E12.trans E13).trans E14).trans E15) (by omega); have szE21 := E21.size; have E22 := M1.ext hT1 ((E13.trans E14).trans E15) (by omega); have szE22 := E22.size
            have E23 := M1.ext hT1 (E14.trans E15) (by omega); have szE23 := E23.size; have hB3 := (hB3.ext ((E13.trans E14).trans E15)).moves M1 hT1 (by omega); have hB1 := (hB1.ext ((E13.trans E14).trans E15)).moves M1 hT1 (by omega)
            have hB2 := (hB2.ext ((E13.trans E14).trans E15)).moves M1 hT1 (by omega); have hO1 := (hO1.ext ((E13.trans E14).trans E15)).moves M1 hT1 (by omega); have hQ1 := (hQ1.ext ((E13.trans E14).trans E15)).moves M1 hT1 (by omega)
            have hB5 := hB5.moves M1 hT1 (by omega); have hs10 := E16.size; have icv1 := OwnedB.isC (Owned.toB hLb4); refine Wo_nil ?_; refine ⟨E22, ?_⟩
            refine Wh_take 7 rfl (by kernel_rfl) (by kernel_rfl) rfl (fun _ _ => opv_build2 flat25 rfl (by first | assumption | rfl) (by first | assumption | rfl)) E22 ?_; refine Wh_all (rs := [9]) (by kernel_rfl) rfl ?_
            refine WhAll_cons rfl ?_ ?_; refine Wo_st2 rfl Try.sizeOf25 rfl rfl (by first | rfl | assumption) (by first | rfl | assumption) hB5 (by omega) E16 ?_; rintro w12 E24 hB5 K3 hz3; have E25 := E17.wroteAt E16 E24 K3 hz3 (by omega)
            have szE25 := E25.size; have E26 := E18.wroteAt E16 E24 K3 hz3 (by omega); have szE26 := E26.size; have E27 := E19.wroteAt E16 E24 K3 hz3 (by omega); have szE27 := E27.size; have E28 := E20.wroteAt E16 E24 K3 hz3 (by omega)
            have szE28 := E28.size; have E29 := E21.wroteAt E16 E24 K3 hz3 (by omega); have szE29 := E29.size; have E30 := E22.wroteAt E16 E24 K3 hz3 (by omega); have szE30 := E30.size; have E31 := E23.wroteAt E16 E24 K3 hz3 (by omega)
            have szE31 := E31.size; simp only [List.set] at hB5; have hLb4 := OwnedB.wroteOff hLb4.toB (Moves.offS M1 rfl (by omega) (by omega)) K3; have hB3 := hB3.of_heap (K3 _ (by omega)); have hB1 := hB1.of_heap (K3 _ (by omega))
            have hB2 := hB2.of_heap (K3 _ (by omega)); have hO1 := hO1.wrote K3 (by omega); have hQ1 := hQ1.wrote K3 (by omega); refine Wo_nil ?_; refine ⟨E30, ?_⟩; refine Wh_done (by kernel_rfl) ?_; rotate_left; exact WhAll_nil
            exact WhAll_nil; exact WhAll_nil; refine WhAll_cons rfl ?_ ?_; refine Wo_alloc2 rfl flat25 ?_; rintro b4 w9 hb4 E14 hB4; have hlb4 := hB4.lt; have hs8 := E14.size; refine Wo_nil ?_; refine ⟨(E13.trans E14), ?_⟩
            refine Wh_all (rs := [1]) (by kernel_rfl) rfl ?_; refine WhAll_cons rfl ?_ ?_; refine Wo_buildSliceH (ps := [(0, .int _ _)]) (cs := [_]) rfl Try.underlying23 Try.sizeOf3 Try.zeroValue3 rfl rfl rfl rfl ?_
            rintro b5 w10 hb5 E15 hB5 hHb5; have hlb5 := hB5.lt; have hLb5 := own_lit1 hHb5 hb5; clear hHb5; have hs9 := E15.size; refine Wo_nil ?_; refine ⟨((E13.trans E14).trans E15), ?_⟩; refine Wh_all (rs := [4]) (by kernel_rfl) rfl ?_
            refine WhAll_cons rfl ?_ ?_
            refine Wo_appS rfl el23 rfl rfl (Mono.mono ((E13.trans E14).trans E15) (OwnedB.read hO1)) hLb5.toB (by first | omega | (simp <;> omega)) (by omega) (by omega) (((E7.trans E13).trans E14).trans E15) (by omega) ?_
            have hT1 := hLb5.toB; rintro v1 w11 hLb5 E16 M1; have E17 := M1.ext hT1 (((E8.trans E13).trans E14).trans E15) (by omega); have szE17 := E17.size; have E18 := M1.ext hT1 (((E9.trans E13).trans E14).trans E15) (by omega)
            have szE18 := E18.size; have E19 := M1.ext hT1 (((E10.trans E13).trans E14).trans E15) (by omega); have szE19 := E19.size; have E20 := M1.ext hT1 (((E11.trans E13).trans E14).trans E15) (by omega); have szE20 := E20.size
            have E21 := M1.ext hT1 (((E12.trans E13).trans E14).trans E15) (by omega); have szE21 := E21.size; have E22 := M1.ext hT1 ((E13.trans E14).trans E15) (by omega); have szE22 := E22.size
            have E23 := M1.ext hT1 (E14.trans E15) (by omega); have szE23 := E23.size; have E24 := M1.ext hT1 E15 (by omega); have szE24 := E24.size; have hB3 := (hB3.ext ((E13.trans E14).trans E15)).moves M1 hT1 (by omega)
            have hB1 := (hB1.ext ((E13.trans E14).trans E15)).moves M1 hT1 (by omega); have hB2 := (hB2.ext ((E13.trans E14).trans E15)).moves M1 hT1 (by omega); have hO1 := (hO1.ext ((E13.trans E14).trans E15)).moves M1 hT1 (by omega)
            have hQ1 := (hQ1.ext ((E13.trans E14).trans E15)).moves M1 hT1 (by omega); have hB4 := (hB4.ext E15).moves M1 hT1 (by omega); have hs10 := E16.size; have icv1 := OwnedB.isC (Owned.toB hLb5); refine Wo_nil ?_; refine ⟨E22, ?_⟩
            refine Wh_take 7 rfl (by kernel_rfl) (by kernel_rfl) rfl (fun _ _ => opv_build2 flat25 rfl (by first | assumption | rfl) (by first | assumption | rfl)) E22 ?_; refine Wh_all (rs := [9]) (by kernel_rfl) rfl ?_
            refine WhAll_cons rfl ?_ ?_; refine Wo_st2 rfl Try.sizeOf25 rfl rfl (by first | rfl | assumption) (by first | rfl | assumption) hB4 (by omega) E16 ?_; rintro w12 E25 hB4 K3 hz3; have E26 := E17.wroteAt E16 E25 K3 hz3 (by omega)
            have szE26 := E26.size; have E27 := E18.wroteAt E16 E25 K3 hz3 (by omega); have szE27 := E27.size; have E28 := E19.wroteAt E16 E25 K3 hz3 (by omega); have szE28 := E28.size; have E29 := E20.wroteAt E16 E25 K3 hz3 (by omega)
            have szE29 := E29.size; have E30 := E21.wroteAt E16 E25 K3 hz3 (by omega); have szE30 := E30.size; have E31 := E22.wroteAt E16 E25 K3 hz3 (by omega); have szE31 := E31.size; have E32 := E23.wroteAt E16 E25 K3 hz3 (by omega)
            have szE32 := E32.size; simp only [List.set] at hB4; have hLb5 := hLb5.toB.wrote K3 (by omega); have hB3 := hB3.of_heap (K3 _ (by omega)); have hB1 := hB1.of_heap (K3 _ (by omega)); have hB2 := hB2.of_heap (K3 _ (by omega))
            have hO1 := hO1.wrote K3 (by omega); have hQ1 := hQ1.wrote K3 (by omega); refine Wo_nil ?_; refine ⟨E31, ?_⟩; refine Wh_done (by kernel_rfl) ?_; rotate_left; exact WhAll_nil; exact WhAll_nil; exact WhAll_nil; exact WhAll_nil
          all_goals
            first
            | refine ⟨(b5, v1), ⟨rfl, trivial⟩, by repeat (first | with_reducible exact Same.refl | refine Same.upd rfl ?_ | refine Same.upds rfl ?_ | refine Same.mix rfl ?_), ?_⟩
            | refine ⟨(b4, v1), ⟨rfl, trivial⟩, by repeat (first | with_reducible exact Same.refl | refine Same.upd rfl ?_ | refine Same.upds rfl ?_ | refine Same.mix rfl ?_), ?_⟩
            exact ⟨by assumption, by assumption, Owned.mono (OwnedB.o (by assumption)) (by omega)⟩
        clear hB3 hB2 hB1
        rintro ⟨bo, v1⟩ ρy w20 ⟨E20, hB20, hO20⟩
        focus
          have szE20 := E20.size; have szE12 := E12.size; have szE11 := E11.size; have szE10 := E10.size; have szE9 := E9.size; have szE8 := E8.size; have szE7 := E7.size; have szE6 := E6.size; have szE5 := E5.size; have szE4 := E4.size
          have szE3 := E3.size; have szE2 := E2.size; have szE1 := E1.size; refine W_seq ?_; refine W_seq ?_; refine W_region rfl ?_; refine Wo (v := .agg _) rfl (opv_load2 Try.isAgg25 Try.sizeOf25 rfl hB20) ?_
          refine Wo_call rfl (opc1 (a := .agg _) Try.call16 rfl) (k3 _ _ _ ((Owned.read hO20)) ((Mono.mono E20 (OwnedB.read hQ1)))) ?_; rintro _ w8 ⟨rfl, E13⟩; have hs7 := E13.size; refine Wo rfl (opv_not rfl) ?_; refine Wo_nil ?_
          refine W_cond rfl (fun h5 => ?_) (fun h5 => ?_); contradiction; refine W_skip ?_; refine W_seq ?_; refine W_region rfl ?_; refine Wo (v := .agg _) rfl (opv_load2 Try.isAgg25 Try.sizeOf25 rfl (hB20.ext E13)) ?_
          refine Wo_call rfl (opc1 (a := .agg _) Try.call53 rfl) (k4 _ _ _ ((Mono.mono E13 (Owned.read hO20))) ((Mono.mono (E20.trans E13) (OwnedB.read hQ1)))) ?_; rintro _ w9 ⟨u4, q2, rfl, E14, hO2, hQ2, hd2⟩
          have icu4 := OwnedB.isC (Owned.toB hO2); have cpu4 := OwnedB.capOk (Owned.toB hO2); have icq2 := OwnedB.isC (Owned.toB hQ2); have cpq2 := OwnedB.capOk (Owned.toB hQ2); have hs8 := E14.size
          refine Wo_st2 rfl Try.sizeOf25 rfl rfl (by first | rfl | assumption) (by first | rfl | assumption) (hB2.ext (((E9.trans E20).trans E13).trans E14)) (by omega) (((E7.trans E20).trans E13).trans E14) ?_; rintro w10 E15 hB2 K2 hz2
          have E16 := (((E8.trans E20).trans E13).trans E14).wroteAt (((E7.trans E20).trans E13).trans E14) E15 K2 hz2 (by omega); have szE16 := E16.size; have hB1 := (hB1.ext (((E8.trans E20).trans E13).trans E14)).of_heap (K2 _ (by omega))
          have hO1 := (hO1.ext ((E20.trans E13).trans E14)).wrote K2 (by omega); have hQ1 := (hQ1.ext ((E20.trans E13).trans E14)).wrote K2 (by omega); have hO20 := (hO20.toB.ext (E13.trans E14)).wrote K2 (by omega)
          have hO2 := hO2.toB.wrote K2 (by omega); have hQ2 := hQ2.toB.wrote K2 (by omega); refine Wo rfl (opv_assign (v := .bool _) rfl) ?_; refine Wo_nil ?_; refine W_ret ?_
        all_goals exact ⟨_, _, _, rfl, by assumption, _, _, rfl, by assumption, hO2.o.mono (by omega), hQ2.o.mono (by omega), hd2⟩
    · have e0 : paV z A B = ([], [], false) := if_neg (fun h => hz h.1)
      rw [e0]
      clear hok
      have hne : ¬ (0 ≤ z ∧ z ≤ 1) := fun h => hz (by omega)
      refine fn_of_Wct Try.func31 rfl Try.results31 Try.ntmps31 rfl Try.isAgg25 Try.sizeOf25 ?_
      focus
        refine W_seq ?_; refine W_region rfl ?_; refine Wo_box rfl rfl rfl ?_; rintro b1 w1 hb1 E1 hB1; have hlb1 := hB1.lt; have hs1 := E1.size; refine Wo_alloc2 rfl flat25 ?_; rintro b2 w2 hb2 E2 hB2; have hlb2 := hB2.lt
        have hs2 := E2.size; refine Wo rfl (opv_assign (v := .bool _) rfl) ?_; refine Wo_nil ?_; refine W_seq ?_; refine W_seq ?_; refine W_region rfl ?_; refine Wo (v := .agg _) rfl (opv_load2 Try.isAgg25 Try.sizeOf25 rfl (hB1.ext E2)) ?_
        refine Wo_call rfl (opc1 (a := .agg _) Try.call16 rfl) (k1 _ _ _ ((Mono.mono (E1.trans E2) h1)) ((Mono.mono (E1.trans E2) h2))) ?_; rintro _ w3 ⟨rfl, E3⟩; have hs3 := E3.size; refine Wo rfl (opv_not rfl) ?_
        refine Wo_split rfl (opv_move (v := .bool _) rfl) (fun h3 => ?_) (fun h3 => ?_); contradiction; refine Wo rfl (opv_move (v := .int _ _) rfl) ?_
        refine Wo_call rfl (opc3 (a := .int _ _) (b := .int _ _) (c := .int _ _) Try.call58 rfl rfl rfl) (l1In_ok _ _ _ _) ?_; rintro _ w4 ⟨rfl, E4⟩; have hs4 := E4.size; refine Wo rfl (opv_not rfl) ?_
        refine Wo rfl (opv_pick_f (v := .bool _) rfl rfl) ?_; refine Wo_nil ?_; refine W_cond_ndec rfl (fun h4 => ?_) (fun h4 => ?_); refine W_seq ?_; refine W_region rfl ?_
        refine Wo rfl (opv_build (ps := []) (cs := [_, _]) flat25 rfl rfl) ?_
        refine Wo_st2 rfl Try.sizeOf25 rfl rfl (by first | rfl | assumption) (by first | rfl | assumption) (hB2.ext (E3.trans E4)) (by omega) (((E1.trans E2).trans E3).trans E4) ?_; rintro w5 E5 hB2 K1 hz1
        have E6 := ((E2.trans E3).trans E4).wroteAt (((E1.trans E2).trans E3).trans E4) E5 K1 hz1 (by omega); have szE6 := E6.size; have hB1 := (hB1.ext ((E2.trans E3).trans E4)).of_heap (K1 _ (by omega))
        refine Wo rfl (opv_assign (v := .bool _) rfl) ?_; refine Wo_nil ?_; refine W_ret ?_; rotate_left; contradiction
      all_goals exact ⟨_, _, _, rfl, by assumption, _, _, rfl, by assumption, Owned.nil, Owned.nil, .inr rfl⟩
  · have k1 := hok A B false hA hB (decide_eq_false hs)
    have e0 : paV z A B = ([], [], false) := if_neg (fun h => hs h.2.1)
    rw [e0]
    clear hok
    refine fn_of_Wct Try.func31 rfl Try.results31 Try.ntmps31 rfl Try.isAgg25 Try.sizeOf25 ?_
    focus
      refine W_seq ?_; refine W_region rfl ?_; refine Wo_box rfl rfl rfl ?_; rintro b1 w1 hb1 E1 hB1; have hlb1 := hB1.lt; have hs1 := E1.size; refine Wo_alloc2 rfl flat25 ?_; rintro b2 w2 hb2 E2 hB2; have hlb2 := hB2.lt
      have hs2 := E2.size; refine Wo rfl (opv_assign (v := .bool _) rfl) ?_; refine Wo_nil ?_; refine W_seq ?_; refine W_seq ?_; refine W_region rfl ?_; refine Wo (v := .agg _) rfl (opv_load2 Try.isAgg25 Try.sizeOf25 rfl (hB1.ext E2)) ?_
      refine Wo_call rfl (opc1 (a := .agg _) Try.call16 rfl) (k1 _ _ _ ((Mono.mono (E1.trans E2) h1)) ((Mono.mono (E1.trans E2) h2))) ?_; rintro _ w3 ⟨rfl, E3⟩; have hs3 := E3.size; refine Wo rfl (opv_not rfl) ?_
      refine Wo_split rfl (opv_move (v := .bool _) rfl) (fun h3 => ?_) (fun h3 => ?_); refine Wo_skip rfl ?_; refine Wo_skip rfl ?_; refine Wo_skip rfl ?_; refine Wo rfl (opv_pick_t (v := .bool _) rfl rfl) ?_; refine Wo_nil ?_
      refine W_cond_true rfl ?_; refine W_seq ?_; refine W_region rfl ?_; refine Wo rfl (opv_build (ps := []) (cs := [_, _]) flat25 rfl rfl) ?_
      refine Wo_st2 rfl Try.sizeOf25 rfl rfl (by first | rfl | assumption) (by first | rfl | assumption) (hB2.ext E3) (by omega) ((E1.trans E2).trans E3) ?_; rintro w4 E4 hB2 K1 hz1
      have E5 := (E2.trans E3).wroteAt ((E1.trans E2).trans E3) E4 K1 hz1 (by omega); have szE5 := E5.size; have hB1 := (hB1.ext (E2.trans E3)).of_heap (K1 _ (by omega)); refine Wo rfl (opv_assign (v := .bool _) rfl) ?_; refine Wo_nil ?_
      refine W_ret ?_; rotate_left; contradiction
    all_goals exact ⟨_, _, _, rfl, by assumption, _, _, rfl, by assumption, Owned.nil, Owned.nil, .inr rfl⟩

end Go.Proofs.Ytlalfmialbolhaa
