/- Lemmas for FnJournalText. -/
import Derived.Test.YtgphoihilheoeaaDoorMFnJournalText3
import Derived.Laws.StructEq
import Derived.Tactics
import Derived.Tactics2
namespace Go.Proofs.YtgphoihilheoeaaDoor
open Go.Hs
set_option maxRecDepth 10000
set_option maxHeartbeats 4000000
set_option linter.unusedVariables false
set_option linter.unusedSimpArgs false

theorem l11Rows_ok (w : World) (v : Value) (p : List (List Int)) (h : ESl Ints w v p) (hp : p.length ≤ 100) (hr : ∀ r ∈ p, r.length ≤ 100) : Does Tryd.prog 115 [v] w (RetO w XR p) := by
  have hle := h.le
  refine fn_of_W1 Tryd.func115 rfl Tryd.results115 Tryd.ntmps115 rfl ?_
  focus
    refine W_seq ?_; refine W_region rfl ?_; refine Wo rfl (opv_assign (v := .slice _ _ _) rfl) ?_; refine Wo_nil ?_; refine W_seq ?_; refine W_region rfl ?_; refine Wo_lit0 (XSl 3 XInt) rfl el49 Tryd.sizeOf80 ?_
    rintro b1 w1 hb1 b1lt E1 hO1; have hs1 := E1.size; refine Wo rfl (opv_assign (v := .slice _ _ _) rfl) ?_; refine Wo_nil ?_; refine W_seq ?_; refine W_seq ?_; refine W_region rfl ?_; refine Wo rfl (opv_assign (v := .int _ _) rfl) ?_
    refine Wo_nil ?_; refine W_block ?_
  refine W_loop [3, 4, 6, 7, 8, 9, 10, 11, 12, 13, 14, 15, 16, 17, 18, 19, 20] (fun ((k, u) : Nat × Value) => [(4, .int .i64 (k : Nat)), (3, u)]) (fun (k, u) w' => Ext w w' ∧ k ≤ p.length ∧ Owned w.heap.size XR w' u (p.take k)) (fun x => p.length - x.1) (0, .slice (some ⟨b1, 0, none⟩) 0 0) (by repeat (first | exact trivial | refine And.intro rfl ?_)) ?_ ?_
  · exact ⟨by exact E1, Nat.zero_le _, by simpa using hO1⟩
  clear hO1
  rintro ⟨k, u⟩ ρj w2 ⟨E2, hk, hO1⟩
  have hlt' : (p.take k).length = k := by simp; omega
  by_cases hlt : k < p.length
  · have hrl := hr _ (List.getElem_mem hlt)
    have heldS : w = w := rfl
    have litown : True := trivial
    focus
      have szE2 := E2.size; have szE1 := E1.size; refine W_seq ?_; refine W_seq ?_; refine W_region rfl ?_; refine Wo rfl (opv_move (v := .int _ _) rfl) ?_; refine Wo rfl (opv_move (v := v) rfl) ?_
      refine Wo rfl (opv_len Tryd.underlying49 rfl h) ?_; refine Wo rfl (opv_lss rfl rfl) ?_; refine Wo_nil ?_; refine W_cond_dec rfl (fun h1 => ?_) (fun h1 => ?_); refine W_skip ?_; refine W_seq ?_; refine W_block ?_
      refine W_region rfl ?_; refine Wo rfl (opv_move (v := u) rfl) ?_; refine Wo_lit0 XInt rfl el80 Tryd.sizeOf3 ?_; rintro b2 w3 hb2 b2lt E3 hO2; have hs2 := E3.size; refine Wo rfl (opv_move (v := v) rfl) ?_
      refine Wo rfl (opv_move (v := .int _ _) rfl) ?_; refine Wo_get Tryd.underlying49 Tryd.sizeOf80 Tryd.isAgg80 rfl (fun _ => rfl) rfl h (E2.trans E3) rfl (by first | omega | (simp <;> omega)) ?_; rintro _ u1 hu1
      refine Wo_appS rfl el80 rfl rfl (Mono.mono (E2.trans E3) hu1) hO2.toB (by first | omega | (simp <;> omega)) (by omega) (by omega) (E2.trans E3) (by omega) ?_; have hT1 := hO2.toB; rintro v1 w4 hO2 E4 M1
      have E5 := M1.ext hT1 E3 (by omega); have szE5 := E5.size; have hO1 := (hO1.toB.ext E3).moves M1 hT1 (by omega); have hs3 := E4.size; have szM1 := M1.1.size; have icv1 := OwnedB.isC (Owned.toB hO2)
      refine Wo_buildSlice1 rfl Tryd.underlying49 Tryd.sizeOf80 Tryd.zeroValue80 rfl (OwnedB.isC hO2.toB) rfl ?_; rintro b3 w5 hb3 E6 hB1 hHb3; have hlb3 := hB1.lt; have hs4 := E6.size
      refine Wo_app1 rfl el49 rfl rfl hB1 (hO1.ext E6) (hO2.toB.ext E6).o (by omega) (by first | omega | (simp <;> omega)) (by omega) (by omega) (E4.trans E6) (by omega) ?_; have hT2 := (hO1.ext E6); rintro v2 w6 hO1 E7 M2
      have hO2 := (hO2.toB.ext E6).moves M2 hT2 (by omega); have hB1 := hB1.moves M2 hT2 (by omega); have hs5 := E7.size; have szM2 := M2.1.size; have icv2 := OwnedB.isC (Owned.toB hO1); refine Wo rfl (opv_assign (v := v2) rfl) ?_
      refine Wo_nil ?_; refine W_region rfl ?_; refine Wo rfl (opv_move (v := .int _ _) rfl) ?_; refine Wo rfl (opv_add rfl rfl (by omega)) ?_; refine Wo rfl (opv_assign (v := .int _ _) rfl) ?_; refine Wo_nil ?_; rotate_left
      (exfalso; omega)
    refine ⟨((k + 1, v2)), by repeat (first | exact trivial | refine And.intro rfl ?_), by repeat (first | with_reducible exact Same.refl | refine Same.upd rfl ?_ | refine Same.upds rfl ?_ | refine Same.mix rfl ?_), ?_, ?_⟩
    · refine ⟨by exact E7, by omega, ?_⟩
      rw [take_snoc _ _ hlt]
      exact hO1
    · simp only; omega
  · obtain rfl : k = p.length := by omega
    rw [List.take_length] at hO1
    focus
      have szE2 := E2.size; have szE1 := E1.size; refine W_seq ?_; refine W_seq ?_; refine W_region rfl ?_; refine Wo rfl (opv_move (v := .int _ _) rfl) ?_; refine Wo rfl (opv_move (v := v) rfl) ?_
      refine Wo rfl (opv_len Tryd.underlying49 rfl h) ?_; refine Wo rfl (opv_lss rfl rfl) ?_; refine Wo_nil ?_; refine W_cond_dec rfl (fun h1 => ?_) (fun h1 => ?_); (exfalso; omega); refine W_exit ?_; refine exitX_same ?_; refine W_seq ?_
      refine W_region rfl ?_; refine Wo rfl (opv_move (v := u) rfl) ?_; refine Wo rfl (opv_assign (v := u) rfl) ?_; refine Wo_nil ?_; refine W_ret ?_; exact ⟨E2, hO1.toB.o.mono (by omega)⟩

theorem l11Copy_ok (w : World) (u1 u2 : Value) (now : List (List Int)) (past : List (List (List Int))) (h1 : ESl Ints w u1 now) (h2 : ESl (ESl Ints) w u2 past) (hn : now.length ≤ 100 ∧ ∀ r ∈ now, r.length ≤ 100) (hpl : past.length ≤ 100) (hp : ∀ p ∈ past, p.length ≤ 100 ∧ ∀ r ∈ p, r.length ≤ 100) :
    Does Tryd.prog 97 [.agg #[u1, u2]] w (RetDk w 49 80 3 now past) := by
  have hle := h2.le
  have k1 : ∀ (w : World) (v : Value), ESl Ints w v now → Does Tryd.prog 115 [v] w (RetO w XR now) := fun w v h => l11Rows_ok w v now h hn.1 hn.2
  have k2 : ∀ (k : Nat) (hk : k < past.length) (w : World) (v : Value), ESl Ints w v past[k] → Does Tryd.prog 115 [v] w (RetO w XR past[k]) := fun k hk w v h => l11Rows_ok w v _ h (hp _ (List.getElem_mem hk)).1 (hp _ (List.getElem_mem hk)).2
  refine fn_of_Wc Tryd.func97 rfl Tryd.results97 Tryd.ntmps97 rfl Tryd.isAgg53 Tryd.sizeOf53 ?_
  have litown : True := trivial
  focus
    refine W_seq ?_; refine W_region rfl ?_; refine Wo_box rfl rfl rfl ?_; rintro b1 w1 hb1 E1 hB1; have hlb1 := hB1.lt; have hs1 := E1.size; refine Wo_alloc2 rfl flat53 ?_; rintro b2 w2 hb2 E2 hB2; have hlb2 := hB2.lt
    have hs2 := E2.size; refine Wo_nil ?_; refine W_seq ?_; refine W_region rfl ?_; refine Wo rfl (opv_fieldAddr Tryd.underlying53 rfl rfl Tryd.sizeOf49 rfl) ?_
    refine Wo (v := u1) rfl (opv_load Tryd.isAgg49 rfl ((hB1.ext E2).cell rfl)) ?_; refine Wo_call rfl (opc1 (a := u1) Tryd.call115 rfl) (k1 _ _ ((Mono.mono (E1.trans E2) h1))) ?_; rintro u3 w3 ⟨E3, hO1⟩
    have ichO1 := OwnedB.isC (Owned.toB hO1); have hs3 := E3.size; refine Wo rfl (opv_buildF0 flat53 rfl (OwnedB.isC hO1.toB)) ?_; refine Wo_alloc2 rfl flat53 ?_; rintro b3 w4 hb3 E4 hB3; have hlb3 := hB3.lt; have hs4 := E4.size
    refine Wo_st2 rfl Tryd.sizeOf53 rfl rfl (by first | rfl | assumption) (by first | rfl | assumption) hB3 (by omega) (((E1.trans E2).trans E3).trans E4) ?_; rintro w5 E5 hB3 K1 hz1
    have E6 := ((E2.trans E3).trans E4).wroteAt (((E1.trans E2).trans E3).trans E4) E5 K1 hz1 (by omega); have szE6 := E6.size; have E7 := (E3.trans E4).wroteAt (((E1.trans E2).trans E3).trans E4) E5 K1 hz1 (by omega)
    have szE7 := E7.size; have E8 := E4.wroteAt (((E1.trans E2).trans E3).trans E4) E5 K1 hz1 (by omega); have szE8 := E8.size; simp only [List.set] at hB3; have hB1 := (hB1.ext ((E2.trans E3).trans E4)).of_heap (K1 _ (by omega))
    have hB2 := (hB2.ext (E3.trans E4)).of_heap (K1 _ (by omega)); have hO1 := (hO1.toB.ext E4).wrote K1 (by omega); refine Wo_nil ?_; refine W_seq ?_; refine W_seq ?_; refine W_region rfl ?_
    refine Wo rfl (opv_assign (v := .int _ _) rfl) ?_; refine Wo_nil ?_; refine W_block ?_
  have hO0 : Owned w4.heap.size (XSl 49 XR) w5 (.slice none 0 0) ([] : List (List (List Int))) := Owned.nil
  have hN := hO1
  clear hO1 hB1 hB2 k1
  refine W_loop [4, 9, 10, 11, 12, 13, 14, 15, 16, 17, 18, 19, 20, 21, 22, 23, 24, 25, 26] (fun ((k, u) : Nat × Value) => [(4, .int .i64 (k : Nat))]) (fun (k, u) w' => Ext w3 w' ∧ k ≤ past.length ∧ w4.heap.size ≤ w'.heap.size ∧ Blk w' b3 [u3, u] ∧ Owned w4.heap.size (XSl 49 XR) w' u (past.take k) ∧ OwnedB w2.heap.size w3.heap.size XR w' u3 now) (fun x => past.length - x.1) (0, .slice none 0 0) (by repeat (first | exact trivial | refine And.intro rfl ?_)) ?_ ?_
  · exact ⟨by exact E8, Nat.zero_le _, by omega, hB3, by simpa using hO0, hN⟩
  clear hO0 hB3 hN
  rintro ⟨k, u⟩ ρj w6 ⟨E6, hk, hsz, hB4, hO1, hN⟩
  have icu : isCell u = true := OwnedB.isC hO1.toB
  have hlt' : (past.take k).length = k := by simp; omega
  by_cases hlt : k < past.length
  · have k2k := k2 k hlt
    have ht := take_snoc _ _ hlt
    have heldS : w = w := rfl
    focus
      have szE6 := E6.size; have szE8 := E8.size; have szE7 := E7.size; have szE6 := E6.size; have szE5 := E5.size; have szE4 := E4.size; have szE3 := E3.size; have szE2 := E2.size; have szE1 := E1.size; refine W_seq ?_; refine W_seq ?_
      refine W_region rfl ?_; refine Wo rfl (opv_move (v := .int _ _) rfl) ?_; refine Wo rfl (opv_fieldAddr Tryd.underlying53 rfl rfl Tryd.sizeOf51 rfl) ?_
      refine Wo (v := u2) rfl (opv_load Tryd.isAgg51 rfl ((hB1.ext ((E2.trans E3).trans E6)).cell rfl)) ?_; refine Wo rfl (opv_len Tryd.underlying51 rfl h2) ?_; refine Wo rfl (opv_lss rfl rfl) ?_; refine Wo_nil ?_
      refine W_cond_dec rfl (fun h3 => ?_) (fun h3 => ?_); refine W_skip ?_; refine W_seq ?_; refine W_block ?_; refine W_held (fun w' => Ext w w') mixed rfl (by kernel_rfl) ?_; intro w7 E9 K2 hz2; have hs5 := E9.size
      refine Wh_take 0 rfl (by kernel_rfl) (by kernel_rfl) rfl (fun _ _ => opv_fieldAddr Tryd.underlying53 rfl rfl Tryd.sizeOf51 rfl) ((((E1.trans E2).trans E3).trans E6).trans E9) ?_
      refine Wh_take 2 rfl (by kernel_rfl) (by kernel_rfl) rfl (fun _ _ => opv_fieldAddr Tryd.underlying53 rfl rfl Tryd.sizeOf51 rfl) ((((E1.trans E2).trans E3).trans E6).trans E9) ?_
      refine Wh_take 4 rfl (by kernel_rfl) (by kernel_rfl) rfl (fun _ _ => opv_move (v := .int _ _) rfl) ((((E1.trans E2).trans E3).trans E6).trans E9) ?_; refine Wh_all (rs := [1, 3]) (by kernel_rfl) rfl ?_; refine WhAll_cons rfl ?_ ?_
      refine Wo (v := u) rfl (opv_load Tryd.isAgg51 rfl ((hB4.ext E9).cell rfl)) ?_; refine Wo_nil ?_; refine ⟨((((E1.trans E2).trans E3).trans E6).trans E9), ?_⟩; refine Wh_all (rs := [3]) (by kernel_rfl) rfl ?_
      refine WhAll_cons rfl ?_ ?_; refine Wo (v := u2) rfl (opv_load Tryd.isAgg51 rfl ((hB1.ext (((E2.trans E3).trans E6).trans E9)).cell rfl)) ?_; refine Wo_nil ?_; refine ⟨((((E1.trans E2).trans E3).trans E6).trans E9), ?_⟩
      refine Wh_get 5 6 rfl (by kernel_rfl) (by kernel_rfl) rfl rfl (by kernel_rfl) (by kernel_rfl) (fun _ => rfl) Tryd.underlying51 Tryd.sizeOf49 Tryd.isAgg49 rfl h2 (fun w' hw' => Ext.trans (Ext.refl _) hw') rfl (by first | omega | (simp <;> omega)) ((((E1.trans E2).trans E3).trans E6).trans E9) ?_
      rintro _ u4 hu1; refine Wh_all (rs := [7]) (by kernel_rfl) rfl ?_; refine WhAll_cons rfl ?_ ?_; refine Wo_call rfl (opc1 (a := u4) Tryd.call115 rfl) (k2k _ _ ((Mono.mono ((((E1.trans E2).trans E3).trans E6).trans E9) hu1))) ?_
      rintro u5 w8 ⟨E10, hO2⟩; have ichO2 := OwnedB.isC (Owned.toB hO2); have hs6 := E10.size; refine Wo_nil ?_; refine ⟨(((((E1.trans E2).trans E3).trans E6).trans E9).trans E10), ?_⟩; refine Wh_all (rs := [8]) (by kernel_rfl) rfl ?_
      refine WhAll_cons rfl ?_ ?_; refine Wo_buildSlice1 rfl Tryd.underlying51 Tryd.sizeOf49 Tryd.zeroValue49 rfl (OwnedB.isC hO2.toB) rfl ?_; rintro b4 w9 hb4 E11 hB5 hHb4; have hlb4 := hB5.lt; have hs7 := E11.size; refine Wo_nil ?_
      refine ⟨((((((E1.trans E2).trans E3).trans E6).trans E9).trans E10).trans E11), ?_⟩; refine Wh_all (rs := [9]) (by kernel_rfl) rfl ?_; refine WhAll_cons rfl ?_ ?_
      refine Wo_app1 rfl el51 rfl rfl hB5 (hO1.toB.ext ((E9.trans E10).trans E11)) (hO2.toB.ext E11).o (by omega) (by first | omega | (simp <;> omega)) (by omega) (by omega) ((((((E1.trans E2).trans E3).trans E6).trans E9).trans E10).trans E11) (by omega) ?_
      have hT1 := (hO1.toB.ext ((E9.trans E10).trans E11)); rintro v1 w10 hO1 E12 M1; have E13 := M1.ext hT1 (((((E2.trans E3).trans E6).trans E9).trans E10).trans E11) (by omega); have szE13 := E13.size
      have E14 := M1.ext hT1 ((((E3.trans E6).trans E9).trans E10).trans E11) (by omega); have szE14 := E14.size; have E15 := M1.ext hT1 (((E6.trans E9).trans E10).trans E11) (by omega); have szE15 := E15.size
      have hB1 := (hB1.ext (((((E2.trans E3).trans E6).trans E9).trans E10).trans E11)).moves M1 hT1 (by omega); have hB2 := (hB2.ext ((((E3.trans E6).trans E9).trans E10).trans E11)).moves M1 hT1 (by omega)
      have hB4 := (hB4.ext ((E9.trans E10).trans E11)).moves M1 hT1 (by omega); have hN := (hN.ext ((E9.trans E10).trans E11)).moves M1 hT1 (by omega); have hO2 := (hO2.toB.ext E11).moves M1 hT1 (by omega)
      have hB5 := hB5.moves M1 hT1 (by omega); have hs8 := E12.size; have szM1 := M1.1.size; have icv1 := OwnedB.isC (Owned.toB hO1); refine Wo_nil ?_; refine ⟨E12, ?_⟩
      refine Wh_take 10 rfl (by kernel_rfl) (by kernel_rfl) rfl (fun _ _ => opv_fieldAddr Tryd.underlying53 rfl rfl Tryd.sizeOf51 rfl) E12 ?_; refine Wh_all (rs := [11]) (by kernel_rfl) rfl ?_; refine WhAll_cons rfl ?_ ?_
      refine Wo_st (v := v1) rfl Tryd.sizeOf51 rfl rfl (OwnedB.isC hO1.toB) hB4 (by simp) (by omega) E12 ?_; rintro w11 E16 hB4 K3 hz3; have E17 := E13.wroteAt E12 E16 K3 hz3 (by omega); have szE17 := E17.size
      have E18 := E14.wroteAt E12 E16 K3 hz3 (by omega); have szE18 := E18.size; have E19 := E15.wroteAt E12 E16 K3 hz3 (by omega); have szE19 := E19.size; simp only [List.set] at hB4; have hO1 := hO1.toB.wrote K3 (by omega)
      have hB1 := hB1.of_heap (K3 _ (by omega)); have hB2 := hB2.of_heap (K3 _ (by omega)); have hN := hN.wrote K3 (by omega); have hO2 := hO2.wrote K3 (by omega); have hB5 := hB5.of_heap (K3 _ (by omega)); refine Wo_nil ?_
      refine ⟨E16, ?_⟩; refine Wh_done (by kernel_rfl) ?_; refine W_region rfl ?_; refine Wo rfl (opv_move (v := .int _ _) rfl) ?_; refine Wo rfl (opv_add rfl rfl (by omega)) ?_; refine Wo rfl (opv_assign (v := .int _ _) rfl) ?_
      refine Wo_nil ?_; rotate_left; exact WhAll_nil; exact WhAll_nil; exact WhAll_nil; exact WhAll_nil; exact WhAll_nil; refine WhAll_cons rfl ?_ ?_
      refine Wo (v := u2) rfl (opv_load Tryd.isAgg51 rfl ((hB1.ext (((E2.trans E3).trans E6).trans E9)).cell rfl)) ?_; refine Wo_nil ?_; refine ⟨((((E1.trans E2).trans E3).trans E6).trans E9), ?_⟩
      refine Wh_get 5 6 rfl (by kernel_rfl) (by kernel_rfl) rfl rfl (by kernel_rfl) (by kernel_rfl) (fun _ => rfl) Tryd.underlying51 Tryd.sizeOf49 Tryd.isAgg49 rfl h2 (fun w' hw' => Ext.trans (Ext.refl _) hw') rfl (by first | omega | (simp <;> omega)) ((((E1.trans E2).trans E3).trans E6).trans E9) ?_
      rintro _ u4 hu1; refine Wh_all (rs := [1, 7]) (by kernel_rfl) rfl ?_; refine WhAll_cons rfl ?_ ?_; refine Wo (v := u) rfl (opv_load Tryd.isAgg51 rfl ((hB4.ext E9).cell rfl)) ?_; refine Wo_nil ?_
      refine ⟨((((E1.trans E2).trans E3).trans E6).trans E9), ?_⟩; refine Wh_all (rs := [7]) (by kernel_rfl) rfl ?_; refine WhAll_cons rfl ?_ ?_
      refine Wo_call rfl (opc1 (a := u4) Tryd.call115 rfl) (k2k _ _ ((Mono.mono ((((E1.trans E2).trans E3).trans E6).trans E9) hu1))) ?_; rintro u5 w8 ⟨E10, hO2⟩; have ichO2 := OwnedB.isC (Owned.toB hO2); have hs6 := E10.size
      refine Wo_nil ?_; refine ⟨(((((E1.trans E2).trans E3).trans E6).trans E9).trans E10), ?_⟩; refine Wh_all (rs := [8]) (by kernel_rfl) rfl ?_; refine WhAll_cons rfl ?_ ?_
      refine Wo_buildSlice1 rfl Tryd.underlying51 Tryd.sizeOf49 Tryd.zeroValue49 rfl (OwnedB.isC hO2.toB) rfl ?_; rintro b4 w9 hb4 E11 hB5 hHb4; have hlb4 := hB5.lt; have hs7 := E11.size; refine Wo_nil ?_
      refine ⟨((((((E1.trans E2).trans E3).trans E6).trans E9).trans E10).trans E11), ?_⟩; refine Wh_all (rs := [9]) (by kernel_rfl) rfl ?_; refine WhAll_cons rfl ?_ ?_
      refine Wo_app1 rfl el51 rfl rfl hB5 (hO1.toB.ext ((E9.trans E10).trans E11)) (hO2.toB.ext E11).o (by omega) (by first | omega | (simp <;> omega)) (by omega) (by omega) ((((((E1.trans E2).trans E3).trans E6).trans E9).trans E10).trans E11) (by omega) ?_
      have hT1 := (hO1.toB.ext ((E9.trans E10).trans E11)); rintro v1 w10 hO1 E12 M1; have E13 := M1.ext hT1 (((((E2.trans E3).trans E6).trans E9).trans E10).trans E11) (by omega); have szE13 := E13.size
      have E14 := M1.ext hT1 ((((E3.trans E6).trans E9).trans E10).trans E11) (by omega); have szE14 := E14.size; have E15 := M1.ext hT1 (((E6.trans E9).trans E10).trans E11) (by omega); have szE15 := E15.size
      have hB1 := (hB1.ext (((((E2.trans E3).trans E6).trans E9).trans E10).trans E11)).moves M1 hT1 (by omega); have hB2 := (hB2.ext ((((E3.trans E6).trans E9).trans E10).trans E11)).moves M1 hT1 (by omega)
      have hB4 := (hB4.ext ((E9.trans E10).trans E11)).moves M1 hT1 (by omega); have hN := (hN.ext ((E9.trans E10).trans E11)).moves M1 hT1 (by omega); have hO2 := (hO2.toB.ext E11).moves M1 hT1 (by omega)
      have hB5 := hB5.moves M1 hT1 (by omega); have hs8 := E12.size; have szM1 := M1.1.size; have icv1 := OwnedB.isC (Owned.toB hO1); refine Wo_nil ?_; refine ⟨E12, ?_⟩
      refine Wh_take 10 rfl (by kernel_rfl) (by kernel_rfl) rfl (fun _ _ => opv_fieldAddr Tryd.underlying53 rfl rfl Tryd.sizeOf51 rfl) E12 ?_; refine Wh_all (rs := [11]) (by kernel_rfl) rfl ?_; refine WhAll_cons rfl ?_ ?_
      refine Wo_st (v := v1) rfl Tryd.sizeOf51 rfl rfl (OwnedB.isC hO1.toB) hB4 (by simp) (by omega) E12 ?_; rintro w11 E16 hB4 K3 hz3; have E17 := E13.wroteAt E12 E16 K3 hz3 (by omega); have szE17 := E17.size
      have E18 := E14.wroteAt E12 E16 K3 hz3 (by omega); have szE18 := E18.size; have E19 := E15.wroteAt E12 E16 K3 hz3 (by omega); have szE19 := E19.size; simp only [List.set] at hB4; have hO1 := hO1.toB.wrote K3 (by omega)
      have hB1 := hB1.of_heap (K3 _ (by omega)); have hB2 := hB2.of_heap (K3 _ (by omega)); have hN := hN.wrote K3 (by omega); have hO2 := hO2.wrote K3 (by omega); have hB5 := hB5.of_heap (K3 _ (by omega)); refine Wo_nil ?_
      refine ⟨E16, ?_⟩; refine Wh_done (by kernel_rfl) ?_; refine W_region rfl ?_; refine Wo rfl (opv_move (v := .int _ _) rfl) ?_; refine Wo rfl (opv_add rfl rfl (by omega)) ?_; refine Wo rfl (opv_assign (v := .int _ _) rfl) ?_
      refine Wo_nil ?_; rotate_left; exact WhAll_nil; exact WhAll_nil; exact WhAll_nil; exact WhAll_nil; refine WhAll_cons rfl ?_ ?_
      refine Wo_call rfl (opc1 (a := u4) Tryd.call115 rfl) (k2k _ _ ((Mono.mono ((((E1.trans E2).trans E3).trans E6).trans E9) hu1))) ?_; rintro u5 w8 ⟨E10, hO2⟩; have ichO2 := OwnedB.isC (Owned.toB hO2); have hs6 := E10.size
      refine Wo_nil ?_; refine ⟨(((((E1.trans E2).trans E3).trans E6).trans E9).trans E10), ?_⟩; refine Wh_all (rs := [1, 8]) (by kernel_rfl) rfl ?_; refine WhAll_cons rfl ?_ ?_
      refine Wo (v := u) rfl (opv_load Tryd.isAgg51 rfl ((hB4.ext (E9.trans E10)).cell rfl)) ?_; refine Wo_nil ?_; refine ⟨(((((E1.trans E2).trans E3).trans E6).trans E9).trans E10), ?_⟩; refine Wh_all (rs := [8]) (by kernel_rfl) rfl ?_
      refine WhAll_cons rfl ?_ ?_; refine Wo_buildSlice1 rfl Tryd.underlying51 Tryd.sizeOf49 Tryd.zeroValue49 rfl (OwnedB.isC hO2.toB) rfl ?_; rintro b4 w9 hb4 E11 hB5 hHb4; have hlb4 := hB5.lt; have hs7 := E11.size; refine Wo_nil ?_
      refine ⟨((((((E1.trans E2).trans E3).trans E6).trans E9).trans E10).trans E11), ?_⟩; refine Wh_all (rs := [9]) (by kernel_rfl) rfl ?_; refine WhAll_cons rfl ?_ ?_
      refine Wo_app1 rfl el51 rfl rfl hB5 (hO1.toB.ext ((E9.trans E10).trans E11)) (hO2.toB.ext E11).o (by omega) (by first | omega | (simp <;> omega)) (by omega) (by omega) ((((((E1.trans E2).trans E3).trans E6).trans E9).trans E10).trans E11) (by omega) ?_
      have hT1 := (hO1.toB.ext ((E9.trans E10).trans E11)); rintro v1 w10 hO1 E12 M1; have E13 := M1.ext hT1 (((((E2.trans E3).trans E6).trans E9).trans E10).trans E11) (by omega); have szE13 := E13.size
      have E14 := M1.ext hT1 ((((E3.trans E6).trans E9).trans E10).trans E11) (by omega); have szE14 := E14.size; have E15 := M1.ext hT1 (((E6.trans E9).trans E10).trans E11) (by omega); have szE15 := E15.size
      have hB1 := (hB1.ext (((((E2.trans E3).trans E6).trans E9).trans E10).trans E11)).moves M1 hT1 (by omega); have hB2 := (hB2.ext ((((E3.trans E6).trans E9).trans E10).trans E11)).moves M1 hT1 (by omega)
      have hB4 := (hB4.ext ((E9.trans E10).trans E11)).moves M1 hT1 (by omega); have hN := (hN.ext ((E9.trans E10).trans E11)).moves M1 hT1 (by omega); have hO2 := (hO2.toB.ext E11).moves M1 hT1 (by omega)
      have hB5 := hB5.moves M1 hT1 (by omega); have hs8 := E12.size; have szM1 := M1.1.size; have icv1 := OwnedB.isC (Owned.toB hO1); refine Wo_nil ?_; refine ⟨E12, ?_⟩
      refine Wh_take 10 rfl (by kernel_rfl) (by kernel_rfl) rfl (fun _ _ => opv_fieldAddr Tryd.underlying53 rfl rfl Tryd.sizeOf51 rfl) E12 ?_; refine Wh_all (rs := [11]) (by kernel_rfl) rfl ?_; refine WhAll_cons rfl ?_ ?_
      refine Wo_st (v := v1) rfl Tryd.sizeOf51 rfl rfl (OwnedB.isC hO1.toB) hB4 (by simp) (by omega) E12 ?_; rintro w11 E16 hB4 K3 hz3; have E17 := E13.wroteAt E12 E16 K3 hz3 (by omega); have szE17 := E17.size
      have E18 := E14.wroteAt E12 E16 K3 hz3 (by omega); have szE18 := E18.size; have E19 := E15.wroteAt E12 E16 K3 hz3 (by omega); have szE19 := E19.size; simp only [List.set] at hB4; have hO1 := hO1.toB.wrote K3 (by omega)
      have hB1 := hB1.of_heap (K3 _ (by omega)); have hB2 := hB2.of_heap (K3 _ (by omega)); have hN := hN.wrote K3 (by omega); have hO2 := hO2.wrote K3 (by omega); have hB5 := hB5.of_heap (K3 _ (by omega)); refine Wo_nil ?_
      refine ⟨E16, ?_⟩; refine Wh_done (by kernel_rfl) ?_; refine W_region rfl ?_; refine Wo rfl (opv_move (v := .int _ _) rfl) ?_; refine Wo rfl (opv_add rfl rfl (by omega)) ?_; refine Wo rfl (opv_assign (v := .int _ _) rfl) ?_
      refine Wo_nil ?_; rotate_left; exact WhAll_nil; exact WhAll_nil; exact WhAll_nil; refine WhAll_cons rfl ?_ ?_; refine Wo_buildSlice1 rfl Tryd.underlying51 Tryd.sizeOf49 Tryd.zeroValue49 rfl (OwnedB.isC hO2.toB) rfl ?_
      rintro b4 w9 hb4 E11 hB5 hHb4; have hlb4 := hB5.lt; have hs7 := E11.size; refine Wo_nil ?_; refine ⟨((((((E1.trans E2).trans E3).trans E6).trans E9).trans E10).trans E11), ?_⟩; refine Wh_all (rs := [1]) (by kernel_rfl) rfl ?_
      refine WhAll_cons rfl ?_ ?_; refine Wo (v := u) rfl (opv_load Tryd.isAgg51 rfl ((hB4.ext ((E9.trans E10).trans E11)).cell rfl)) ?_; refine Wo_nil ?_
      refine ⟨((((((E1.trans E2).trans E3).trans E6).trans E9).trans E10).trans E11), ?_⟩; refine Wh_all (rs := [9]) (by kernel_rfl) rfl ?_; refine WhAll_cons rfl ?_ ?_
      refine Wo_app1 rfl el51 rfl rfl hB5 (hO1.toB.ext ((E9.trans E10).trans E11)) (hO2.toB.ext E11).o (by omega) (by first | omega | (simp <;> omega)) (by omega) (by omega) ((((((E1.trans E2).trans E3).trans E6).trans E9).trans E10).trans E11) (by omega) ?_
      have hT1 := (hO1.toB.ext ((E9.trans E10).trans E11)); rintro v1 w10 hO1 E12 M1; have E13 := M1.ext hT1 (((((E2.trans E3).trans E6).trans E9).trans E10).trans E11) (by omega); have szE13 := E13.size
      have E14 := M1.ext hT1 ((((E3.trans E6).trans E9).trans E10).trans E11) (by omega); have szE14 := E14.size; have E15 := M1.ext hT1 (((E6.trans E9).trans E10).trans E11) (by omega); have szE15 := E15.size
      have hB1 := (hB1.ext (((((E2.trans E3).trans E6).trans E9).trans E10).trans E11)).moves M1 hT1 (by omega); have hB2 := (hB2.ext ((((E3.trans E6).trans E9).trans E10).trans E11)).moves M1 hT1 (by omega)
      have hB4 := (hB4.ext ((E9.trans E10).trans E11)).moves M1 hT1 (by omega); have hN := (hN.ext ((E9.trans E10).trans E11)).moves M1 hT1 (by omega); have hO2 := (hO2.toB.ext E11).moves M1 hT1 (by omega)
      have hB5 := hB5.moves M1 hT1 (by omega); have hs8 := E12.size; have szM1 := M1.1.size; have icv1 := OwnedB.isC (Owned.toB hO1); refine Wo_nil ?_; refine ⟨E12, ?_⟩
      refine Wh_take 10 rfl (by kernel_rfl) (by kernel_rfl) rfl (fun _ _ => opv_fieldAddr Tryd.underlying53 rfl rfl Tryd.sizeOf51 rfl) E12 ?_; refine Wh_all (rs := [11]) (by kernel_rfl) rfl ?_; refine WhAll_cons rfl ?_ ?_
      refine Wo_st (v := v1) rfl Tryd.sizeOf51 rfl rfl (OwnedB.isC hO1.toB) hB4 (by simp) (by omega) E12 ?_; rintro w11 E16 hB4 K3 hz3; have E17 := E13.wroteAt E12 E16 K3 hz3 (by omega); have szE17 := E17.size
      have E18 := E14.wroteAt E12 E16 K3 hz3 (by omega); have szE18 := E18.size; have E19 := E15.wroteAt E12 E16 K3 hz3 (by omega); have szE19 := E19.size; simp only [List.set] at hB4; have hO1 := hO1.toB.wrote K3 (by omega)
      have hB1 := hB1.of_heap (K3 _ (by omega)); have hB2 := hB2.of_heap (K3 _ (by omega)); have hN := hN.wrote K3 (by omega); have hO2 := hO2.wrote K3 (by omega); have hB5 := hB5.of_heap (K3 _ (by omega)); refine Wo_nil ?_
      refine ⟨E16, ?_⟩; refine Wh_done (by kernel_rfl) ?_; refine W_region rfl ?_; refine Wo rfl (opv_move (v := .int _ _) rfl) ?_; refine Wo rfl (opv_add rfl rfl (by omega)) ?_; refine Wo rfl (opv_assign (v := .int _ _) rfl) ?_
      refine Wo_nil ?_; rotate_left; exact WhAll_nil; exact WhAll_nil; exact WhAll_nil; exact WhAll_nil; exact WhAll_nil; exact WhAll_nil; (exfalso; omega)
    · refine ⟨((k + 1, v1)), by repeat (first | exact trivial | refine And.intro rfl ?_), by repeat (first | with_reducible exact Same.refl | refine Same.upd rfl ?_ | refine Same.upds rfl ?_ | refine Same.mix rfl ?_), ?_, ?_⟩
      · refine ⟨by exact E19, by omega, by omega, hB4, ?_, hN⟩
        rw [ht]; exact hO1.o
      · simp only; omega
    · refine ⟨((k + 1, v1)), by repeat (first | exact trivial | refine And.intro rfl ?_), by repeat (first | with_reducible exact Same.refl | refine Same.upd rfl ?_ | refine Same.upds rfl ?_ | refine Same.mix rfl ?_), ?_, ?_⟩
      · refine ⟨by exact E19, by omega, by omega, hB4, ?_, hN⟩
        rw [ht]; exact hO1.o
      · simp only; omega
    · refine ⟨((k + 1, v1)), by repeat (first | exact trivial | refine And.intro rfl ?_), by repeat (first | with_reducible exact Same.refl | refine Same.upd rfl ?_ | refine Same.upds rfl ?_ | refine Same.mix rfl ?_), ?_, ?_⟩
      · refine ⟨by exact E19, by omega, by omega, hB4, ?_, hN⟩
        rw [ht]; exact hO1.o
      · simp only; omega
    · refine ⟨((k + 1, v1)), by repeat (first | exact trivial | refine And.intro rfl ?_), by repeat (first | with_reducible exact Same.refl | refine Same.upd rfl ?_ | refine Same.upds rfl ?_ | refine Same.mix rfl ?_), ?_, ?_⟩
      · refine ⟨by exact E19, by omega, by omega, hB4, ?_, hN⟩
        rw [ht]; exact hO1.o
      · simp only; omega
  · obtain rfl : k = past.length := by omega
    rw [List.take_length] at hO1
    focus
      have szE6 := E6.size; have szE8 := E8.size; have szE7 := E7.size; have szE6 := E6.size; have szE5 := E5.size; have szE4 := E4.size; have szE3 := E3.size; have szE2 := E2.size; have szE1 := E1.size; refine W_seq ?_; refine W_seq ?_
      refine W_region rfl ?_; refine Wo rfl (opv_move (v := .int _ _) rfl) ?_; refine Wo rfl (opv_fieldAddr Tryd.underlying53 rfl rfl Tryd.sizeOf51 rfl) ?_
      refine Wo (v := u2) rfl (opv_load Tryd.isAgg51 rfl ((hB1.ext ((E2.trans E3).trans E6)).cell rfl)) ?_; refine Wo rfl (opv_len Tryd.underlying51 rfl h2) ?_; refine Wo rfl (opv_lss rfl rfl) ?_; refine Wo_nil ?_
      refine W_cond_dec rfl (fun h3 => ?_) (fun h3 => ?_); (exfalso; omega); refine W_exit ?_; refine exitX_same ?_; refine W_seq ?_; refine W_region rfl ?_; refine Wo (v := .agg _) rfl (opv_load2 Tryd.isAgg53 Tryd.sizeOf53 rfl hB4) ?_
      refine Wo_st2 rfl Tryd.sizeOf53 rfl rfl (by first | rfl | assumption) (by first | rfl | assumption) (hB2.ext (E3.trans E6)) (by omega) (((E1.trans E2).trans E3).trans E6) ?_; rintro w7 E9 hB2 K2 hz2
      have E10 := ((E2.trans E3).trans E6).wroteAt (((E1.trans E2).trans E3).trans E6) E9 K2 hz2 (by omega); have szE10 := E10.size; have hB1 := (hB1.ext ((E2.trans E3).trans E6)).of_heap (K2 _ (by omega))
      have hB4 := hB4.of_heap (K2 _ (by omega)); have hN := hN.wrote K2 (by omega); have hO1 := hO1.toB.wrote K2 (by omega); refine Wo_nil ?_; refine W_ret ?_
    refine ⟨b2, u3, u, rfl, by assumption, u3, u, w3.heap.size, rfl, by exact E9, ?_, hO1.o.mono (by omega), by omega, by omega⟩
    exact hN.wide (by omega) (Nat.le_refl _)

end Go.Proofs.YtgphoihilheoeaaDoor
namespace Go.Proofs.YtgphoihilheoeaaDoor
open Go.Hs
set_option maxRecDepth 10000
set_option maxHeartbeats 4000000
set_option linter.unusedVariables false
set_option linter.unusedSimpArgs false

theorem spec_ReadPicture_ok (w : World) (s : List UInt8) (hs : s.length ≤ 1048576) : Does Tryd.prog 41 [str s] w (RetOB w XR ((rdP s).getD []) (rdP s).isSome) := by
  obtain ⟨ps, hps⟩ : ∃ ps, ps = cutB 47 s := ⟨_, rfl⟩
  have k1 : ∀ w, Does Tryd.prog 45 [str s, .int .u8 47] w (RetO w XS ps) := fun w => hps ▸ l1Cut_ok w s 47 hs
  have hpl : ps.length ≤ 1048577 := by rw [hps, cutB_len]; have := List.count_le_length (a := (47 : UInt8)) (l := s); omega
  have hpe : ∀ (k : Nat) (hk : k < ps.length), ps[k].length ≤ 1048576 := fun k hk => by
    have : ps[k] ∈ cutB 47 s := hps ▸ List.getElem_mem hk
    have := cutB_mem_len s.length s (Nat.le_refl _) _ this; omega
  refine fn_of_W2 Tryd.func41 rfl Tryd.results41 Tryd.ntmps41 rfl ?_
  focus
    refine W_seq ?_; refine W_region rfl ?_; refine Wo rfl (opv_assign (v := .slice _ _ _) rfl) ?_; refine Wo rfl (opv_assign (v := .bool _) rfl) ?_; refine Wo_nil ?_; refine W_seq ?_; refine W_region rfl ?_
    refine Wo_lit0 (XSl 3 XInt) rfl el49 Tryd.sizeOf80 ?_; rintro b1 w1 hb1 b1lt E1 hO1; have hs1 := E1.size; refine Wo rfl (opv_assign (v := .slice _ _ _) rfl) ?_; refine Wo_nil ?_; refine W_seq ?_; refine W_region rfl ?_
    refine Wo rfl (opv_move (v := .string _) rfl) ?_; refine Wo_call rfl (opc2 (a := .string _) (b := .int _ _) Tryd.call45 rfl rfl) (k1 _) ?_; rintro u1 w2 ⟨E2, hO2⟩; have hs2 := E2.size; refine Wo rfl (opv_assign (v := u1) rfl) ?_
    refine Wo_nil ?_; refine W_seq ?_; refine W_seq ?_; refine W_region rfl ?_; refine Wo rfl (opv_assign (v := .int _ _) rfl) ?_; refine Wo_nil ?_; refine W_block ?_
  have hBe : Besides (Value.ownBlock (.slice (some ⟨b1, 0, none⟩) 0 0)) Strs w2 u1 ps := Besides.start hO1 hO2.above
  refine W_loop [2, 3, 4, 6, 7, 8, 9, 13, 14, 15, 16, 17, 18, 19, 20, 21, 22, 23, 24, 25, 26, 27, 28, 29, 30, 31, 32, 33, 34, 35, 36, 37, 38, 39, 40, 41, 42, 43, 44, 45, 46, 47, 48, 49, 50, 51, 52] (fun (k, u) => [(6, .int .i64 (k : Nat)), (4, u)]) (fun (k, u) w' => Ext w w' ∧ k ≤ ps.length ∧ Owned w.heap.size XR w' u ((ps.take k).map (rowB ps.length)) ∧ Besides u.ownBlock Strs w' u1 ps ∧ ∀ x ∈ ps.take k, inR ps.length x) (fun x => ps.length - x.1) (0, .slice (some ⟨b1, 0, none⟩) 0 0) (by repeat (first | exact trivial | refine And.intro rfl ?_)) ?_ ?_
  · exact ⟨E1.trans E2, Nat.zero_le _, hO1.ext E2, hBe, by simp⟩
  clear hO1 hO2 hBe
  rintro ⟨k, u⟩ ρj w3 ⟨E3, hk, hO3, hBe, hin⟩
  by_cases hkl : k < ps.length
  · have hpk := hpe k hkl
    focus
      have szE3 := E3.size; have szE2 := E2.size; have szE1 := E1.size; refine W_seq ?_; refine W_seq ?_; refine W_region rfl ?_; refine Wo rfl (opv_move (v := .int _ _) rfl) ?_; refine Wo rfl (opv_move (v := u1) rfl) ?_
      refine Wo rfl (opv_len Tryd.underlying65 rfl (Besides.here hBe)) ?_; refine Wo rfl (opv_lss rfl rfl) ?_; refine Wo_nil ?_; refine W_cond_dec rfl (fun h1 => ?_) (fun h1 => ?_); refine W_skip ?_; refine W_seq ?_; refine W_block ?_
      refine W_seq ?_; refine W_region rfl ?_; refine Wo rfl (opv_move (v := u1) rfl) ?_; refine Wo rfl (opv_len Tryd.underlying65 rfl (Besides.here hBe)) ?_; refine Wo_makeI rfl el80 rfl (by omega) ?_; rintro b2 w4 hb2 b2lt E4 hO1
      have hs3 := E4.size; refine Wo rfl (opv_assign (v := .slice _ _ _) rfl) ?_; refine Wo_nil ?_; refine W_seq ?_; refine W_seq ?_; refine W_region rfl ?_; refine Wo rfl (opv_assign (v := .int _ _) rfl) ?_; refine Wo_nil ?_
      refine W_block ?_; rotate_left; (exfalso; omega)
    refine W_loop [2, 3, 8, 9, 22, 23, 24, 25, 26, 27, 28, 29, 30, 31, 32, 33, 34, 35, 36, 37, 38, 39, 40, 41, 42, 43, 44, 45, 46, 47, 48] (fun (j : Nat) => [(8, .int .i64 (j : Nat))]) (fun j w' => Ext w3 w' ∧ j ≤ ps[k].length ∧ Owned w3.heap.size XI w' (.slice (some ⟨b2, 0, none⟩) ps.length ps.length) (rowB ps.length (ps[k].take j)) ∧ inR ps.length (ps[k].take j)) (fun j => ps[k].length - j) 0 (by repeat (first | exact trivial | refine And.intro rfl ?_)) ?_ ?_
    · refine ⟨by assumption, Nat.zero_le _, ?_, fun c hc => by cases hc⟩
      rw [List.take_zero, rowB_nil]
      simpa using hO1
    clear hO1
    rintro j ρk w5 ⟨E5, hj, hO5, hir⟩
    have hrl : (rowB ps.length (ps[k].take j)).length = ps.length := rowB_len
    by_cases hjl : j < ps[k].length
    · have hc8 : (ps[k].getD j 0).toNat < 256 := UInt8.toNat_lt _
      have hcd : ps[k].getD j 0 = ps[k][j] := getD_lt hjl
      have hts : ps[k].take (j + 1) = ps[k].take j ++ [ps[k].getD j 0] := by rw [hcd]; exact List.take_succ_eq_append_getElem hjl
      have hmem : ps[k] ∈ cutB 47 s := hps ▸ List.getElem_mem hkl
      have hnl : (ps.length : Int) = (cutB 47 s).length := by rw [hps]
      by_cases hr : 48 ≤ (ps[k].getD j 0).toNat ∧ (ps[k].getD j 0).toNat < 48 + ps.length
      · focus
          have szE5 := E5.size; have szE4 := E4.size; have szE3 := E3.size; have szE2 := E2.size; have szE1 := E1.size; refine W_seq ?_; refine W_seq ?_; refine W_region rfl ?_; refine Wo rfl (opv_move (v := .int _ _) rfl) ?_
          refine Wo rfl (opv_move (v := u1) rfl) ?_; refine Wo rfl (opv_move (v := .int _ _) rfl) ?_
          refine Wo_get Tryd.underlying65 Tryd.sizeOf9 Tryd.isAgg9 rfl (fun _ => rfl) rfl (Besides.here hBe) E5 rfl (by first | omega | (simp <;> omega)) ?_; rintro _ _ ⟨rfl, -⟩; refine Wo rfl (opv_len_str Tryd.underlying9 rfl) ?_
          refine Wo rfl (opv_lss rfl rfl) ?_; refine Wo_nil ?_; refine W_cond_dec rfl (fun h2 => ?_) (fun h2 => ?_); refine W_skip ?_; refine W_seq ?_; refine W_block ?_; refine W_seq ?_; refine W_region rfl ?_
          refine Wo rfl (opv_move (v := u1) rfl) ?_; refine Wo rfl (opv_move (v := .int _ _) rfl) ?_
          refine Wo_get Tryd.underlying65 Tryd.sizeOf9 Tryd.isAgg9 rfl (fun _ => rfl) rfl (Besides.here hBe) E5 rfl (by first | omega | (simp <;> omega)) ?_; rintro _ _ ⟨rfl, -⟩; refine Wo rfl (opv_move (v := .int _ _) rfl) ?_
          refine Wo rfl (opv_index_str Tryd.underlying9 rfl rfl (by omega)) ?_; refine Wo rfl (opv_conv_int Tryd.underlying5 Tryd.underlying3 rfl (by omega)) ?_; refine Wo rfl (opv_sub rfl rfl (by omega)) ?_
          refine Wo rfl (opv_assign (v := .int _ _) rfl) ?_; refine Wo_nil ?_; refine W_seq ?_; refine W_seq ?_; refine W_region rfl ?_; refine Wo rfl (opv_move (v := .int _ _) rfl) ?_; refine Wo rfl (opv_move (v := u1) rfl) ?_
          refine Wo rfl (opv_len Tryd.underlying65 rfl (Besides.here hBe)) ?_; refine Wo rfl (opv_sub rfl rfl (by omega)) ?_
          refine Wo_call rfl (opc3 (a := .int _ _) (b := .int _ _) (c := .int _ _) Tryd.call42 rfl rfl rfl) (l1In_ok _ _ _ _) ?_; rintro _ w6 ⟨rfl, E6⟩; have hs4 := E6.size; refine Wo rfl (opv_not rfl) ?_; refine Wo_nil ?_
          refine W_cond_ndec rfl (fun h3 => ?_) (fun h3 => ?_); (exfalso; omega); refine W_skip ?_; refine W_region rfl ?_; refine Wo rfl (opv_move (v := .slice _ _ _) rfl) ?_; refine Wo rfl (opv_move (v := .int _ _) rfl) ?_
          refine Wo rfl (opv_indexAddr_z Tryd.underlying80 Tryd.sizeOf3 rfl rfl (by omega)) ?_; refine Wo_set rfl Tryd.sizeOf3 rfl rfl (hO5.toB.ext E6) (by first | omega | (simp <;> omega)) Owned.int (Nat.le_refl _) (by omega) ?_
          rintro w7 hO5 On1 K1 hz1; have E7 := On1.ext1 ((E3.trans E5).trans E6) (by omega); have E8 := On1.ext1 (E5.trans E6) (by omega); have szE8 := E8.size; have hO3 := (hO3.toB.ext (E5.trans E6)).wrote K1 (by omega); have hs5 := On1.size
          refine Wo_nil ?_; refine W_region rfl ?_; refine Wo rfl (opv_move (v := .int _ _) rfl) ?_; refine Wo rfl (opv_add rfl rfl (by omega)) ?_; refine Wo rfl (opv_assign (v := .int _ _) rfl) ?_; refine Wo_nil ?_; rotate_left
          (exfalso; omega)
        · refine ⟨(j + 1), by repeat (first | exact trivial | refine And.intro rfl ?_), by repeat (first | with_reducible exact Same.refl | refine Same.upd rfl ?_ | refine Same.upds rfl ?_ | refine Same.mix rfl ?_), ?_, ?_⟩
          · refine ⟨by assumption, by omega, ?_, ?_⟩
            · rw [rowB_set (c := ps[k].getD j 0) (by omega) (by omega), ← hts] at hO5
              exact hO5
            · rw [hts]
              intro c hc
              rcases List.mem_append.1 hc with hc | hc
              · exact hir c hc
              · obtain rfl := List.mem_singleton.1 hc; exact hr
          · omega
        all_goals omega
      · rw [rd_no1 hmem (List.getElem_mem hjl) (fun h => hr (by rw [hcd]; omega))]
        focus
          have szE5 := E5.size; have szE4 := E4.size; have szE3 := E3.size; have szE2 := E2.size; have szE1 := E1.size; refine W_seq ?_; refine W_seq ?_; refine W_region rfl ?_; refine Wo rfl (opv_move (v := .int _ _) rfl) ?_
          refine Wo rfl (opv_move (v := u1) rfl) ?_; refine Wo rfl (opv_move (v := .int _ _) rfl) ?_
          refine Wo_get Tryd.underlying65 Tryd.sizeOf9 Tryd.isAgg9 rfl (fun _ => rfl) rfl (Besides.here hBe) E5 rfl (by first | omega | (simp <;> omega)) ?_; rintro _ _ ⟨rfl, -⟩; refine Wo rfl (opv_len_str Tryd.underlying9 rfl) ?_
          refine Wo rfl (opv_lss rfl rfl) ?_; refine Wo_nil ?_; refine W_cond_dec rfl (fun h2 => ?_) (fun h2 => ?_); refine W_skip ?_; refine W_seq ?_; refine W_block ?_; refine W_seq ?_; refine W_region rfl ?_
          refine Wo rfl (opv_move (v := u1) rfl) ?_; refine Wo rfl (opv_move (v := .int _ _) rfl) ?_
          refine Wo_get Tryd.underlying65 Tryd.sizeOf9 Tryd.isAgg9 rfl (fun _ => rfl) rfl (Besides.here hBe) E5 rfl (by first | omega | (simp <;> omega)) ?_; rintro _ _ ⟨rfl, -⟩; refine Wo rfl (opv_move (v := .int _ _) rfl) ?_
          refine Wo rfl (opv_index_str Tryd.underlying9 rfl rfl (by omega)) ?_; refine Wo rfl (opv_conv_int Tryd.underlying5 Tryd.underlying3 rfl (by omega)) ?_; refine Wo rfl (opv_sub rfl rfl (by omega)) ?_
          refine Wo rfl (opv_assign (v := .int _ _) rfl) ?_; refine Wo_nil ?_; refine W_seq ?_; refine W_seq ?_; refine W_region rfl ?_; refine Wo rfl (opv_move (v := .int _ _) rfl) ?_; refine Wo rfl (opv_move (v := u1) rfl) ?_
          refine Wo rfl (opv_len Tryd.underlying65 rfl (Besides.here hBe)) ?_; refine Wo rfl (opv_sub rfl rfl (by omega)) ?_
          refine Wo_call rfl (opc3 (a := .int _ _) (b := .int _ _) (c := .int _ _) Tryd.call42 rfl rfl rfl) (l1In_ok _ _ _ _) ?_; rintro _ w6 ⟨rfl, E6⟩; have hs4 := E6.size; refine Wo rfl (opv_not rfl) ?_; refine Wo_nil ?_
          refine W_cond_ndec rfl (fun h3 => ?_) (fun h3 => ?_); refine W_seq ?_; refine W_region rfl ?_; refine Wo_lit0 (XSl 3 XInt) rfl el49 Tryd.sizeOf80 ?_; rintro b3 w7 hb3 b3lt E7 hO1; have hs5 := E7.size
          refine Wo rfl (opv_assign (v := .slice _ _ _) rfl) ?_; refine Wo rfl (opv_assign (v := .bool _) rfl) ?_; refine Wo_nil ?_; refine W_ret ?_; refine at_ret (v := .tuple #[.slice _ _ _, .bool _]) rfl ?_
          exact ⟨_, rfl, (((E3.trans E5).trans E6).trans E7), hO1.toB.o.mono (by omega)⟩; (exfalso; omega); (exfalso; omega)
        all_goals omega
    · obtain rfl : j = ps[k].length := by omega
      rw [List.take_length] at hO5 hir
      focus
        have szE5 := E5.size; have szE4 := E4.size; have szE3 := E3.size; have szE2 := E2.size; have szE1 := E1.size; refine W_seq ?_; refine W_seq ?_; refine W_region rfl ?_; refine Wo rfl (opv_move (v := .int _ _) rfl) ?_
        refine Wo rfl (opv_move (v := u1) rfl) ?_; refine Wo rfl (opv_move (v := .int _ _) rfl) ?_
        refine Wo_get Tryd.underlying65 Tryd.sizeOf9 Tryd.isAgg9 rfl (fun _ => rfl) rfl (Besides.here hBe) E5 rfl (by first | omega | (simp <;> omega)) ?_; rintro _ _ ⟨rfl, -⟩; refine Wo rfl (opv_len_str Tryd.underlying9 rfl) ?_
        refine Wo rfl (opv_lss rfl rfl) ?_; refine Wo_nil ?_; refine W_cond_dec rfl (fun h2 => ?_) (fun h2 => ?_); (exfalso; omega); refine W_exit ?_; refine exitX_same ?_; refine W_region rfl ?_; refine Wo rfl (opv_move (v := u) rfl) ?_
        refine Wo rfl (opv_move (v := .slice _ _ _) rfl) ?_; refine Wo_buildSlice (ps := [(0, .slice _ _ _)]) (cs := [_]) rfl Tryd.underlying49 Tryd.sizeOf80 Tryd.zeroValue80 rfl rfl rfl rfl ?_; rintro b3 w6 hb3 E6 hB1; have hlb3 := hB1.lt
        have hs4 := E6.size; refine Wo_app1 rfl el49 rfl rfl hB1 (hO3.toB.ext (E5.trans E6)) (hO5.toB.ext E6).o (by omega) (by first | omega | (simp <;> omega)) (by omega) (by omega) ((E3.trans E5).trans E6) (by omega) ?_
        have hT1 := (hO3.toB.ext (E5.trans E6)); rintro v1 w7 hO3 E7 M1; have hBe := (hBe.ext (E5.trans E6)).moves M1; have hO5 := (hO5.toB.ext E6).moves M1 hT1 (by omega); have hB1 := hB1.moves M1 hT1 (by omega); have hs5 := E7.size
        refine Wo rfl (opv_assign (v := v1) rfl) ?_; refine Wo_nil ?_; refine W_region rfl ?_; refine Wo rfl (opv_move (v := .int _ _) rfl) ?_; refine Wo rfl (opv_add rfl rfl (by omega)) ?_; refine Wo rfl (opv_assign (v := .int _ _) rfl) ?_
        refine Wo_nil ?_
      refine ⟨((k + 1, v1)), by repeat (first | exact trivial | refine And.intro rfl ?_), by repeat (first | with_reducible exact Same.refl | refine Same.upd rfl ?_ | refine Same.upds rfl ?_ | refine Same.mix rfl ?_), ?_, ?_⟩
      · have hts : ps.take (k + 1) = ps.take k ++ [ps[k]] := List.take_succ_eq_append_getElem hkl
        refine ⟨by assumption, by omega, ?_, by assumption, ?_⟩
        · rw [hts, List.map_append]; exact hO3
        · rw [hts]
          intro x hx
          rcases List.mem_append.1 hx with hx | hx
          · exact hin x hx
          · obtain rfl := List.mem_singleton.1 hx; exact hir
      · simp only; omega
  · obtain rfl : k = ps.length := by omega
    have eM : ps.map (rowB ps.length) = rdM s := by rw [hps]; rfl
    rw [List.take_length, eM] at hO3
    clear k1
    by_cases hP : Pic (rdM s)
    · by_cases hT : txt (rdM s) = s
      · rw [rd_yes hP hT]
        have k2 : ∀ w v, ESl Ints w v (rdM s) → Does Tryd.prog 70 [v] w (Ret w (.bool true)) := fun w v h => by
          have := PictureOk_ok w v _ h
          rwa [decide_eq_true hP] at this
        have k3 : ∀ w v, ESl Ints w v (rdM s) → Does Tryd.prog 71 [v] w (Ret w (str s)) := fun w v h => by
          have := PictureText_ok w v _ h
          rwa [if_pos hP, hT] at this
        focus
          have szE3 := E3.size; have szE2 := E2.size; have szE1 := E1.size; refine W_seq ?_; refine W_seq ?_; refine W_region rfl ?_; refine Wo rfl (opv_move (v := .int _ _) rfl) ?_; refine Wo rfl (opv_move (v := u1) rfl) ?_
          refine Wo rfl (opv_len Tryd.underlying65 rfl (Besides.here hBe)) ?_; refine Wo rfl (opv_lss rfl rfl) ?_; refine Wo_nil ?_; refine W_cond_dec rfl (fun h1 => ?_) (fun h1 => ?_); (exfalso; omega); refine W_exit ?_; refine exitX_same ?_
          refine W_seq ?_; refine W_seq ?_; refine W_region rfl ?_; refine Wo rfl (opv_move (v := u) rfl) ?_; refine Wo_call rfl (opc1 (a := u) Tryd.call70 rfl) (k2 _ _ ((Owned.read hO3))) ?_; rintro _ w4 ⟨rfl, E4⟩; have hs3 := E4.size
          refine Wo rfl (opv_not rfl) ?_; refine Wo_split rfl (opv_move (v := .bool _) rfl) (fun h2 => ?_) (fun h2 => ?_); contradiction; refine Wo rfl (opv_move (v := u) rfl) ?_
          refine Wo_call rfl (opc1 (a := u) Tryd.call71 rfl) (k3 _ _ ((Mono.mono E4 (Owned.read hO3)))) ?_; rintro _ w5 ⟨rfl, E5⟩; have hs4 := E5.size; refine Wo rfl (opv_move (v := .string _) rfl) ?_; refine Wo rfl (opv_neq_str rfl rfl) ?_
          refine Wo rfl (opv_pick_f (v := .bool _) rfl rfl) ?_; refine Wo_nil ?_; refine W_cond_ndec rfl (fun h3 => ?_) (fun h3 => ?_); contradiction; refine W_skip ?_; refine W_seq ?_; refine W_region rfl ?_
          refine Wo rfl (opv_move (v := u) rfl) ?_; refine Wo rfl (opv_assign (v := u) rfl) ?_; refine Wo rfl (opv_assign (v := .bool _) rfl) ?_; refine Wo_nil ?_; refine W_ret ?_; refine at_ret (v := .tuple #[u, .bool _]) rfl ?_
          exact ⟨_, rfl, ((E3.trans E4).trans E5), (hO3.toB.ext (E4.trans E5)).o.mono (by omega)⟩
      · rw [rd_no3 hT]
        have k2 : ∀ w v, ESl Ints w v (rdM s) → Does Tryd.prog 70 [v] w (Ret w (.bool true)) := fun w v h => by
          have := PictureOk_ok w v _ h
          rwa [decide_eq_true hP] at this
        have k3 : ∀ w v, ESl Ints w v (rdM s) → Does Tryd.prog 71 [v] w (Ret w (str (txt (rdM s)))) := fun w v h => by
          have := PictureText_ok w v _ h
          rwa [if_pos hP] at this
        focus
          have szE3 := E3.size; have szE2 := E2.size; have szE1 := E1.size; refine W_seq ?_; refine W_seq ?_; refine W_region rfl ?_; refine Wo rfl (opv_move (v := .int _ _) rfl) ?_; refine Wo rfl (opv_move (v := u1) rfl) ?_
          refine Wo rfl (opv_len Tryd.underlying65 rfl (Besides.here hBe)) ?_; refine Wo rfl (opv_lss rfl rfl) ?_; refine Wo_nil ?_; refine W_cond_dec rfl (fun h1 => ?_) (fun h1 => ?_); (exfalso; omega); refine W_exit ?_; refine exitX_same ?_
          refine W_seq ?_; refine W_seq ?_; refine W_region rfl ?_; refine Wo rfl (opv_move (v := u) rfl) ?_; refine Wo_call rfl (opc1 (a := u) Tryd.call70 rfl) (k2 _ _ ((Owned.read hO3))) ?_; rintro _ w4 ⟨rfl, E4⟩; have hs3 := E4.size
          refine Wo rfl (opv_not rfl) ?_; refine Wo_split rfl (opv_move (v := .bool _) rfl) (fun h2 => ?_) (fun h2 => ?_); contradiction; refine Wo rfl (opv_move (v := u) rfl) ?_
          refine Wo_call rfl (opc1 (a := u) Tryd.call71 rfl) (k3 _ _ ((Mono.mono E4 (Owned.read hO3)))) ?_; rintro _ w5 ⟨rfl, E5⟩; have hs4 := E5.size; refine Wo rfl (opv_move (v := .string _) rfl) ?_; refine Wo rfl (opv_neq_str rfl rfl) ?_
          refine Wo rfl (opv_pick_f (v := .bool _) rfl rfl) ?_; refine Wo_nil ?_; refine W_cond_ndec rfl (fun h3 => ?_) (fun h3 => ?_); refine W_seq ?_; refine W_region rfl ?_; refine Wo_lit0 (XSl 3 XInt) rfl el49 Tryd.sizeOf80 ?_
          rintro b2 w6 hb2 b2lt E6 hO1; have hs5 := E6.size; refine Wo rfl (opv_assign (v := .slice _ _ _) rfl) ?_; refine Wo rfl (opv_assign (v := .bool _) rfl) ?_; refine Wo_nil ?_; refine W_ret ?_
          refine at_ret (v := .tuple #[.slice _ _ _, .bool _]) rfl ?_; exact ⟨_, rfl, (((E3.trans E4).trans E5).trans E6), hO1.toB.o.mono (by omega)⟩; contradiction
    · rw [rd_no2 hP]
      have k2 : ∀ w v, ESl Ints w v (rdM s) → Does Tryd.prog 70 [v] w (Ret w (.bool false)) := fun w v h => by
        have := PictureOk_ok w v _ h
        rwa [decide_eq_false hP] at this
      focus
        have szE3 := E3.size; have szE2 := E2.size; have szE1 := E1.size; refine W_seq ?_; refine W_seq ?_; refine W_region rfl ?_; refine Wo rfl (opv_move (v := .int _ _) rfl) ?_; refine Wo rfl (opv_move (v := u1) rfl) ?_
        refine Wo rfl (opv_len Tryd.underlying65 rfl (Besides.here hBe)) ?_; refine Wo rfl (opv_lss rfl rfl) ?_; refine Wo_nil ?_; refine W_cond_dec rfl (fun h1 => ?_) (fun h1 => ?_); (exfalso; omega); refine W_exit ?_; refine exitX_same ?_
        refine W_seq ?_; refine W_seq ?_; refine W_region rfl ?_; refine Wo rfl (opv_move (v := u) rfl) ?_; refine Wo_call rfl (opc1 (a := u) Tryd.call70 rfl) (k2 _ _ ((Owned.read hO3))) ?_; rintro _ w4 ⟨rfl, E4⟩; have hs3 := E4.size
        refine Wo rfl (opv_not rfl) ?_; refine Wo_split rfl (opv_move (v := .bool _) rfl) (fun h2 => ?_) (fun h2 => ?_); refine Wo_skip rfl ?_; refine Wo_skip rfl ?_; refine Wo_skip rfl ?_; refine Wo_skip rfl ?_
        refine Wo rfl (opv_pick_t (v := .bool _) rfl rfl) ?_; refine Wo_nil ?_; refine W_cond_true rfl ?_; refine W_seq ?_; refine W_region rfl ?_; refine Wo_lit0 (XSl 3 XInt) rfl el49 Tryd.sizeOf80 ?_; rintro b2 w5 hb2 b2lt E5 hO1
        have hs4 := E5.size; refine Wo rfl (opv_assign (v := .slice _ _ _) rfl) ?_; refine Wo rfl (opv_assign (v := .bool _) rfl) ?_; refine Wo_nil ?_; refine W_ret ?_; refine at_ret (v := .tuple #[.slice _ _ _, .bool _]) rfl ?_
        exact ⟨_, rfl, ((E3.trans E4).trans E5), hO1.toB.o.mono (by omega)⟩; contradiction

end Go.Proofs.YtgphoihilheoeaaDoor
set_option linter.unusedVariables false
set_option linter.unusedSimpArgs false
namespace Go.Hs
section
variable {P : Program} {n : Nat} {N : Env → World → Prop} {ρ : Env} {w w0 : World} {all : Array Oper} {rest : List Oper} {d : Nat} {ty t tl : TypeId} {pos : String} {after : Array Edge} {g : Option (Nat × Bool)} {x y : Operand} {u1 u2 u3 v1 v2 v3 : Value} {b o : Nat} {zs : List Value}
theorem opv_load3o (ht : ∀ w, (isAgg tl).run P w = .ok true w) (hs : ∀ w, (sizeOf tl).run P w = .ok 3 w) (hx : evalE ρ x = .pointer (some ⟨b, o, none⟩)) (h0 : w.cell? ⟨b, o, none⟩ = some u1) (h1 : w.cell? ⟨b, o + 1, none⟩ = some u2) (h2 : w.cell? ⟨b, o + 2, none⟩ = some u3) :
    OpV P (.load tl x) ty ρ w (.agg #[u1, u2, u3]) := by
  have e0 : (⟨b, o, none⟩ : Addr).add 0 = ⟨b, o, none⟩ := add_mk b o 0
  have e1 : (⟨b, o, none⟩ : Addr).add 1 = ⟨b, o + 1, none⟩ := add_mk b o 1
  have e2 : (⟨b, o, none⟩ : Addr).add 2 = ⟨b, o + 2, none⟩ := add_mk b o 2
  simp [OpV, execOp, hx, Instr.loadAt, Instr.sureAddr, loadVar, ht, hs, loadCells, loadCellsFrom, e0, e1, e2, h0, h1, h2]
theorem opv_load3 (ht : ∀ w, (isAgg tl).run P w = .ok true w) (hs : ∀ w, (sizeOf tl).run P w = .ok 3 w) (hx : evalE ρ x = .pointer (some ⟨b, 0, none⟩)) (hB : Blk w b [u1, u2, u3]) : OpV P (.load tl x) ty ρ w (.agg #[u1, u2, u3]) :=
  opv_load3o ht hs hx (hB.cell rfl) (hB.cell rfl) (hB.cell rfl)
theorem Wo_allocN (hw : wantedE all ⟨some d, .alloc t, ty, pos, after, g⟩ ρ = true) (hF : Flat P t zs)
    (hk : ∀ b w1, w.heap.size ≤ b → Ext w w1 → Blk w1 b zs → Wops P n all rest N (upd ρ d (.pointer (some ⟨b, 0, none⟩))) w1) :
    Wops P n all (⟨some d, .alloc t, ty, pos, after, g⟩ :: rest) N ρ w := by
  obtain ⟨fs, hund, hzero, hplaces⟩ := hF
  refine Wo_run (v := .pointer (some ⟨w.heap.size, 0, none⟩)) (w' := w.alloc (.cells zs.toArray t)) hw ?_ (hk _ _ (Nat.le_refl _) ((Ext.refl w).alloc _) (Blk.new w zs t))
  simp [execOp, Instr.alloc, newVar, newRow, hzero, Value.cells]
theorem ops_store3 {c1 c2 c3 : Value} (hs : ∀ w, (sizeOf tl).run P w = .ok 3 w) (hx : evalE ρ x = .pointer (some ⟨b, 0, none⟩)) (hy : evalE ρ y = .agg #[v1, v2, v3]) (h1 : isCell v1 = true) (h2 : isCell v2 = true) (h3 : isCell v3 = true) (hB : Blk w b [c1, c2, c3]) :
    OpS P (.store tl x y) ty ρ w (((w.setCell ⟨b, 0, none⟩ v1).setCell ⟨b, 1, none⟩ v2).setCell ⟨b, 2, none⟩ v3) := by
  have hB' : Blk (w.setCell ⟨b, 0, none⟩ v1) b [v1, c2, c3] := hB.set v1
  have hB'' : Blk ((w.setCell ⟨b, 0, none⟩ v1).setCell ⟨b, 1, none⟩ v2) b [v1, v2, c3] := hB'.set v2
  have k1 := run_store_cell (P := P) (w := w) (ad := ⟨b, 0, none⟩) h1 (hB.cell (i := 0) rfl) hB.frozen
  have k2 := run_store_cell (P := P) (w := w.setCell ⟨b, 0, none⟩ v1) (ad := ⟨b, 1, none⟩) h2 (hB'.cell (i := 1) rfl) hB'.frozen
  have k3 := run_store_cell (P := P) (w := (w.setCell ⟨b, 0, none⟩ v1).setCell ⟨b, 1, none⟩ v2) (ad := ⟨b, 2, none⟩) h3 (hB''.cell (i := 2) rfl) hB''.frozen
  simp [OpS, execOp, hx, hy, Instr.storeAt, Instr.sureAddr, storeVar, hs, Value.cells, storeCells, Addr.add, k1, k2, k3]
theorem Wo_st3 {c1 c2 c3 : Value} (hw : wantedE all ⟨none, .store t x y, ty, pos, after, g⟩ ρ = true) (hs : ∀ w, (sizeOf t).run P w = .ok 3 w) (hx : evalE ρ x = .pointer (some ⟨b, 0, none⟩)) (hy : evalE ρ y = .agg #[v1, v2, v3]) (h1 : isCell v1 = true) (h2 : isCell v2 = true) (h3 : isCell v3 = true)
    (hb : Blk w b [c1, c2, c3]) (h0 : w0.heap.size ≤ b) (hE : Ext w0 w)
    (hk : ∀ w1, Ext w0 w1 → Blk w1 b [v1, v2, v3] → (∀ k, k ≠ b → w1.heap[k]? = w.heap[k]?) → w1.heap.size = w.heap.size → Wops P n all rest N ρ w1) :
    Wops P n all (⟨none, .store t x y, ty, pos, after, g⟩ :: rest) N ρ w := by
  have hb' : Blk (w.setCell ⟨b, 0, none⟩ v1) b [v1, c2, c3] := hb.set v1
  have hb'' : Blk ((w.setCell ⟨b, 0, none⟩ v1).setCell ⟨b, 1, none⟩ v2) b [v1, v2, c3] := hb'.set v2
  refine Wo_store hw (ops_store3 hs hx hy h1 h2 h3 hb) (hk _ (((hE.setCell h0 v1).setCell h0 v2).setCell h0 v3) (hb''.set v3) (fun k h => ?_) ?_)
  · rw [heap_setCell_other _ h, heap_setCell_other _ h, heap_setCell_other _ h]
  · rw [size_setCell, size_setCell, size_setCell]
end
/-- A pointer to a struct of three cells, and what is said of the struct. -/
def CellS3 (w : World) (p : Value) (K : Value → Prop) : Prop := ∃ b u1 u2 u3, p = .pointer (some ⟨b, 0, none⟩) ∧ Blk w b [u1, u2, u3] ∧ K (.agg #[u1, u2, u3])
section
variable {P : Program} {t a a' : Tmp} {ta ta' : TypeId} {w : World} {v : Value}
theorem run_loadVar3 {b : Nat} {u1 u2 u3 : Value} (ht : ∀ w, (isAgg ta).run P w = .ok true w) (hs : ∀ w, (sizeOf ta).run P w = .ok 3 w) (hB : Blk w b [u1, u2, u3]) : (loadVar ta ⟨b, 0, none⟩).run P w = .ok (.agg #[u1, u2, u3]) w := by
  have h0 : w.cell? ⟨b, 0, none⟩ = some u1 := hB.cell rfl
  have h1 : w.cell? ⟨b, 1, none⟩ = some u2 := hB.cell rfl
  have h2 : w.cell? ⟨b, 2, none⟩ = some u3 := hB.cell rfl
  simp [loadVar, ht, hs, loadCells, loadCellsFrom, Addr.add, h0, h1, h2]
theorem results_c3 {fn : Func} {b : Nat} {u1 u2 u3 : Value} (h : fn.results = #[.cell a ta]) (tmps : Array Value) (ht : ∀ w, (isAgg ta).run P w = .ok true w) (hs : ∀ w, (sizeOf ta).run P w = .ok 3 w)
    (hp : tmps.getD a undef = .pointer (some ⟨b, 0, none⟩)) (hB : Blk w b [u1, u2, u3]) : (results fn tmps).run P w = .ok (.agg #[u1, u2, u3]) w := by
  rw [Array.getD_eq_getD_getElem?] at hp
  simp [results, h, hp, asAddr, run_loadVar3 ht hs hB]
theorem results_c3t {fn : Func} {b : Nat} {u1 u2 u3 : Value} (h : fn.results = #[.cell a ta, .tmp t]) (tmps : Array Value) (ht : ∀ w, (isAgg ta).run P w = .ok true w) (hs : ∀ w, (sizeOf ta).run P w = .ok 3 w)
    (hp : tmps.getD a undef = .pointer (some ⟨b, 0, none⟩)) (hB : Blk w b [u1, u2, u3]) : (results fn tmps).run P w = .ok (.tuple #[.agg #[u1, u2, u3], tmps.getD t undef]) w := by
  rw [Array.getD_eq_getD_getElem?] at hp
  simp [results, h, hp, asAddr, run_loadVar3 ht hs hB]
theorem fn_of_Wc3 {f : FuncId} {fn : Func} {c : Code} {args : List Value} {S : Value → World → Prop} (hf : P.funcs[f]? = some fn) (hb : fn.body = some c)
    (hr : fn.results = #[.cell a ta]) {n : Nat} (hn : fn.ntmps = n) (hl : Nat.ble args.length n = true) (ht : ∀ w, (isAgg ta).run P w = .ok true w) (hs : ∀ w, (sizeOf ta).run P w = .ok 3 w)
    (h : W P n c (fun ρ w' => CellS3 w' (ρ a) fun v => S v w') (fun _ _ _ => False) (fun ρ w' => CellS3 w' (ρ a) fun v => S v w') (envOf args) w) : Does P f args w S := by
  subst hn
  unfold W at h
  unfold Does
  refine calls_of_wp hf hb (Go.wp_mono (h _ (Rep.start args _ hl)) fun e a w q => ?_)
  cases e with
  | normal =>
    obtain ⟨ρ, h1, b, u1, u2, u3, h2, h3, h4⟩ := q
    exact ⟨h1.defers, _, results_c3 hr _ ht hs ((h1.get _).trans h2) h3, _, rfl, h4⟩
  | ret =>
    obtain ⟨ρ, h1, b, u1, u2, u3, h2, h3, h4⟩ := q
    exact ⟨h1.defers, _, results_c3 hr _ ht hs ((h1.get _).trans h2) h3, _, rfl, h4⟩
  | exit i => obtain ⟨ρ, h1, h2⟩ := q; exact h2.elim
  | goto l => exact q.elim
  | panic ch => exact q.elim
  | outgrown => exact q.elim
theorem fn_of_Wc3t {f : FuncId} {fn : Func} {c : Code} {args : List Value} {S : Value → World → Prop} (hf : P.funcs[f]? = some fn) (hb : fn.body = some c)
    (hr : fn.results = #[.cell a ta, .tmp t]) {n : Nat} (hn : fn.ntmps = n) (hl : Nat.ble args.length n = true) (ht : ∀ w, (isAgg ta).run P w = .ok true w) (hs : ∀ w, (sizeOf ta).run P w = .ok 3 w)
    (h : W P n c (fun ρ w' => CellS3 w' (ρ a) fun v => S (.tuple #[v, ρ t]) w') (fun _ _ _ => False) (fun ρ w' => CellS3 w' (ρ a) fun v => S (.tuple #[v, ρ t]) w') (envOf args) w) : Does P f args w S := by
  subst hn
  unfold W at h
  unfold Does
  refine calls_of_wp hf hb (Go.wp_mono (h _ (Rep.start args _ hl)) fun e a w q => ?_)
  cases e with
  | normal =>
    obtain ⟨ρ, h1, b, u1, u2, u3, h2, h3, h4⟩ := q
    exact ⟨h1.defers, _, by rw [results_c3t hr _ ht hs ((h1.get _).trans h2) h3, h1.get], _, rfl, h4⟩
  | ret =>
    obtain ⟨ρ, h1, b, u1, u2, u3, h2, h3, h4⟩ := q
    exact ⟨h1.defers, _, by rw [results_c3t hr _ ht hs ((h1.get _).trans h2) h3, h1.get], _, rfl, h4⟩
  | exit i => obtain ⟨ρ, h1, h2⟩ := q; exact h2.elim
  | goto l => exact q.elim
  | panic ch => exact q.elim
  | outgrown => exact q.elim
end

/-- a deed as a value -/
def dv (a : Deed) : Value := .agg #[.int .i64 a.kind, str a.text, .int .i64 a.node]
/-- a deed that lies here -/
def DeedAt (w : World) (b o : Nat) (a : Deed) : Prop := w.cell? ⟨b, o, none⟩ = some (.int .i64 a.kind) ∧ w.cell? ⟨b, o + 1, none⟩ = some (str a.text) ∧ w.cell? ⟨b, o + 2, none⟩ = some (.int .i64 a.node) ∧ a.text.length ≤ 9223372036854775807
theorem DeedAt.ext {w w' : World} {b o : Nat} {a : Deed} (h : DeedAt w b o a) (e : Ext w w') : DeedAt w' b o a := ⟨e.cell h.1, e.cell h.2.1, e.cell h.2.2.1, h.2.2.2⟩
/-- a slice of deeds -/
def ESD (w : World) (v : Value) (l : List Deed) : Prop := ∃ a c, v = .slice a l.length c ∧ l.length ≤ 9223372036854775807 ∧ (l = [] ∨ ∃ b o, a = some ⟨b, o, none⟩ ∧ ∀ i (h : i < l.length), DeedAt w b (o + i * 3) l[i])
instance : Mono ESD := ⟨by
  rintro w w' v l e ⟨a, c, rfl, h1, h2⟩
  refine ⟨a, c, rfl, h1, h2.imp id ?_⟩
  rintro ⟨b, o, rfl, h⟩
  exact ⟨b, o, rfl, fun i hi => (h i hi).ext e⟩⟩
theorem ESD.le {w : World} {v : Value} {l : List Deed} (h : ESD w v l) : l.length ≤ 9223372036854775807 := by obtain ⟨a, c, rfl, h1, h2⟩ := h; exact h1
section
variable {P : Program} {n : Nat} {N : Env → World → Prop} {ρ : Env} {w w0 : World} {all : Array Oper} {rest : List Oper} {d d2 : Nat} {ty ty2 t tl ts el : TypeId} {pos pos2 : String} {after after2 : Array Edge} {g g2 : Option (Nat × Bool)} {x y : Operand} {v : Value} {l : List Deed} {k : Nat}
theorem opv_lenD (ht : P.underlying ts = some (.slice el)) (hx : evalE ρ x = v) (h : ESD w0 v l) : OpV P (.call { callee := .builtin .len, args := #[x], argTypes := #[ts] }) ty ρ w (.int .i64 (l.length : Int)) := by
  obtain ⟨a, c, rfl, _⟩ := h
  exact opv_len_slice ht hx
theorem opv_indexAddr3 {b o len cap : Nat} (ht : P.underlying ts = some (.slice el)) (hs : ∀ w, (sizeOf el).run P w = .ok 3 w) (hx : evalE ρ x = .slice (some ⟨b, o, none⟩) len cap) (hy : evalE ρ y = .int .i64 (k : Int)) (hk : k < len) :
    OpV P (.indexAddr ts x y) ty ρ w (.pointer (some ⟨b, o + k * 3, none⟩)) := by
  simp [OpV, execOp, hx, hy, Instr.indexAt, asIntOf, run_und ht, hs, hk]
  unfold Addr.add; split
  · simp_all
  · rfl
/-- xs[i], a deed -/
theorem Wo_getD (ht : P.underlying t = some (.slice el)) (hs : ∀ w, (sizeOf el).run P w = .ok 3 w) (hta : ∀ w, (isAgg tl).run P w = .ok true w) (hts : ∀ w, (sizeOf tl).run P w = .ok 3 w)
    (hw : wantedE all ⟨some d, .indexAddr t x y, ty, pos, after, g⟩ ρ = true) (hw2 : ∀ v, wantedE all ⟨some d2, .load tl (.tmp d), ty2, pos2, after2, g2⟩ (upd ρ d v) = true)
    (hx : evalE ρ x = v) (hR : ESD w0 v l) (hE : Ext w0 w) (hy : evalE ρ y = .int .i64 (k : Int)) (hk : k < l.length)
    (hk' : ∀ ad, Wops P n all rest N (upd (upd ρ d (.pointer (some ad))) d2 (dv l[k])) w) : Wops P n all (⟨some d, .indexAddr t x y, ty, pos, after, g⟩ :: ⟨some d2, .load tl (.tmp d), ty2, pos2, after2, g2⟩ :: rest) N ρ w := by
  obtain ⟨a, c, rfl, h1, h2⟩ := hR
  rcases h2 with rfl | ⟨b, o, rfl, h⟩
  · cases hk
  have hD := (h k hk).ext hE
  refine Wo hw (opv_indexAddr3 ht hs hx hy hk) ?_
  refine Wo (hw2 _) (opv_load3o hta hts (by simp [evalE, upd]) hD.1 hD.2.1 hD.2.2.1) ?_
  exact hk' _
end
end Go.Hs
namespace Go.Proofs.YtgphoihilheoeaaDoor
open Go.Hs
set_option maxRecDepth 10000
set_option maxHeartbeats 4000000
set_option linter.unusedVariables false
set_option linter.unusedSimpArgs false

theorem flat26 : Flat Tryd.prog 26 [.int .i64 0, str [], .int .i64 0] := ⟨_, Tryd.underlying26, fun _ => by kernel_rfl, fun _ => by kernel_rfl⟩
theorem opv_eqD {ρ : Env} {w : World} {x y : Operand} {t' ty : TypeId} {k n k' n' : Int} {a b : List UInt8} (hx : evalE ρ x = .agg #[.int .i64 k, str a, .int .i64 n]) (hy : evalE ρ y = .agg #[.int .i64 k', str b, .int .i64 n']) :
    OpV Tryd.prog (.binOp .eql 26 x y t') ty ρ w (.bool (decide ((⟨k, a, n⟩ : Deed) = ⟨k', b, n'⟩))) := by
  have u3 := Tryd.underlying3
  have a3 := Tryd.isAgg3
  have z3 := Tryd.sizeOf3
  have u9 := Tryd.underlying9
  have a9 := Tryd.isAgg9
  have z9 := Tryd.sizeOf9
  have hS : Tryd.prog.underlying 26 = some (.struct (Tryd.prog.fieldsOf 26)) := by kernel_rfl
  have hp : Tryd.prog.stoodInHeld 26 = false := by kernel_rfl
  have hg : Tryd.prog.eqGuardType Tryd.prog.depth 26 = false := by kernel_rfl
  have e : ((binOp .eql 26 (.agg #[.int .i64 k, str a, .int .i64 n]) (.agg #[.int .i64 k', str b, .int .i64 n'])).run Tryd.prog w) = .ok (.bool (decide ((⟨k, a, n⟩ : Deed) = ⟨k', b, n'⟩))) w := by
    rw [run_eql_struct, show (10000 : Nat) = 9999 + 1 from rfl, run_equalIn_agg w 9999 26 _ _ hS hp]
    simp only [Program.fieldsOf, Tryd.underlying26]
    go_simp
    by_cases h1 : k = k' <;> by_cases h2 : a = b <;> by_cases h3 : n = n' <;> simp [h1, h2, h3]
  simp [OpV, execOp, hx, hy, run_eqGuard_agg, hg, e]

theorem spec_DeedText_ok (w : World) (k n : Int) (t : List UInt8) (ht : t.length ≤ 1048576) :
    Does Tryd.prog 12 [.agg #[.int .i64 k, str t, .int .i64 n]] w (Ret w (str (dtV ⟨k, t, n⟩))) := by
  obtain ⟨B, hB⟩ : ∃ B, B = (rdP t).isSome := ⟨_, rfl⟩
  have k1 : ∀ w, Does Tryd.prog 41 [str t] w (RetOB w XR ((rdP t).getD []) B) := fun w => hB ▸ spec_ReadPicture_ok w t ht
  refine fn_of_W1 Tryd.func12 rfl Tryd.results12 Tryd.ntmps12 rfl ?_
  have k2 : ∀ w, 0 ≤ n ∧ n ≤ 9 → Does Tryd.prog 43 [.int .i64 n] w (Ret w (str [dig n.toNat])) := fun w h => by
    obtain ⟨d, rfl⟩ := Int.eq_ofNat_of_zero_le h.1
    exact l1Number_ok w d (by omega)
  focus
    refine W_seq ?_; refine W_region rfl ?_; refine Wo_box rfl rfl rfl ?_; rintro b1 w1 hb1 E1 hB1; have hlb1 := hB1.lt; have hs1 := E1.size; refine Wo rfl (opv_assign (v := .string _) rfl) ?_; refine Wo_nil ?_; refine W_seq ?_
    refine W_region rfl ?_; refine Wo rfl (opv_fieldAddr Tryd.underlying26 rfl rfl Tryd.sizeOf9 rfl) ?_; refine Wo (v := .string _) rfl (opv_load Tryd.isAgg9 rfl (hB1.cell rfl)) ?_
    refine Wo_call rfl (opc1 (a := .string _) Tryd.call41 rfl) (k1 _) ?_; rintro _ w2 ⟨u1, rfl, E2, hO1⟩; have hs2 := E2.size; refine Wo rfl (opv_move (v := .tuple _) rfl) ?_; refine Wo rfl (opv_extract (v := u1) rfl rfl) ?_
    refine Wo rfl (opv_extract (v := .bool _) rfl rfl) ?_; refine Wo rfl (opv_assign (v := u1) rfl) ?_; refine Wo rfl (opv_assign (v := .bool _) rfl) ?_; refine Wo_nil ?_; refine W_seq ?_; refine W_block ?_; refine W_seq ?_
    refine W_region rfl ?_; refine Wo (v := .agg _) rfl (opv_load3 Tryd.isAgg26 Tryd.sizeOf26 rfl (hB1.ext E2)) ?_; refine Wo rfl (opv_build (ps := [(0, .int _ _)]) (cs := [_, _, _]) flat26 rfl rfl) ?_
    refine Wo rfl (opv_eqD rfl rfl) ?_; refine Wo rfl (opv_assign (v := .bool _) rfl) ?_; refine Wo_nil ?_; refine W_cond_dec rfl (fun h1 => ?_) (fun h1 => ?_); refine W_seq ?_; refine W_region rfl ?_
    refine Wo rfl (opv_assign (v := .string _) rfl) ?_; refine Wo_nil ?_; refine W_ret ?_; refine at_ret (v := .string _) rfl ?_; refine ⟨congrArg str ?_, (E1.trans E2)⟩; rotate_left; refine W_seq ?_; refine W_region rfl ?_
    refine Wo (v := .agg _) rfl (opv_load3 Tryd.isAgg26 Tryd.sizeOf26 rfl (hB1.ext E2)) ?_; refine Wo rfl (opv_build (ps := [(0, .int _ _)]) (cs := [_, _, _]) flat26 rfl rfl) ?_; refine Wo rfl (opv_eqD rfl rfl) ?_
    refine Wo rfl (opv_assign (v := .bool _) rfl) ?_; refine Wo_nil ?_; refine W_cond_dec rfl (fun h2 => ?_) (fun h2 => ?_); refine W_seq ?_; refine W_region rfl ?_; refine Wo rfl (opv_assign (v := .string _) rfl) ?_; refine Wo_nil ?_
    refine W_ret ?_; refine at_ret (v := .string _) rfl ?_; refine ⟨congrArg str ?_, (E1.trans E2)⟩; rotate_left; refine W_seq ?_; refine W_region rfl ?_; refine Wo rfl (opv_fieldAddr Tryd.underlying26 rfl rfl Tryd.sizeOf3 rfl) ?_
    refine Wo (v := .int _ _) rfl (opv_load Tryd.isAgg3 rfl ((hB1.ext E2).cell rfl)) ?_; refine Wo rfl (opv_eql rfl rfl) ?_; refine Wo_split_dec rfl (opv_move (v := .bool _) rfl) (fun h3 => ?_) (fun h3 => ?_)
    refine Wo rfl (opv_fieldAddr Tryd.underlying26 rfl rfl Tryd.sizeOf3 rfl) ?_; refine Wo (v := .int _ _) rfl (opv_load Tryd.isAgg3 rfl ((hB1.ext E2).cell rfl)) ?_; refine Wo rfl (opv_eql rfl rfl) ?_
    refine Wo rfl (opv_pick_t (v := .bool _) rfl rfl) ?_; refine Wo_split_dec rfl (opv_move (v := .bool _) rfl) (fun h4 => ?_) (fun h4 => ?_); refine Wo rfl (opv_move (v := .bool _) rfl) ?_
    refine Wo rfl (opv_pick_t (v := .bool _) rfl rfl) ?_; refine Wo rfl (opv_assign (v := .bool _) rfl) ?_; refine Wo_nil ?_; refine W_cond rfl (fun h5 => ?_) (fun h5 => ?_); refine W_seq ?_; refine W_region rfl ?_
    refine Wo rfl (opv_fieldAddr Tryd.underlying26 rfl rfl Tryd.sizeOf9 rfl) ?_; refine Wo (v := .string _) rfl (opv_load Tryd.isAgg9 rfl ((hB1.ext E2).cell rfl)) ?_; refine Wo rfl (opv_add_str rfl rfl (by simp <;> omega)) ?_
    refine Wo rfl (opv_assign (v := .string _) rfl) ?_; refine Wo_nil ?_; refine W_ret ?_; refine at_ret (v := .string _) rfl ?_; refine ⟨congrArg str ?_, (E1.trans E2)⟩; rotate_left; refine W_seq ?_; refine W_region rfl ?_
    refine Wo rfl (opv_fieldAddr Tryd.underlying26 rfl rfl Tryd.sizeOf3 rfl) ?_; refine Wo (v := .int _ _) rfl (opv_load Tryd.isAgg3 rfl ((hB1.ext E2).cell rfl)) ?_; refine Wo rfl (opv_eql rfl rfl) ?_
    refine Wo_split_dec rfl (opv_move (v := .bool _) rfl) (fun h6 => ?_) (fun h6 => ?_); (exfalso; omega); refine Wo_skip rfl ?_; refine Wo_skip rfl ?_; refine Wo_skip rfl ?_; refine Wo rfl (opv_pick_f (v := .bool _) rfl rfl) ?_
    refine Wo rfl (opv_move (v := .bool _) rfl) ?_; refine Wo_skip rfl ?_; refine Wo rfl (opv_pick_f (v := .bool _) rfl rfl) ?_; refine Wo rfl (opv_assign (v := .bool _) rfl) ?_; refine Wo_nil ?_; refine W_cond_false rfl ?_
    refine W_seq ?_; refine W_region rfl ?_; refine Wo rfl (opv_fieldAddr Tryd.underlying26 rfl rfl Tryd.sizeOf3 rfl) ?_; refine Wo (v := .int _ _) rfl (opv_load Tryd.isAgg3 rfl ((hB1.ext E2).cell rfl)) ?_
    refine Wo rfl (opv_eql rfl rfl) ?_; refine Wo_split_dec rfl (opv_move (v := .bool _) rfl) (fun h7 => ?_) (fun h7 => ?_); (exfalso; omega); refine Wo_skip rfl ?_; refine Wo_skip rfl ?_; refine Wo_skip rfl ?_
    refine Wo rfl (opv_pick_f (v := .bool _) rfl rfl) ?_; refine Wo rfl (opv_move (v := .bool _) rfl) ?_; refine Wo_skip rfl ?_; refine Wo_skip rfl ?_; refine Wo_skip rfl ?_; refine Wo rfl (opv_pick_f (v := .bool _) rfl rfl) ?_
    refine Wo rfl (opv_assign (v := .bool _) rfl) ?_; refine Wo_nil ?_; refine W_cond_false rfl ?_; refine W_skip ?_; refine W_seq ?_; refine W_region rfl ?_; refine Wo rfl (opv_assign (v := .string _) rfl) ?_; refine Wo_nil ?_
    refine W_ret ?_; refine at_ret (v := .string _) rfl ?_; refine ⟨congrArg str ?_, (E1.trans E2)⟩; rotate_left; refine Wo_skip rfl ?_; refine Wo rfl (opv_pick_f (v := .bool _) rfl rfl) ?_
    refine Wo rfl (opv_assign (v := .bool _) rfl) ?_; refine Wo_nil ?_; refine W_cond_false rfl ?_; refine W_seq ?_; refine W_region rfl ?_; refine Wo rfl (opv_fieldAddr Tryd.underlying26 rfl rfl Tryd.sizeOf3 rfl) ?_
    refine Wo (v := .int _ _) rfl (opv_load Tryd.isAgg3 rfl ((hB1.ext E2).cell rfl)) ?_; refine Wo rfl (opv_eql rfl rfl) ?_; refine Wo_split_dec rfl (opv_move (v := .bool _) rfl) (fun h5 => ?_) (fun h5 => ?_); (exfalso; omega)
    refine Wo_skip rfl ?_; refine Wo_skip rfl ?_; refine Wo_skip rfl ?_; refine Wo rfl (opv_pick_f (v := .bool _) rfl rfl) ?_; refine Wo rfl (opv_move (v := .bool _) rfl) ?_; refine Wo_skip rfl ?_
    refine Wo rfl (opv_pick_f (v := .bool _) rfl rfl) ?_; refine Wo rfl (opv_assign (v := .bool _) rfl) ?_; refine Wo_nil ?_; refine W_cond_false rfl ?_; refine W_seq ?_; refine W_region rfl ?_
    refine Wo rfl (opv_fieldAddr Tryd.underlying26 rfl rfl Tryd.sizeOf3 rfl) ?_; refine Wo (v := .int _ _) rfl (opv_load Tryd.isAgg3 rfl ((hB1.ext E2).cell rfl)) ?_; refine Wo rfl (opv_eql rfl rfl) ?_
    refine Wo_split_dec rfl (opv_move (v := .bool _) rfl) (fun h6 => ?_) (fun h6 => ?_); (exfalso; omega); refine Wo_skip rfl ?_; refine Wo_skip rfl ?_; refine Wo_skip rfl ?_; refine Wo rfl (opv_pick_f (v := .bool _) rfl rfl) ?_
    refine Wo rfl (opv_move (v := .bool _) rfl) ?_; refine Wo_skip rfl ?_; refine Wo_skip rfl ?_; refine Wo_skip rfl ?_; refine Wo rfl (opv_pick_f (v := .bool _) rfl rfl) ?_; refine Wo rfl (opv_assign (v := .bool _) rfl) ?_
    refine Wo_nil ?_; refine W_cond_false rfl ?_; refine W_skip ?_; refine W_seq ?_; refine W_region rfl ?_; refine Wo rfl (opv_assign (v := .string _) rfl) ?_; refine Wo_nil ?_; refine W_ret ?_; refine at_ret (v := .string _) rfl ?_
    refine ⟨congrArg str ?_, (E1.trans E2)⟩; rotate_left; refine Wo_skip rfl ?_; refine Wo_skip rfl ?_; refine Wo_skip rfl ?_; refine Wo rfl (opv_pick_f (v := .bool _) rfl rfl) ?_; refine Wo rfl (opv_move (v := .bool _) rfl) ?_
    refine Wo_skip rfl ?_; refine Wo rfl (opv_pick_f (v := .bool _) rfl rfl) ?_; refine Wo rfl (opv_assign (v := .bool _) rfl) ?_; refine Wo_nil ?_; refine W_cond_false rfl ?_; refine W_seq ?_; refine W_region rfl ?_
    refine Wo rfl (opv_fieldAddr Tryd.underlying26 rfl rfl Tryd.sizeOf3 rfl) ?_; refine Wo (v := .int _ _) rfl (opv_load Tryd.isAgg3 rfl ((hB1.ext E2).cell rfl)) ?_; refine Wo rfl (opv_eql rfl rfl) ?_
    refine Wo_split_dec rfl (opv_move (v := .bool _) rfl) (fun h4 => ?_) (fun h4 => ?_); refine Wo rfl (opv_fieldAddr Tryd.underlying26 rfl rfl Tryd.sizeOf3 rfl) ?_
    refine Wo (v := .int _ _) rfl (opv_load Tryd.isAgg3 rfl ((hB1.ext E2).cell rfl)) ?_; refine Wo rfl (opv_eql rfl rfl) ?_; refine Wo rfl (opv_pick_t (v := .bool _) rfl rfl) ?_
    refine Wo_split_dec rfl (opv_move (v := .bool _) rfl) (fun h5 => ?_) (fun h5 => ?_); refine Wo rfl (opv_move (v := .bool _) rfl) ?_; refine Wo rfl (opv_pick_t (v := .bool _) rfl rfl) ?_
    refine Wo rfl (opv_assign (v := .bool _) rfl) ?_; refine Wo_nil ?_; refine W_cond rfl (fun h6 => ?_) (fun h6 => ?_); refine W_seq ?_; refine W_region rfl ?_
    refine Wo rfl (opv_fieldAddr Tryd.underlying26 rfl rfl Tryd.sizeOf9 rfl) ?_; refine Wo (v := .string _) rfl (opv_load Tryd.isAgg9 rfl ((hB1.ext E2).cell rfl)) ?_; refine Wo rfl (opv_add_str rfl rfl (by simp <;> omega)) ?_
    refine Wo rfl (opv_assign (v := .string _) rfl) ?_; refine Wo_nil ?_; refine W_ret ?_; refine at_ret (v := .string _) rfl ?_; refine ⟨congrArg str ?_, (E1.trans E2)⟩; rotate_left; refine W_seq ?_; refine W_region rfl ?_
    refine Wo rfl (opv_fieldAddr Tryd.underlying26 rfl rfl Tryd.sizeOf3 rfl) ?_; refine Wo (v := .int _ _) rfl (opv_load Tryd.isAgg3 rfl ((hB1.ext E2).cell rfl)) ?_; refine Wo rfl (opv_eql rfl rfl) ?_
    refine Wo_split_dec rfl (opv_move (v := .bool _) rfl) (fun h7 => ?_) (fun h7 => ?_); (exfalso; omega); refine Wo_skip rfl ?_; refine Wo_skip rfl ?_; refine Wo_skip rfl ?_; refine Wo rfl (opv_pick_f (v := .bool _) rfl rfl) ?_
    refine Wo rfl (opv_move (v := .bool _) rfl) ?_; refine Wo_skip rfl ?_; refine Wo_skip rfl ?_; refine Wo_skip rfl ?_; refine Wo rfl (opv_pick_f (v := .bool _) rfl rfl) ?_; refine Wo rfl (opv_assign (v := .bool _) rfl) ?_
    refine Wo_nil ?_; refine W_cond_false rfl ?_; refine W_skip ?_; refine W_seq ?_; refine W_region rfl ?_; refine Wo rfl (opv_assign (v := .string _) rfl) ?_; refine Wo_nil ?_; refine W_ret ?_; refine at_ret (v := .string _) rfl ?_
    refine ⟨congrArg str ?_, (E1.trans E2)⟩; rotate_left; refine Wo_skip rfl ?_; refine Wo rfl (opv_pick_f (v := .bool _) rfl rfl) ?_; refine Wo rfl (opv_assign (v := .bool _) rfl) ?_; refine Wo_nil ?_; refine W_cond_false rfl ?_
    refine W_seq ?_; refine W_region rfl ?_; refine Wo rfl (opv_fieldAddr Tryd.underlying26 rfl rfl Tryd.sizeOf3 rfl) ?_; refine Wo (v := .int _ _) rfl (opv_load Tryd.isAgg3 rfl ((hB1.ext E2).cell rfl)) ?_
    refine Wo rfl (opv_eql rfl rfl) ?_; refine Wo_split_dec rfl (opv_move (v := .bool _) rfl) (fun h6 => ?_) (fun h6 => ?_); (exfalso; omega); refine Wo_skip rfl ?_; refine Wo_skip rfl ?_; refine Wo_skip rfl ?_
    refine Wo rfl (opv_pick_f (v := .bool _) rfl rfl) ?_; refine Wo rfl (opv_move (v := .bool _) rfl) ?_; refine Wo_skip rfl ?_; refine Wo_skip rfl ?_; refine Wo_skip rfl ?_; refine Wo rfl (opv_pick_f (v := .bool _) rfl rfl) ?_
    refine Wo rfl (opv_assign (v := .bool _) rfl) ?_; refine Wo_nil ?_; refine W_cond_false rfl ?_; refine W_skip ?_; refine W_seq ?_; refine W_region rfl ?_; refine Wo rfl (opv_assign (v := .string _) rfl) ?_; refine Wo_nil ?_
    refine W_ret ?_; refine at_ret (v := .string _) rfl ?_; refine ⟨congrArg str ?_, (E1.trans E2)⟩; rotate_left; refine Wo_skip rfl ?_; refine Wo_skip rfl ?_; refine Wo_skip rfl ?_; refine Wo rfl (opv_pick_f (v := .bool _) rfl rfl) ?_
    refine Wo rfl (opv_move (v := .bool _) rfl) ?_; refine Wo_skip rfl ?_; refine Wo rfl (opv_pick_f (v := .bool _) rfl rfl) ?_; refine Wo rfl (opv_assign (v := .bool _) rfl) ?_; refine Wo_nil ?_; refine W_cond_false rfl ?_
    refine W_seq ?_; refine W_region rfl ?_; refine Wo rfl (opv_fieldAddr Tryd.underlying26 rfl rfl Tryd.sizeOf3 rfl) ?_; refine Wo (v := .int _ _) rfl (opv_load Tryd.isAgg3 rfl ((hB1.ext E2).cell rfl)) ?_
    refine Wo rfl (opv_eql rfl rfl) ?_; refine Wo_split_dec rfl (opv_move (v := .bool _) rfl) (fun h5 => ?_) (fun h5 => ?_); refine Wo rfl (opv_fieldAddr Tryd.underlying26 rfl rfl Tryd.sizeOf9 rfl) ?_
    refine Wo (v := .string _) rfl (opv_load Tryd.isAgg9 rfl ((hB1.ext E2).cell rfl)) ?_; refine Wo rfl (opv_eql_str rfl rfl) ?_; refine Wo rfl (opv_pick_t (v := .bool _) rfl rfl) ?_
    refine Wo_split_dec rfl (opv_move (v := .bool _) rfl) (fun h6 => ?_) (fun h6 => ?_); refine Wo rfl (opv_fieldAddr Tryd.underlying26 rfl rfl Tryd.sizeOf3 rfl) ?_
    refine Wo (v := .int _ _) rfl (opv_load Tryd.isAgg3 rfl ((hB1.ext E2).cell rfl)) ?_; refine Wo_call rfl (opc3 (a := .int _ _) (b := .int _ _) (c := .int _ _) Tryd.call42 rfl rfl rfl) (l1In_ok _ _ _ _) ?_; rintro _ w3 ⟨rfl, E3⟩
    have hs3 := E3.size; refine Wo rfl (opv_pick_t (v := .bool _) rfl rfl) ?_; refine Wo rfl (opv_assign (v := .bool _) rfl) ?_; refine Wo_nil ?_; refine W_cond_dec rfl (fun h7 => ?_) (fun h7 => ?_); refine W_seq ?_
    refine W_region rfl ?_; refine Wo rfl (opv_fieldAddr Tryd.underlying26 rfl rfl Tryd.sizeOf3 rfl) ?_; refine Wo (v := .int _ _) rfl (opv_load Tryd.isAgg3 rfl ((hB1.ext (E2.trans E3)).cell rfl)) ?_
    refine Wo_call rfl (opc1 (a := .int _ _) Tryd.call43 rfl) (k2 _ (by assumption)) ?_; rintro _ w4 ⟨rfl, E4⟩; have hs4 := E4.size; refine Wo rfl (opv_add_str rfl rfl (by simp <;> omega)) ?_
    refine Wo rfl (opv_assign (v := .string _) rfl) ?_; refine Wo_nil ?_; refine W_ret ?_; refine at_ret (v := .string _) rfl ?_; refine ⟨congrArg str ?_, (((E1.trans E2).trans E3).trans E4)⟩; rotate_left; refine W_skip ?_
    refine W_seq ?_; refine W_region rfl ?_; refine Wo rfl (opv_assign (v := .string _) rfl) ?_; refine Wo_nil ?_; refine W_ret ?_; refine at_ret (v := .string _) rfl ?_; refine ⟨congrArg str ?_, ((E1.trans E2).trans E3)⟩; rotate_left
    refine Wo_skip rfl ?_; refine Wo_skip rfl ?_; refine Wo_skip rfl ?_; refine Wo rfl (opv_pick_f (v := .bool _) rfl rfl) ?_; refine Wo rfl (opv_assign (v := .bool _) rfl) ?_; refine Wo_nil ?_; refine W_cond_false rfl ?_
    refine W_skip ?_; refine W_seq ?_; refine W_region rfl ?_; refine Wo rfl (opv_assign (v := .string _) rfl) ?_; refine Wo_nil ?_; refine W_ret ?_; refine at_ret (v := .string _) rfl ?_; refine ⟨congrArg str ?_, (E1.trans E2)⟩
    rotate_left; refine Wo_skip rfl ?_; refine Wo_skip rfl ?_; refine Wo_skip rfl ?_; refine Wo rfl (opv_pick_f (v := .bool _) rfl rfl) ?_; refine Wo rfl (opv_move (v := .bool _) rfl) ?_; refine Wo_skip rfl ?_; refine Wo_skip rfl ?_
    refine Wo_skip rfl ?_; refine Wo rfl (opv_pick_f (v := .bool _) rfl rfl) ?_; refine Wo rfl (opv_assign (v := .bool _) rfl) ?_; refine Wo_nil ?_; refine W_cond_false rfl ?_; refine W_skip ?_; refine W_seq ?_; refine W_region rfl ?_
    refine Wo rfl (opv_assign (v := .string _) rfl) ?_; refine Wo_nil ?_; refine W_ret ?_; refine at_ret (v := .string _) rfl ?_; refine ⟨congrArg str ?_, (E1.trans E2)⟩; rotate_left
  all_goals (unfold dtV; simp only [Deed.mk.injEq] at *)
  all_goals (try subst hB)
  all_goals try (simp_all [sSingle, sBack, sAdd, sDrop, sInto]; done)
  all_goals (repeat' split)
  all_goals first
    | rfl
    | (simp_all [sSingle, sBack, sAdd, sDrop, sInto]; done)
    | (exfalso; simp_all; omega)

end Go.Proofs.YtgphoihilheoeaaDoor
namespace Go.Proofs.YtgphoihilheoeaaDoor
open Go.Hs
set_option maxRecDepth 10000
set_option maxHeartbeats 4000000
set_option linter.unusedVariables false
set_option linter.unusedSimpArgs false

open Classical in
theorem l11Made_ok (w : World) (v : Value) (p : List (List Int)) (h : ESl Ints w v p) (hp : Pic p) (k n : Int) (t : List UInt8) (ht : t.length ≤ 1048576) :
    Does Tryd.prog 98 [v, .agg #[.int .i64 k, str t, .int .i64 n]] w (RetOB w XR (og (madeV p ⟨k, t, n⟩)) (madeV p ⟨k, t, n⟩).isSome) := by
  have hle := h.le
  have hp1 := hp.1
  have hp5 := hp.2.1
  have hN : Nod p (0 : Nat) := ⟨hp, by decide, by omega⟩
  obtain ⟨Q, hQ⟩ : ∃ Q, Q = (rdP t).getD [] := ⟨_, rfl⟩
  obtain ⟨B, hB⟩ : ∃ B, B = (rdP t).isSome := ⟨_, rfl⟩
  obtain ⟨M, hM⟩ : ∃ M, M = madeV p ⟨k, t, n⟩ := ⟨_, rfl⟩
  rw [← hM]
  have k0 : ∀ w, Does Tryd.prog 41 [str t] w (RetOB w XR Q B) := fun w => hQ ▸ hB ▸ spec_ReadPicture_ok w t ht
  refine fn_of_W2 Tryd.func98 rfl Tryd.results98 Tryd.ntmps98 rfl ?_
  by_cases e0 : k = 0
  · subst e0
    by_cases e : t = [] ∧ n = 0
    · obtain ⟨rfl, rfl⟩ := e
      have hm : M = pairV p 0 p 0 := hM.trans (by simp [madeV])
      rw [hm]
      have k1 : ∀ (w : World) (v u : Value), ESl Ints w v p → ESl Ints w u p → Does Tryd.prog 116 [v, .int .i64 0, u, .int .i64 0] w (RetOB w XR (og (pairV p 0 p 0)) (pairV p 0 p 0).isSome) := fun w v u h1 h2 => PairOf_ok w v u p p h1 h2 0 0 hN hN
      focus
        refine W_seq ?_; refine W_region rfl ?_; refine Wo_box rfl rfl rfl ?_; rintro b1 w1 hb1 E1 hB1; have hlb1 := hB1.lt; have hs1 := E1.size; refine Wo rfl (opv_assign (v := .slice _ _ _) rfl) ?_
        refine Wo rfl (opv_assign (v := .bool _) rfl) ?_; refine Wo_nil ?_; refine W_seq ?_; refine W_region rfl ?_; refine Wo rfl (opv_fieldAddr Tryd.underlying26 rfl rfl Tryd.sizeOf9 rfl) ?_
        refine Wo (v := .string _) rfl (opv_load Tryd.isAgg9 rfl (hB1.cell rfl)) ?_; refine Wo_call rfl (opc1 (a := .string _) Tryd.call41 rfl) (k0 _) ?_; rintro _ w2 ⟨u1, rfl, E2, hO1⟩; have hs2 := E2.size
        refine Wo rfl (opv_move (v := .tuple _) rfl) ?_; refine Wo rfl (opv_extract (v := u1) rfl rfl) ?_; refine Wo rfl (opv_extract (v := .bool _) rfl rfl) ?_; refine Wo rfl (opv_assign (v := u1) rfl) ?_
        refine Wo rfl (opv_assign (v := .bool _) rfl) ?_; refine Wo_nil ?_; refine W_seq ?_; refine W_block ?_; refine W_seq ?_; refine W_region rfl ?_; refine Wo rfl (opv_fieldAddr Tryd.underlying26 rfl rfl Tryd.sizeOf3 rfl) ?_
        refine Wo (v := .int _ _) rfl (opv_load Tryd.isAgg3 rfl ((hB1.ext E2).cell rfl)) ?_; refine Wo rfl (opv_eql rfl rfl) ?_; refine Wo_split_dec rfl (opv_move (v := .bool _) rfl) (fun h1 => ?_) (fun h1 => ?_)
        refine Wo rfl (opv_fieldAddr Tryd.underlying26 rfl rfl Tryd.sizeOf9 rfl) ?_; refine Wo (v := .string _) rfl (opv_load Tryd.isAgg9 rfl ((hB1.ext E2).cell rfl)) ?_; refine Wo rfl (opv_eql_str rfl rfl) ?_
        refine Wo rfl (opv_pick_t (v := .bool _) rfl rfl) ?_; refine Wo_split_dec rfl (opv_move (v := .bool _) rfl) (fun h2 => ?_) (fun h2 => ?_); refine Wo rfl (opv_fieldAddr Tryd.underlying26 rfl rfl Tryd.sizeOf3 rfl) ?_
        refine Wo (v := .int _ _) rfl (opv_load Tryd.isAgg3 rfl ((hB1.ext E2).cell rfl)) ?_; refine Wo rfl (opv_eql rfl rfl) ?_; refine Wo rfl (opv_pick_t (v := .bool _) rfl rfl) ?_; refine Wo rfl (opv_assign (v := .bool _) rfl) ?_
        refine Wo_nil ?_; refine W_cond_dec rfl (fun h3 => ?_) (fun h3 => ?_); refine W_seq ?_; refine W_region rfl ?_; refine Wo rfl (opv_move (v := v) rfl) ?_; refine Wo rfl (opv_move (v := v) rfl) ?_
        refine Wo_call rfl (opc4 (a := v) (b := .int _ _) (c := v) (d := .int _ _) Tryd.call116 rfl rfl rfl rfl) (k1 _ _ _ ((Mono.mono (E1.trans E2) h)) ((Mono.mono (E1.trans E2) h))) ?_; rintro _ w3 ⟨u2, rfl, E3, hO2⟩; have hs3 := E3.size
        refine Wo rfl (opv_extract (v := u2) rfl rfl) ?_; refine Wo rfl (opv_extract (v := .bool _) rfl rfl) ?_; refine Wo rfl (opv_assign (v := u2) rfl) ?_; refine Wo rfl (opv_assign (v := .bool _) rfl) ?_; refine Wo_nil ?_
        refine W_ret ?_; refine at_ret (v := .tuple #[u2, .bool _]) rfl ?_; exact ⟨_, rfl, ((E1.trans E2).trans E3), hO2.toB.o.mono (by omega)⟩; contradiction; contradiction; contradiction
    · have hm : M = none := hM.trans (by simp only [madeV]; rw [if_neg (fun h => e ⟨h.2.1, h.2.2⟩), if_neg (fun h => absurd h.1 (by decide)), if_neg (fun h => absurd h.1 (by decide)), if_neg (fun h => absurd h.1 (by decide))])
      rw [hm, show og none = [] from rfl, show (none : Option (List (List Int))).isSome = false from rfl]
      by_cases et : t = []
      · have en : ¬ n = 0 := fun h => e ⟨et, h⟩
        subst et
        focus
          refine W_seq ?_; refine W_region rfl ?_; refine Wo_box rfl rfl rfl ?_; rintro b1 w1 hb1 E1 hB1; have hlb1 := hB1.lt; have hs1 := E1.size; refine Wo rfl (opv_assign (v := .slice _ _ _) rfl) ?_
          refine Wo rfl (opv_assign (v := .bool _) rfl) ?_; refine Wo_nil ?_; refine W_seq ?_; refine W_region rfl ?_; refine Wo rfl (opv_fieldAddr Tryd.underlying26 rfl rfl Tryd.sizeOf9 rfl) ?_
          refine Wo (v := .string _) rfl (opv_load Tryd.isAgg9 rfl (hB1.cell rfl)) ?_; refine Wo_call rfl (opc1 (a := .string _) Tryd.call41 rfl) (k0 _) ?_; rintro _ w2 ⟨u1, rfl, E2, hO1⟩; have hs2 := E2.size
          refine Wo rfl (opv_move (v := .tuple _) rfl) ?_; refine Wo rfl (opv_extract (v := u1) rfl rfl) ?_; refine Wo rfl (opv_extract (v := .bool _) rfl rfl) ?_; refine Wo rfl (opv_assign (v := u1) rfl) ?_
          refine Wo rfl (opv_assign (v := .bool _) rfl) ?_; refine Wo_nil ?_; refine W_seq ?_; refine W_block ?_; refine W_seq ?_; refine W_region rfl ?_; refine Wo rfl (opv_fieldAddr Tryd.underlying26 rfl rfl Tryd.sizeOf3 rfl) ?_
          refine Wo (v := .int _ _) rfl (opv_load Tryd.isAgg3 rfl ((hB1.ext E2).cell rfl)) ?_; refine Wo rfl (opv_eql rfl rfl) ?_; refine Wo_split_dec rfl (opv_move (v := .bool _) rfl) (fun h1 => ?_) (fun h1 => ?_)
          refine Wo rfl (opv_fieldAddr Tryd.underlying26 rfl rfl Tryd.sizeOf9 rfl) ?_; refine Wo (v := .string _) rfl (opv_load Tryd.isAgg9 rfl ((hB1.ext E2).cell rfl)) ?_; refine Wo rfl (opv_eql_str rfl rfl) ?_
          refine Wo rfl (opv_pick_t (v := .bool _) rfl rfl) ?_; refine Wo_split_dec rfl (opv_move (v := .bool _) rfl) (fun h2 => ?_) (fun h2 => ?_); refine Wo rfl (opv_fieldAddr Tryd.underlying26 rfl rfl Tryd.sizeOf3 rfl) ?_
          refine Wo (v := .int _ _) rfl (opv_load Tryd.isAgg3 rfl ((hB1.ext E2).cell rfl)) ?_; refine Wo rfl (opv_eql rfl rfl) ?_; refine Wo rfl (opv_pick_t (v := .bool _) rfl rfl) ?_; refine Wo rfl (opv_assign (v := .bool _) rfl) ?_
          refine Wo_nil ?_; refine W_cond_dec rfl (fun h3 => ?_) (fun h3 => ?_); contradiction; refine W_seq ?_; refine W_region rfl ?_; refine Wo rfl (opv_fieldAddr Tryd.underlying26 rfl rfl Tryd.sizeOf3 rfl) ?_
          refine Wo (v := .int _ _) rfl (opv_load Tryd.isAgg3 rfl ((hB1.ext E2).cell rfl)) ?_; refine Wo rfl (opv_eql rfl rfl) ?_; refine Wo_split_dec rfl (opv_move (v := .bool _) rfl) (fun h4 => ?_) (fun h4 => ?_); contradiction
          refine Wo_skip rfl ?_; refine Wo rfl (opv_pick_f (v := .bool _) rfl rfl) ?_; refine Wo rfl (opv_move (v := .bool _) rfl) ?_; refine Wo_skip rfl ?_; refine Wo_skip rfl ?_; refine Wo_skip rfl ?_
          refine Wo rfl (opv_pick_f (v := .bool _) rfl rfl) ?_; refine Wo rfl (opv_assign (v := .bool _) rfl) ?_; refine Wo_nil ?_; refine W_cond_false rfl ?_; refine W_seq ?_; refine W_region rfl ?_
          refine Wo rfl (opv_fieldAddr Tryd.underlying26 rfl rfl Tryd.sizeOf3 rfl) ?_; refine Wo (v := .int _ _) rfl (opv_load Tryd.isAgg3 rfl ((hB1.ext E2).cell rfl)) ?_; refine Wo rfl (opv_eql rfl rfl) ?_
          refine Wo_split_dec rfl (opv_move (v := .bool _) rfl) (fun h5 => ?_) (fun h5 => ?_); contradiction; refine Wo_skip rfl ?_; refine Wo rfl (opv_pick_f (v := .bool _) rfl rfl) ?_; refine Wo rfl (opv_move (v := .bool _) rfl) ?_
          refine Wo_skip rfl ?_; refine Wo_skip rfl ?_; refine Wo_skip rfl ?_; refine Wo rfl (opv_pick_f (v := .bool _) rfl rfl) ?_; refine Wo rfl (opv_assign (v := .bool _) rfl) ?_; refine Wo_nil ?_; refine W_cond_false rfl ?_
          refine W_seq ?_; refine W_draw mixed (by kernel_rfl) rfl ?_; refine Wq_o rfl (fun _ _ => opv_fieldAddr Tryd.underlying26 rfl rfl Tryd.sizeOf3 rfl) ?_
          refine Wq_o (v := .int _ _) rfl (fun w' hw' => opv_load Tryd.isAgg3 rfl (((hB1.ext E2).ext hw').cell rfl)) ?_; refine Wq_o rfl (fun _ _ => opv_eql rfl rfl) ?_
          refine Wq_split_dec rfl (fun _ _ => opv_move (v := .bool _) rfl) (fun h6 => ?_) (fun h6 => ?_); contradiction; refine Wq_skip rfl ?_; refine Wq_skip rfl ?_; refine Wq_skip rfl ?_
          refine Wq_o rfl (fun _ _ => opv_pick_f (v := .bool _) rfl rfl) ?_; refine Wq_o rfl (fun _ _ => opv_move (v := .bool _) rfl) ?_; refine Wq_skip rfl ?_; refine Wq_skip rfl ?_; refine Wq_skip rfl ?_; refine Wq_skip rfl ?_
          refine Wq_skip rfl ?_; refine Wq_skip rfl ?_; refine Wq_o rfl (fun _ _ => opv_pick_f (v := .bool _) rfl rfl) ?_; refine Wq_o rfl (fun _ _ => opv_move (v := .bool _) rfl) ?_; refine Wq_skip rfl ?_; refine Wq_skip rfl ?_
          refine Wq_skip rfl ?_; refine Wq_skip rfl ?_; refine Wq_skip rfl ?_; refine Wq_skip rfl ?_; refine Wq_skip rfl ?_; refine Wq_skip rfl ?_; refine Wq_o rfl (fun _ _ => opv_pick_f (v := .bool _) rfl rfl) ?_
          refine Wq_o rfl (fun _ _ => opv_assign (v := .bool _) rfl) ?_; refine Wq_nil (fun w3 E3 => ?_); have hs3 := E3.size; refine W_cond_false rfl ?_; refine W_skip ?_; refine W_seq ?_; refine W_region rfl ?_
          refine Wo_lit0 (XSl 3 XInt) rfl el49 Tryd.sizeOf80 ?_; rintro b2 w4 hb2 b2lt E4 hO2; have hs4 := E4.size; refine Wo rfl (opv_assign (v := .slice _ _ _) rfl) ?_; refine Wo rfl (opv_assign (v := .bool _) rfl) ?_; refine Wo_nil ?_
          refine W_ret ?_; refine at_ret (v := .tuple #[.slice _ _ _, .bool _]) rfl ?_; exact ⟨_, rfl, (((E1.trans E2).trans E3).trans E4), hO2.toB.o.mono (by omega)⟩; contradiction; contradiction
      · focus
          refine W_seq ?_; refine W_region rfl ?_; refine Wo_box rfl rfl rfl ?_; rintro b1 w1 hb1 E1 hB1; have hlb1 := hB1.lt; have hs1 := E1.size; refine Wo rfl (opv_assign (v := .slice _ _ _) rfl) ?_
          refine Wo rfl (opv_assign (v := .bool _) rfl) ?_; refine Wo_nil ?_; refine W_seq ?_; refine W_region rfl ?_; refine Wo rfl (opv_fieldAddr Tryd.underlying26 rfl rfl Tryd.sizeOf9 rfl) ?_
          refine Wo (v := .string _) rfl (opv_load Tryd.isAgg9 rfl (hB1.cell rfl)) ?_; refine Wo_call rfl (opc1 (a := .string _) Tryd.call41 rfl) (k0 _) ?_; rintro _ w2 ⟨u1, rfl, E2, hO1⟩; have hs2 := E2.size
          refine Wo rfl (opv_move (v := .tuple _) rfl) ?_; refine Wo rfl (opv_extract (v := u1) rfl rfl) ?_; refine Wo rfl (opv_extract (v := .bool _) rfl rfl) ?_; refine Wo rfl (opv_assign (v := u1) rfl) ?_
          refine Wo rfl (opv_assign (v := .bool _) rfl) ?_; refine Wo_nil ?_; refine W_seq ?_; refine W_block ?_; refine W_seq ?_; refine W_region rfl ?_; refine Wo rfl (opv_fieldAddr Tryd.underlying26 rfl rfl Tryd.sizeOf3 rfl) ?_
          refine Wo (v := .int _ _) rfl (opv_load Tryd.isAgg3 rfl ((hB1.ext E2).cell rfl)) ?_; refine Wo rfl (opv_eql rfl rfl) ?_; refine Wo_split_dec rfl (opv_move (v := .bool _) rfl) (fun h1 => ?_) (fun h1 => ?_)
          refine Wo rfl (opv_fieldAddr Tryd.underlying26 rfl rfl Tryd.sizeOf9 rfl) ?_; refine Wo (v := .string _) rfl (opv_load Tryd.isAgg9 rfl ((hB1.ext E2).cell rfl)) ?_; refine Wo rfl (opv_eql_str rfl rfl) ?_
          refine Wo rfl (opv_pick_t (v := .bool _) rfl rfl) ?_; refine Wo_split_dec rfl (opv_move (v := .bool _) rfl) (fun h2 => ?_) (fun h2 => ?_); contradiction; refine Wo_skip rfl ?_; refine Wo_skip rfl ?_; refine Wo_skip rfl ?_
          refine Wo rfl (opv_pick_f (v := .bool _) rfl rfl) ?_; refine Wo rfl (opv_assign (v := .bool _) rfl) ?_; refine Wo_nil ?_; refine W_cond_false rfl ?_; refine W_seq ?_; refine W_region rfl ?_
          refine Wo rfl (opv_fieldAddr Tryd.underlying26 rfl rfl Tryd.sizeOf3 rfl) ?_; refine Wo (v := .int _ _) rfl (opv_load Tryd.isAgg3 rfl ((hB1.ext E2).cell rfl)) ?_; refine Wo rfl (opv_eql rfl rfl) ?_
          refine Wo_split_dec rfl (opv_move (v := .bool _) rfl) (fun h3 => ?_) (fun h3 => ?_); contradiction; refine Wo_skip rfl ?_; refine Wo rfl (opv_pick_f (v := .bool _) rfl rfl) ?_; refine Wo rfl (opv_move (v := .bool _) rfl) ?_
          refine Wo_skip rfl ?_; refine Wo_skip rfl ?_; refine Wo_skip rfl ?_; refine Wo rfl (opv_pick_f (v := .bool _) rfl rfl) ?_; refine Wo rfl (opv_assign (v := .bool _) rfl) ?_; refine Wo_nil ?_; refine W_cond_false rfl ?_
          refine W_seq ?_; refine W_region rfl ?_; refine Wo rfl (opv_fieldAddr Tryd.underlying26 rfl rfl Tryd.sizeOf3 rfl) ?_; refine Wo (v := .int _ _) rfl (opv_load Tryd.isAgg3 rfl ((hB1.ext E2).cell rfl)) ?_
          refine Wo rfl (opv_eql rfl rfl) ?_; refine Wo_split_dec rfl (opv_move (v := .bool _) rfl) (fun h4 => ?_) (fun h4 => ?_); contradiction; refine Wo_skip rfl ?_; refine Wo rfl (opv_pick_f (v := .bool _) rfl rfl) ?_
          refine Wo rfl (opv_move (v := .bool _) rfl) ?_; refine Wo_skip rfl ?_; refine Wo_skip rfl ?_; refine Wo_skip rfl ?_; refine Wo rfl (opv_pick_f (v := .bool _) rfl rfl) ?_; refine Wo rfl (opv_assign (v := .bool _) rfl) ?_
          refine Wo_nil ?_; refine W_cond_false rfl ?_; refine W_seq ?_; refine W_draw mixed (by kernel_rfl) rfl ?_; refine Wq_o rfl (fun _ _ => opv_fieldAddr Tryd.underlying26 rfl rfl Tryd.sizeOf3 rfl) ?_
          refine Wq_o (v := .int _ _) rfl (fun w' hw' => opv_load Tryd.isAgg3 rfl (((hB1.ext E2).ext hw').cell rfl)) ?_; refine Wq_o rfl (fun _ _ => opv_eql rfl rfl) ?_
          refine Wq_split_dec rfl (fun _ _ => opv_move (v := .bool _) rfl) (fun h5 => ?_) (fun h5 => ?_); contradiction; refine Wq_skip rfl ?_; refine Wq_skip rfl ?_; refine Wq_skip rfl ?_
          refine Wq_o rfl (fun _ _ => opv_pick_f (v := .bool _) rfl rfl) ?_; refine Wq_o rfl (fun _ _ => opv_move (v := .bool _) rfl) ?_; refine Wq_skip rfl ?_; refine Wq_skip rfl ?_; refine Wq_skip rfl ?_; refine Wq_skip rfl ?_
          refine Wq_skip rfl ?_; refine Wq_skip rfl ?_; refine Wq_o rfl (fun _ _ => opv_pick_f (v := .bool _) rfl rfl) ?_; refine Wq_o rfl (fun _ _ => opv_move (v := .bool _) rfl) ?_; refine Wq_skip rfl ?_; refine Wq_skip rfl ?_
          refine Wq_skip rfl ?_; refine Wq_skip rfl ?_; refine Wq_skip rfl ?_; refine Wq_skip rfl ?_; refine Wq_skip rfl ?_; refine Wq_skip rfl ?_; refine Wq_o rfl (fun _ _ => opv_pick_f (v := .bool _) rfl rfl) ?_
          refine Wq_o rfl (fun _ _ => opv_assign (v := .bool _) rfl) ?_; refine Wq_nil (fun w3 E3 => ?_); have hs3 := E3.size; refine W_cond_false rfl ?_; refine W_skip ?_; refine W_seq ?_; refine W_region rfl ?_
          refine Wo_lit0 (XSl 3 XInt) rfl el49 Tryd.sizeOf80 ?_; rintro b2 w4 hb2 b2lt E4 hO2; have hs4 := E4.size; refine Wo rfl (opv_assign (v := .slice _ _ _) rfl) ?_; refine Wo rfl (opv_assign (v := .bool _) rfl) ?_; refine Wo_nil ?_
          refine W_ret ?_; refine at_ret (v := .tuple #[.slice _ _ _, .bool _]) rfl ?_; exact ⟨_, rfl, (((E1.trans E2).trans E3).trans E4), hO2.toB.o.mono (by omega)⟩; contradiction
  by_cases e1 : k = 1
  · subst e1
    by_cases en : n = 0
    · subst en
      have hm : M = (rdP t).bind fun q => (pairV q 0 q 0).bind fun s => togV p 0 s 0 := hM.trans (by simp only [madeV]; rw [if_neg (fun h => absurd h.1 (by decide)), if_pos (by simp)])
      cases hr : rdP t with
      | none =>
        rw [hr] at hm hB hQ
        rw [hm, show og (none.bind fun q => (pairV q 0 q 0).bind fun s => togV p 0 s 0) = [] from rfl, show (none.bind fun q => (pairV q 0 q 0).bind fun s => togV p 0 s 0).isSome = false from rfl]
        rw [hB, show (none : Option (List (List Int))).isSome = false from rfl] at k0
        focus
          refine W_seq ?_; refine W_region rfl ?_; refine Wo_box rfl rfl rfl ?_; rintro b1 w1 hb1 E1 hB1; have hlb1 := hB1.lt; have hs1 := E1.size; refine Wo rfl (opv_assign (v := .slice _ _ _) rfl) ?_
          refine Wo rfl (opv_assign (v := .bool _) rfl) ?_; refine Wo_nil ?_; refine W_seq ?_; refine W_region rfl ?_; refine Wo rfl (opv_fieldAddr Tryd.underlying26 rfl rfl Tryd.sizeOf9 rfl) ?_
          refine Wo (v := .string _) rfl (opv_load Tryd.isAgg9 rfl (hB1.cell rfl)) ?_; refine Wo_call rfl (opc1 (a := .string _) Tryd.call41 rfl) (k0 _) ?_; rintro _ w2 ⟨u1, rfl, E2, hO1⟩; have hs2 := E2.size
          refine Wo rfl (opv_move (v := .tuple _) rfl) ?_; refine Wo rfl (opv_extract (v := u1) rfl rfl) ?_; refine Wo rfl (opv_extract (v := .bool _) rfl rfl) ?_; refine Wo rfl (opv_assign (v := u1) rfl) ?_
          refine Wo rfl (opv_assign (v := .bool _) rfl) ?_; refine Wo_nil ?_; refine W_seq ?_; refine W_block ?_; refine W_seq ?_; refine W_region rfl ?_; refine Wo rfl (opv_fieldAddr Tryd.underlying26 rfl rfl Tryd.sizeOf3 rfl) ?_
          refine Wo (v := .int _ _) rfl (opv_load Tryd.isAgg3 rfl ((hB1.ext E2).cell rfl)) ?_; refine Wo rfl (opv_eql rfl rfl) ?_; refine Wo_split_dec rfl (opv_move (v := .bool _) rfl) (fun h1 => ?_) (fun h1 => ?_); contradiction
          refine Wo_skip rfl ?_; refine Wo_skip rfl ?_; refine Wo_skip rfl ?_; refine Wo rfl (opv_pick_f (v := .bool _) rfl rfl) ?_; refine Wo rfl (opv_move (v := .bool _) rfl) ?_; refine Wo_skip rfl ?_; refine Wo_skip rfl ?_
          refine Wo_skip rfl ?_; refine Wo rfl (opv_pick_f (v := .bool _) rfl rfl) ?_; refine Wo rfl (opv_assign (v := .bool _) rfl) ?_; refine Wo_nil ?_; refine W_cond_false rfl ?_; refine W_seq ?_; refine W_region rfl ?_
          refine Wo rfl (opv_fieldAddr Tryd.underlying26 rfl rfl Tryd.sizeOf3 rfl) ?_; refine Wo (v := .int _ _) rfl (opv_load Tryd.isAgg3 rfl ((hB1.ext E2).cell rfl)) ?_; refine Wo rfl (opv_eql rfl rfl) ?_
          refine Wo_split_dec rfl (opv_move (v := .bool _) rfl) (fun h2 => ?_) (fun h2 => ?_); refine Wo rfl (opv_move (v := .bool _) rfl) ?_; refine Wo rfl (opv_pick_t (v := .bool _) rfl rfl) ?_
          refine Wo rfl (opv_move (v := .bool _) rfl) ?_; refine Wo_skip rfl ?_; refine Wo_skip rfl ?_; refine Wo_skip rfl ?_; refine Wo rfl (opv_pick_f (v := .bool _) rfl rfl) ?_; refine Wo rfl (opv_assign (v := .bool _) rfl) ?_
          refine Wo_nil ?_; refine W_cond_false rfl ?_; refine W_seq ?_; refine W_region rfl ?_; refine Wo rfl (opv_fieldAddr Tryd.underlying26 rfl rfl Tryd.sizeOf3 rfl) ?_
          refine Wo (v := .int _ _) rfl (opv_load Tryd.isAgg3 rfl ((hB1.ext E2).cell rfl)) ?_; refine Wo rfl (opv_eql rfl rfl) ?_; refine Wo_split_dec rfl (opv_move (v := .bool _) rfl) (fun h3 => ?_) (fun h3 => ?_); contradiction
          refine Wo_skip rfl ?_; refine Wo rfl (opv_pick_f (v := .bool _) rfl rfl) ?_; refine Wo rfl (opv_move (v := .bool _) rfl) ?_; refine Wo_skip rfl ?_; refine Wo_skip rfl ?_; refine Wo_skip rfl ?_
          refine Wo rfl (opv_pick_f (v := .bool _) rfl rfl) ?_; refine Wo rfl (opv_assign (v := .bool _) rfl) ?_; refine Wo_nil ?_; refine W_cond_false rfl ?_; refine W_seq ?_; refine W_draw mixed (by kernel_rfl) rfl ?_
          refine Wq_o rfl (fun _ _ => opv_fieldAddr Tryd.underlying26 rfl rfl Tryd.sizeOf3 rfl) ?_; refine Wq_o (v := .int _ _) rfl (fun w' hw' => opv_load Tryd.isAgg3 rfl (((hB1.ext E2).ext hw').cell rfl)) ?_
          refine Wq_o rfl (fun _ _ => opv_eql rfl rfl) ?_; refine Wq_split_dec rfl (fun _ _ => opv_move (v := .bool _) rfl) (fun h4 => ?_) (fun h4 => ?_); contradiction; refine Wq_skip rfl ?_; refine Wq_skip rfl ?_; refine Wq_skip rfl ?_
          refine Wq_o rfl (fun _ _ => opv_pick_f (v := .bool _) rfl rfl) ?_; refine Wq_o rfl (fun _ _ => opv_move (v := .bool _) rfl) ?_; refine Wq_skip rfl ?_; refine Wq_skip rfl ?_; refine Wq_skip rfl ?_; refine Wq_skip rfl ?_
          refine Wq_skip rfl ?_; refine Wq_skip rfl ?_; refine Wq_o rfl (fun _ _ => opv_pick_f (v := .bool _) rfl rfl) ?_; refine Wq_o rfl (fun _ _ => opv_move (v := .bool _) rfl) ?_; refine Wq_skip rfl ?_; refine Wq_skip rfl ?_
          refine Wq_skip rfl ?_; refine Wq_skip rfl ?_; refine Wq_skip rfl ?_; refine Wq_skip rfl ?_; refine Wq_skip rfl ?_; refine Wq_skip rfl ?_; refine Wq_o rfl (fun _ _ => opv_pick_f (v := .bool _) rfl rfl) ?_
          refine Wq_o rfl (fun _ _ => opv_assign (v := .bool _) rfl) ?_; refine Wq_nil (fun w3 E3 => ?_); have hs3 := E3.size; refine W_cond_false rfl ?_; refine W_skip ?_; refine W_seq ?_; refine W_region rfl ?_
          refine Wo_lit0 (XSl 3 XInt) rfl el49 Tryd.sizeOf80 ?_; rintro b2 w4 hb2 b2lt E4 hO2; have hs4 := E4.size; refine Wo rfl (opv_assign (v := .slice _ _ _) rfl) ?_; refine Wo rfl (opv_assign (v := .bool _) rfl) ?_; refine Wo_nil ?_
          refine W_ret ?_; refine at_ret (v := .tuple #[.slice _ _ _, .bool _]) rfl ?_; exact ⟨_, rfl, (((E1.trans E2).trans E3).trans E4), hO2.toB.o.mono (by omega)⟩; contradiction
      | some q =>
        rw [hr] at hm hB hQ
        rw [hB, hQ, show (some q).isSome = true from rfl, show (some q).getD [] = q from rfl] at k0
        have hq := (rdP_some hr).1
        have hNq : Nod q (0 : Nat) := ⟨hq, by decide, by have := hq.1; omega⟩
        have k1 : ∀ (w : World) (v u : Value), ESl Ints w v q → ESl Ints w u q → Does Tryd.prog 116 [v, .int .i64 0, u, .int .i64 0] w (RetOB w XR (og (pairV q 0 q 0)) (pairV q 0 q 0).isSome) := fun w v u h1 h2 => PairOf_ok w v u q q h1 h2 0 0 hNq hNq
        rw [hm, show ((some q).bind fun q => (pairV q 0 q 0).bind fun s => togV p 0 s 0) = (pairV q 0 q 0).bind fun s => togV p 0 s 0 from rfl]
        cases hs : pairV q 0 q 0 with
        | none =>
          rw [hs] at k1
          rw [show (none.bind fun s => togV p 0 s 0) = none from rfl]
          rw [show og none = [] from rfl, show (none : Option (List (List Int))).isSome = false from rfl] at k1 ⊢
          focus
            refine W_seq ?_; refine W_region rfl ?_; refine Wo_box rfl rfl rfl ?_; rintro b1 w1 hb1 E1 hB1; have hlb1 := hB1.lt; have hs1 := E1.size; refine Wo rfl (opv_assign (v := .slice _ _ _) rfl) ?_
            refine Wo rfl (opv_assign (v := .bool _) rfl) ?_; refine Wo_nil ?_; refine W_seq ?_; refine W_region rfl ?_; refine Wo rfl (opv_fieldAddr Tryd.underlying26 rfl rfl Tryd.sizeOf9 rfl) ?_
            refine Wo (v := .string _) rfl (opv_load Tryd.isAgg9 rfl (hB1.cell rfl)) ?_; refine Wo_call rfl (opc1 (a := .string _) Tryd.call41 rfl) (k0 _) ?_; rintro _ w2 ⟨u1, rfl, E2, hO1⟩; have hs2 := E2.size
            refine Wo rfl (opv_move (v := .tuple _) rfl) ?_; refine Wo rfl (opv_extract (v := u1) rfl rfl) ?_; refine Wo rfl (opv_extract (v := .bool _) rfl rfl) ?_; refine Wo rfl (opv_assign (v := u1) rfl) ?_
            refine Wo rfl (opv_assign (v := .bool _) rfl) ?_; refine Wo_nil ?_; refine W_seq ?_; refine W_block ?_; refine W_seq ?_; refine W_region rfl ?_; refine Wo rfl (opv_fieldAddr Tryd.underlying26 rfl rfl Tryd.sizeOf3 rfl) ?_
            refine Wo (v := .int _ _) rfl (opv_load Tryd.isAgg3 rfl ((hB1.ext E2).cell rfl)) ?_; refine Wo rfl (opv_eql rfl rfl) ?_; refine Wo_split_dec rfl (opv_move (v := .bool _) rfl) (fun h1 => ?_) (fun h1 => ?_); contradiction
            refine Wo_skip rfl ?_; refine Wo_skip rfl ?_; refine Wo_skip rfl ?_; refine Wo rfl (opv_pick_f (v := .bool _) rfl rfl) ?_; refine Wo rfl (opv_move (v := .bool _) rfl) ?_; refine Wo_skip rfl ?_; refine Wo_skip rfl ?_
            refine Wo_skip rfl ?_; refine Wo rfl (opv_pick_f (v := .bool _) rfl rfl) ?_; refine Wo rfl (opv_assign (v := .bool _) rfl) ?_; refine Wo_nil ?_; refine W_cond_false rfl ?_; refine W_seq ?_; refine W_region rfl ?_
            refine Wo rfl (opv_fieldAddr Tryd.underlying26 rfl rfl Tryd.sizeOf3 rfl) ?_; refine Wo (v := .int _ _) rfl (opv_load Tryd.isAgg3 rfl ((hB1.ext E2).cell rfl)) ?_; refine Wo rfl (opv_eql rfl rfl) ?_
            refine Wo_split_dec rfl (opv_move (v := .bool _) rfl) (fun h2 => ?_) (fun h2 => ?_); refine Wo rfl (opv_move (v := .bool _) rfl) ?_; refine Wo rfl (opv_pick_t (v := .bool _) rfl rfl) ?_
            refine Wo rfl (opv_move (v := .bool _) rfl) ?_; refine Wo rfl (opv_fieldAddr Tryd.underlying26 rfl rfl Tryd.sizeOf3 rfl) ?_; refine Wo (v := .int _ _) rfl (opv_load Tryd.isAgg3 rfl ((hB1.ext E2).cell rfl)) ?_
            refine Wo rfl (opv_eql rfl rfl) ?_; refine Wo rfl (opv_pick_t (v := .bool _) rfl rfl) ?_; refine Wo rfl (opv_assign (v := .bool _) rfl) ?_; refine Wo_nil ?_; refine W_cond_dec rfl (fun h3 => ?_) (fun h3 => ?_); refine W_seq ?_
            refine W_region rfl ?_; refine Wo rfl (opv_move (v := u1) rfl) ?_; refine Wo rfl (opv_move (v := u1) rfl) ?_
            refine Wo_call rfl (opc4 (a := u1) (b := .int _ _) (c := u1) (d := .int _ _) Tryd.call116 rfl rfl rfl rfl) (k1 _ _ _ ((Owned.read hO1)) ((Owned.read hO1))) ?_; rintro _ w3 ⟨u2, rfl, E3, hO2⟩; have hs3 := E3.size
            refine Wo rfl (opv_move (v := .tuple _) rfl) ?_; refine Wo rfl (opv_extract (v := u2) rfl rfl) ?_; refine Wo rfl (opv_extract (v := .bool _) rfl rfl) ?_; refine Wo rfl (opv_assign (v := u2) rfl) ?_
            refine Wo rfl (opv_assign (v := .bool _) rfl) ?_; refine Wo_nil ?_; refine W_seq ?_; refine W_seq ?_; refine W_region rfl ?_; refine Wo rfl (opv_move (v := .bool _) rfl) ?_; refine Wo rfl (opv_not rfl) ?_; refine Wo_nil ?_
            refine W_cond rfl (fun h4 => ?_) (fun h4 => ?_); refine W_seq ?_; refine W_region rfl ?_; refine Wo_lit0 (XSl 3 XInt) rfl el49 Tryd.sizeOf80 ?_; rintro b2 w4 hb2 b2lt E4 hO3; have hs4 := E4.size
            refine Wo rfl (opv_assign (v := .slice _ _ _) rfl) ?_; refine Wo rfl (opv_assign (v := .bool _) rfl) ?_; refine Wo_nil ?_; refine W_ret ?_; refine at_ret (v := .tuple #[.slice _ _ _, .bool _]) rfl ?_
            exact ⟨_, rfl, (((E1.trans E2).trans E3).trans E4), hO3.toB.o.mono (by omega)⟩; contradiction; contradiction; contradiction
        | some s =>
          rw [hs] at k1
          rw [show ((some s).bind fun s => togV p 0 s 0) = togV p 0 s 0 from rfl]
          rw [show og (some s) = s from rfl, show (some s).isSome = true from rfl] at k1
          have hsp := (pairV_some hq hq hs).1
          have hNs : Nod s (0 : Nat) := ⟨hsp, by decide, by have := hsp.1; omega⟩
          have k2 : ∀ (w : World) (v u : Value), ESl Ints w v p → ESl Ints w u s → Does Tryd.prog 117 [v, .int .i64 0, u, .int .i64 0] w (RetOB w XR (og (togV p 0 s 0)) (togV p 0 s 0).isSome) := fun w v u h1 h2 => TogetherOf_ok w v u p s h1 h2 0 0 hN hNs
          focus
            refine W_seq ?_; refine W_region rfl ?_; refine Wo_box rfl rfl rfl ?_; rintro b1 w1 hb1 E1 hB1; have hlb1 := hB1.lt; have hs1 := E1.size; refine Wo rfl (opv_assign (v := .slice _ _ _) rfl) ?_
            refine Wo rfl (opv_assign (v := .bool _) rfl) ?_; refine Wo_nil ?_; refine W_seq ?_; refine W_region rfl ?_; refine Wo rfl (opv_fieldAddr Tryd.underlying26 rfl rfl Tryd.sizeOf9 rfl) ?_
            refine Wo (v := .string _) rfl (opv_load Tryd.isAgg9 rfl (hB1.cell rfl)) ?_; refine Wo_call rfl (opc1 (a := .string _) Tryd.call41 rfl) (k0 _) ?_; rintro _ w2 ⟨u1, rfl, E2, hO1⟩; have hs2 := E2.size
            refine Wo rfl (opv_move (v := .tuple _) rfl) ?_; refine Wo rfl (opv_extract (v := u1) rfl rfl) ?_; refine Wo rfl (opv_extract (v := .bool _) rfl rfl) ?_; refine Wo rfl (opv_assign (v := u1) rfl) ?_
            refine Wo rfl (opv_assign (v := .bool _) rfl) ?_; refine Wo_nil ?_; refine W_seq ?_; refine W_block ?_; refine W_seq ?_; refine W_region rfl ?_; refine Wo rfl (opv_fieldAddr Tryd.underlying26 rfl rfl Tryd.sizeOf3 rfl) ?_
            refine Wo (v := .int _ _) rfl (opv_load Tryd.isAgg3 rfl ((hB1.ext E2).cell rfl)) ?_; refine Wo rfl (opv_eql rfl rfl) ?_; refine Wo_split_dec rfl (opv_move (v := .bool _) rfl) (fun h1 => ?_) (fun h1 => ?_); contradiction
            refine Wo_skip rfl ?_; refine Wo_skip rfl ?_; refine Wo_skip rfl ?_; refine Wo rfl (opv_pick_f (v := .bool _) rfl rfl) ?_; refine Wo rfl (opv_move (v := .bool _) rfl) ?_; refine Wo_skip rfl ?_; refine Wo_skip rfl ?_
            refine Wo_skip rfl ?_; refine Wo rfl (opv_pick_f (v := .bool _) rfl rfl) ?_; refine Wo rfl (opv_assign (v := .bool _) rfl) ?_; refine Wo_nil ?_; refine W_cond_false rfl ?_; refine W_seq ?_; refine W_region rfl ?_
            refine Wo rfl (opv_fieldAddr Tryd.underlying26 rfl rfl Tryd.sizeOf3 rfl) ?_; refine Wo (v := .int _ _) rfl (opv_load Tryd.isAgg3 rfl ((hB1.ext E2).cell rfl)) ?_; refine Wo rfl (opv_eql rfl rfl) ?_
            refine Wo_split_dec rfl (opv_move (v := .bool _) rfl) (fun h2 => ?_) (fun h2 => ?_); refine Wo rfl (opv_move (v := .bool _) rfl) ?_; refine Wo rfl (opv_pick_t (v := .bool _) rfl rfl) ?_
            refine Wo rfl (opv_move (v := .bool _) rfl) ?_; refine Wo rfl (opv_fieldAddr Tryd.underlying26 rfl rfl Tryd.sizeOf3 rfl) ?_; refine Wo (v := .int _ _) rfl (opv_load Tryd.isAgg3 rfl ((hB1.ext E2).cell rfl)) ?_
            refine Wo rfl (opv_eql rfl rfl) ?_; refine Wo rfl (opv_pick_t (v := .bool _) rfl rfl) ?_; refine Wo rfl (opv_assign (v := .bool _) rfl) ?_; refine Wo_nil ?_; refine W_cond_dec rfl (fun h3 => ?_) (fun h3 => ?_); refine W_seq ?_
            refine W_region rfl ?_; refine Wo rfl (opv_move (v := u1) rfl) ?_; refine Wo rfl (opv_move (v := u1) rfl) ?_
            refine Wo_call rfl (opc4 (a := u1) (b := .int _ _) (c := u1) (d := .int _ _) Tryd.call116 rfl rfl rfl rfl) (k1 _ _ _ ((Owned.read hO1)) ((Owned.read hO1))) ?_; rintro _ w3 ⟨u2, rfl, E3, hO2⟩; have hs3 := E3.size
            refine Wo rfl (opv_move (v := .tuple _) rfl) ?_; refine Wo rfl (opv_extract (v := u2) rfl rfl) ?_; refine Wo rfl (opv_extract (v := .bool _) rfl rfl) ?_; refine Wo rfl (opv_assign (v := u2) rfl) ?_
            refine Wo rfl (opv_assign (v := .bool _) rfl) ?_; refine Wo_nil ?_; refine W_seq ?_; refine W_seq ?_; refine W_region rfl ?_; refine Wo rfl (opv_move (v := .bool _) rfl) ?_; refine Wo rfl (opv_not rfl) ?_; refine Wo_nil ?_
            refine W_cond rfl (fun h4 => ?_) (fun h4 => ?_); contradiction; refine W_skip ?_; refine W_seq ?_; refine W_region rfl ?_; refine Wo rfl (opv_move (v := v) rfl) ?_; refine Wo rfl (opv_move (v := u2) rfl) ?_
            refine Wo_call rfl (opc4 (a := v) (b := .int _ _) (c := u2) (d := .int _ _) Tryd.call117 rfl rfl rfl rfl) (k2 _ _ _ ((Mono.mono ((E1.trans E2).trans E3) h)) ((Owned.read hO2))) ?_; rintro _ w4 ⟨u3, rfl, E4, hO3⟩; have hs4 := E4.size
            refine Wo rfl (opv_extract (v := u3) rfl rfl) ?_; refine Wo rfl (opv_extract (v := .bool _) rfl rfl) ?_; refine Wo rfl (opv_assign (v := u3) rfl) ?_; refine Wo rfl (opv_assign (v := .bool _) rfl) ?_; refine Wo_nil ?_
            refine W_ret ?_; refine at_ret (v := .tuple #[u3, .bool _]) rfl ?_; exact ⟨_, rfl, (((E1.trans E2).trans E3).trans E4), hO3.toB.o.mono (by omega)⟩; contradiction; contradiction
    · have hm : M = none := hM.trans (by simp only [madeV]; rw [if_neg (fun h => absurd h.1 (by decide)), if_neg (fun h => en h.2), if_neg (fun h => absurd h.1 (by decide)), if_neg (fun h => absurd h.1 (by decide))])
      rw [hm, show og none = [] from rfl, show (none : Option (List (List Int))).isSome = false from rfl]
      cases B
      · focus
          refine W_seq ?_; refine W_region rfl ?_; refine Wo_box rfl rfl rfl ?_; rintro b1 w1 hb1 E1 hB1; have hlb1 := hB1.lt; have hs1 := E1.size; refine Wo rfl (opv_assign (v := .slice _ _ _) rfl) ?_
          refine Wo rfl (opv_assign (v := .bool _) rfl) ?_; refine Wo_nil ?_; refine W_seq ?_; refine W_region rfl ?_; refine Wo rfl (opv_fieldAddr Tryd.underlying26 rfl rfl Tryd.sizeOf9 rfl) ?_
          refine Wo (v := .string _) rfl (opv_load Tryd.isAgg9 rfl (hB1.cell rfl)) ?_; refine Wo_call rfl (opc1 (a := .string _) Tryd.call41 rfl) (k0 _) ?_; rintro _ w2 ⟨u1, rfl, E2, hO1⟩; have hs2 := E2.size
          refine Wo rfl (opv_move (v := .tuple _) rfl) ?_; refine Wo rfl (opv_extract (v := u1) rfl rfl) ?_; refine Wo rfl (opv_extract (v := .bool _) rfl rfl) ?_; refine Wo rfl (opv_assign (v := u1) rfl) ?_
          refine Wo rfl (opv_assign (v := .bool _) rfl) ?_; refine Wo_nil ?_; refine W_seq ?_; refine W_block ?_; refine W_seq ?_; refine W_region rfl ?_; refine Wo rfl (opv_fieldAddr Tryd.underlying26 rfl rfl Tryd.sizeOf3 rfl) ?_
          refine Wo (v := .int _ _) rfl (opv_load Tryd.isAgg3 rfl ((hB1.ext E2).cell rfl)) ?_; refine Wo rfl (opv_eql rfl rfl) ?_; refine Wo_split_dec rfl (opv_move (v := .bool _) rfl) (fun h1 => ?_) (fun h1 => ?_); contradiction
          refine Wo_skip rfl ?_; refine Wo_skip rfl ?_; refine Wo_skip rfl ?_; refine Wo rfl (opv_pick_f (v := .bool _) rfl rfl) ?_; refine Wo rfl (opv_move (v := .bool _) rfl) ?_; refine Wo_skip rfl ?_; refine Wo_skip rfl ?_
          refine Wo_skip rfl ?_; refine Wo rfl (opv_pick_f (v := .bool _) rfl rfl) ?_; refine Wo rfl (opv_assign (v := .bool _) rfl) ?_; refine Wo_nil ?_; refine W_cond_false rfl ?_; refine W_seq ?_; refine W_region rfl ?_
          refine Wo rfl (opv_fieldAddr Tryd.underlying26 rfl rfl Tryd.sizeOf3 rfl) ?_; refine Wo (v := .int _ _) rfl (opv_load Tryd.isAgg3 rfl ((hB1.ext E2).cell rfl)) ?_; refine Wo rfl (opv_eql rfl rfl) ?_
          refine Wo_split_dec rfl (opv_move (v := .bool _) rfl) (fun h2 => ?_) (fun h2 => ?_); refine Wo rfl (opv_move (v := .bool _) rfl) ?_; refine Wo rfl (opv_pick_t (v := .bool _) rfl rfl) ?_
          refine Wo rfl (opv_move (v := .bool _) rfl) ?_; refine Wo_skip rfl ?_; refine Wo_skip rfl ?_; refine Wo_skip rfl ?_; refine Wo rfl (opv_pick_f (v := .bool _) rfl rfl) ?_; refine Wo rfl (opv_assign (v := .bool _) rfl) ?_
          refine Wo_nil ?_; refine W_cond_false rfl ?_; refine W_seq ?_; refine W_region rfl ?_; refine Wo rfl (opv_fieldAddr Tryd.underlying26 rfl rfl Tryd.sizeOf3 rfl) ?_
          refine Wo (v := .int _ _) rfl (opv_load Tryd.isAgg3 rfl ((hB1.ext E2).cell rfl)) ?_; refine Wo rfl (opv_eql rfl rfl) ?_; refine Wo_split_dec rfl (opv_move (v := .bool _) rfl) (fun h3 => ?_) (fun h3 => ?_); contradiction
          refine Wo_skip rfl ?_; refine Wo rfl (opv_pick_f (v := .bool _) rfl rfl) ?_; refine Wo rfl (opv_move (v := .bool _) rfl) ?_; refine Wo_skip rfl ?_; refine Wo_skip rfl ?_; refine Wo_skip rfl ?_
          refine Wo rfl (opv_pick_f (v := .bool _) rfl rfl) ?_; refine Wo rfl (opv_assign (v := .bool _) rfl) ?_; refine Wo_nil ?_; refine W_cond_false rfl ?_; refine W_seq ?_; refine W_draw mixed (by kernel_rfl) rfl ?_
          refine Wq_o rfl (fun _ _ => opv_fieldAddr Tryd.underlying26 rfl rfl Tryd.sizeOf3 rfl) ?_; refine Wq_o (v := .int _ _) rfl (fun w' hw' => opv_load Tryd.isAgg3 rfl (((hB1.ext E2).ext hw').cell rfl)) ?_
          refine Wq_o rfl (fun _ _ => opv_eql rfl rfl) ?_; refine Wq_split_dec rfl (fun _ _ => opv_move (v := .bool _) rfl) (fun h4 => ?_) (fun h4 => ?_); contradiction; refine Wq_skip rfl ?_; refine Wq_skip rfl ?_; refine Wq_skip rfl ?_
          refine Wq_o rfl (fun _ _ => opv_pick_f (v := .bool _) rfl rfl) ?_; refine Wq_o rfl (fun _ _ => opv_move (v := .bool _) rfl) ?_; refine Wq_skip rfl ?_; refine Wq_skip rfl ?_; refine Wq_skip rfl ?_; refine Wq_skip rfl ?_
          refine Wq_skip rfl ?_; refine Wq_skip rfl ?_; refine Wq_o rfl (fun _ _ => opv_pick_f (v := .bool _) rfl rfl) ?_; refine Wq_o rfl (fun _ _ => opv_move (v := .bool _) rfl) ?_; refine Wq_skip rfl ?_; refine Wq_skip rfl ?_
          refine Wq_skip rfl ?_; refine Wq_skip rfl ?_; refine Wq_skip rfl ?_; refine Wq_skip rfl ?_; refine Wq_skip rfl ?_; refine Wq_skip rfl ?_; refine Wq_o rfl (fun _ _ => opv_pick_f (v := .bool _) rfl rfl) ?_
          refine Wq_o rfl (fun _ _ => opv_assign (v := .bool _) rfl) ?_; refine Wq_nil (fun w3 E3 => ?_); have hs3 := E3.size; refine W_cond_false rfl ?_; refine W_skip ?_; refine W_seq ?_; refine W_region rfl ?_
          refine Wo_lit0 (XSl 3 XInt) rfl el49 Tryd.sizeOf80 ?_; rintro b2 w4 hb2 b2lt E4 hO2; have hs4 := E4.size; refine Wo rfl (opv_assign (v := .slice _ _ _) rfl) ?_; refine Wo rfl (opv_assign (v := .bool _) rfl) ?_; refine Wo_nil ?_
          refine W_ret ?_; refine at_ret (v := .tuple #[.slice _ _ _, .bool _]) rfl ?_; exact ⟨_, rfl, (((E1.trans E2).trans E3).trans E4), hO2.toB.o.mono (by omega)⟩; contradiction
      · focus
          refine W_seq ?_; refine W_region rfl ?_; refine Wo_box rfl rfl rfl ?_; rintro b1 w1 hb1 E1 hB1; have hlb1 := hB1.lt; have hs1 := E1.size; refine Wo rfl (opv_assign (v := .slice _ _ _) rfl) ?_
          refine Wo rfl (opv_assign (v := .bool _) rfl) ?_; refine Wo_nil ?_; refine W_seq ?_; refine W_region rfl ?_; refine Wo rfl (opv_fieldAddr Tryd.underlying26 rfl rfl Tryd.sizeOf9 rfl) ?_
          refine Wo (v := .string _) rfl (opv_load Tryd.isAgg9 rfl (hB1.cell rfl)) ?_; refine Wo_call rfl (opc1 (a := .string _) Tryd.call41 rfl) (k0 _) ?_; rintro _ w2 ⟨u1, rfl, E2, hO1⟩; have hs2 := E2.size
          refine Wo rfl (opv_move (v := .tuple _) rfl) ?_; refine Wo rfl (opv_extract (v := u1) rfl rfl) ?_; refine Wo rfl (opv_extract (v := .bool _) rfl rfl) ?_; refine Wo rfl (opv_assign (v := u1) rfl) ?_
          refine Wo rfl (opv_assign (v := .bool _) rfl) ?_; refine Wo_nil ?_; refine W_seq ?_; refine W_block ?_; refine W_seq ?_; refine W_region rfl ?_; refine Wo rfl (opv_fieldAddr Tryd.underlying26 rfl rfl Tryd.sizeOf3 rfl) ?_
          refine Wo (v := .int _ _) rfl (opv_load Tryd.isAgg3 rfl ((hB1.ext E2).cell rfl)) ?_; refine Wo rfl (opv_eql rfl rfl) ?_; refine Wo_split_dec rfl (opv_move (v := .bool _) rfl) (fun h1 => ?_) (fun h1 => ?_); contradiction
          refine Wo_skip rfl ?_; refine Wo_skip rfl ?_; refine Wo_skip rfl ?_; refine Wo rfl (opv_pick_f (v := .bool _) rfl rfl) ?_; refine Wo rfl (opv_move (v := .bool _) rfl) ?_; refine Wo_skip rfl ?_; refine Wo_skip rfl ?_
          refine Wo_skip rfl ?_; refine Wo rfl (opv_pick_f (v := .bool _) rfl rfl) ?_; refine Wo rfl (opv_assign (v := .bool _) rfl) ?_; refine Wo_nil ?_; refine W_cond_false rfl ?_; refine W_seq ?_; refine W_region rfl ?_
          refine Wo rfl (opv_fieldAddr Tryd.underlying26 rfl rfl Tryd.sizeOf3 rfl) ?_; refine Wo (v := .int _ _) rfl (opv_load Tryd.isAgg3 rfl ((hB1.ext E2).cell rfl)) ?_; refine Wo rfl (opv_eql rfl rfl) ?_
          refine Wo_split_dec rfl (opv_move (v := .bool _) rfl) (fun h2 => ?_) (fun h2 => ?_); refine Wo rfl (opv_move (v := .bool _) rfl) ?_; refine Wo rfl (opv_pick_t (v := .bool _) rfl rfl) ?_
          refine Wo rfl (opv_move (v := .bool _) rfl) ?_; refine Wo rfl (opv_fieldAddr Tryd.underlying26 rfl rfl Tryd.sizeOf3 rfl) ?_; refine Wo (v := .int _ _) rfl (opv_load Tryd.isAgg3 rfl ((hB1.ext E2).cell rfl)) ?_
          refine Wo rfl (opv_eql rfl rfl) ?_; refine Wo rfl (opv_pick_t (v := .bool _) rfl rfl) ?_; refine Wo rfl (opv_assign (v := .bool _) rfl) ?_; refine Wo_nil ?_; refine W_cond_dec rfl (fun h3 => ?_) (fun h3 => ?_); contradiction
          refine W_seq ?_; refine W_region rfl ?_; refine Wo rfl (opv_fieldAddr Tryd.underlying26 rfl rfl Tryd.sizeOf3 rfl) ?_; refine Wo (v := .int _ _) rfl (opv_load Tryd.isAgg3 rfl ((hB1.ext E2).cell rfl)) ?_
          refine Wo rfl (opv_eql rfl rfl) ?_; refine Wo_split_dec rfl (opv_move (v := .bool _) rfl) (fun h4 => ?_) (fun h4 => ?_); contradiction; refine Wo_skip rfl ?_; refine Wo rfl (opv_pick_f (v := .bool _) rfl rfl) ?_
          refine Wo rfl (opv_move (v := .bool _) rfl) ?_; refine Wo_skip rfl ?_; refine Wo_skip rfl ?_; refine Wo_skip rfl ?_; refine Wo rfl (opv_pick_f (v := .bool _) rfl rfl) ?_; refine Wo rfl (opv_assign (v := .bool _) rfl) ?_
          refine Wo_nil ?_; refine W_cond_false rfl ?_; refine W_seq ?_; refine W_draw mixed (by kernel_rfl) rfl ?_; refine Wq_o rfl (fun _ _ => opv_fieldAddr Tryd.underlying26 rfl rfl Tryd.sizeOf3 rfl) ?_
          refine Wq_o (v := .int _ _) rfl (fun w' hw' => opv_load Tryd.isAgg3 rfl (((hB1.ext E2).ext hw').cell rfl)) ?_; refine Wq_o rfl (fun _ _ => opv_eql rfl rfl) ?_
          refine Wq_split_dec rfl (fun _ _ => opv_move (v := .bool _) rfl) (fun h5 => ?_) (fun h5 => ?_); contradiction; refine Wq_skip rfl ?_; refine Wq_skip rfl ?_; refine Wq_skip rfl ?_
          refine Wq_o rfl (fun _ _ => opv_pick_f (v := .bool _) rfl rfl) ?_; refine Wq_o rfl (fun _ _ => opv_move (v := .bool _) rfl) ?_; refine Wq_skip rfl ?_; refine Wq_skip rfl ?_; refine Wq_skip rfl ?_; refine Wq_skip rfl ?_
          refine Wq_skip rfl ?_; refine Wq_skip rfl ?_; refine Wq_o rfl (fun _ _ => opv_pick_f (v := .bool _) rfl rfl) ?_; refine Wq_o rfl (fun _ _ => opv_move (v := .bool _) rfl) ?_; refine Wq_skip rfl ?_; refine Wq_skip rfl ?_
          refine Wq_skip rfl ?_; refine Wq_skip rfl ?_; refine Wq_skip rfl ?_; refine Wq_skip rfl ?_; refine Wq_skip rfl ?_; refine Wq_skip rfl ?_; refine Wq_o rfl (fun _ _ => opv_pick_f (v := .bool _) rfl rfl) ?_
          refine Wq_o rfl (fun _ _ => opv_assign (v := .bool _) rfl) ?_; refine Wq_nil (fun w3 E3 => ?_); have hs3 := E3.size; refine W_cond_false rfl ?_; refine W_skip ?_; refine W_seq ?_; refine W_region rfl ?_
          refine Wo_lit0 (XSl 3 XInt) rfl el49 Tryd.sizeOf80 ?_; rintro b2 w4 hb2 b2lt E4 hO2; have hs4 := E4.size; refine Wo rfl (opv_assign (v := .slice _ _ _) rfl) ?_; refine Wo rfl (opv_assign (v := .bool _) rfl) ?_; refine Wo_nil ?_
          refine W_ret ?_; refine at_ret (v := .tuple #[.slice _ _ _, .bool _]) rfl ?_; exact ⟨_, rfl, (((E1.trans E2).trans E3).trans E4), hO2.toB.o.mono (by omega)⟩; contradiction
  by_cases e2 : k = 2
  · subst e2
    by_cases en : n = 0
    · subst en
      have hm : M = (rdP t).bind fun q => wosV p 0 q 0 := hM.trans (by simp only [madeV]; rw [if_neg (fun h => absurd h.1 (by decide)), if_neg (fun h => absurd h.1 (by decide)), if_pos (by simp)])
      cases hr : rdP t with
      | none =>
        rw [hr] at hm hB hQ
        rw [hm, show og (none.bind fun q => wosV p 0 q 0) = [] from rfl, show (none.bind fun q => wosV p 0 q 0).isSome = false from rfl]
        rw [hB, show (none : Option (List (List Int))).isSome = false from rfl] at k0
        focus
          refine W_seq ?_; refine W_region rfl ?_; refine Wo_box rfl rfl rfl ?_; rintro b1 w1 hb1 E1 hB1; have hlb1 := hB1.lt; have hs1 := E1.size; refine Wo rfl (opv_assign (v := .slice _ _ _) rfl) ?_
          refine Wo rfl (opv_assign (v := .bool _) rfl) ?_; refine Wo_nil ?_; refine W_seq ?_; refine W_region rfl ?_; refine Wo rfl (opv_fieldAddr Tryd.underlying26 rfl rfl Tryd.sizeOf9 rfl) ?_
          refine Wo (v := .string _) rfl (opv_load Tryd.isAgg9 rfl (hB1.cell rfl)) ?_; refine Wo_call rfl (opc1 (a := .string _) Tryd.call41 rfl) (k0 _) ?_; rintro _ w2 ⟨u1, rfl, E2, hO1⟩; have hs2 := E2.size
          refine Wo rfl (opv_move (v := .tuple _) rfl) ?_; refine Wo rfl (opv_extract (v := u1) rfl rfl) ?_; refine Wo rfl (opv_extract (v := .bool _) rfl rfl) ?_; refine Wo rfl (opv_assign (v := u1) rfl) ?_
          refine Wo rfl (opv_assign (v := .bool _) rfl) ?_; refine Wo_nil ?_; refine W_seq ?_; refine W_block ?_; refine W_seq ?_; refine W_region rfl ?_; refine Wo rfl (opv_fieldAddr Tryd.underlying26 rfl rfl Tryd.sizeOf3 rfl) ?_
          refine Wo (v := .int _ _) rfl (opv_load Tryd.isAgg3 rfl ((hB1.ext E2).cell rfl)) ?_; refine Wo rfl (opv_eql rfl rfl) ?_; refine Wo_split_dec rfl (opv_move (v := .bool _) rfl) (fun h1 => ?_) (fun h1 => ?_); contradiction
          refine Wo_skip rfl ?_; refine Wo_skip rfl ?_; refine Wo_skip rfl ?_; refine Wo rfl (opv_pick_f (v := .bool _) rfl rfl) ?_; refine Wo rfl (opv_move (v := .bool _) rfl) ?_; refine Wo_skip rfl ?_; refine Wo_skip rfl ?_
          refine Wo_skip rfl ?_; refine Wo rfl (opv_pick_f (v := .bool _) rfl rfl) ?_; refine Wo rfl (opv_assign (v := .bool _) rfl) ?_; refine Wo_nil ?_; refine W_cond_false rfl ?_; refine W_seq ?_; refine W_region rfl ?_
          refine Wo rfl (opv_fieldAddr Tryd.underlying26 rfl rfl Tryd.sizeOf3 rfl) ?_; refine Wo (v := .int _ _) rfl (opv_load Tryd.isAgg3 rfl ((hB1.ext E2).cell rfl)) ?_; refine Wo rfl (opv_eql rfl rfl) ?_
          refine Wo_split_dec rfl (opv_move (v := .bool _) rfl) (fun h2 => ?_) (fun h2 => ?_); contradiction; refine Wo_skip rfl ?_; refine Wo rfl (opv_pick_f (v := .bool _) rfl rfl) ?_; refine Wo rfl (opv_move (v := .bool _) rfl) ?_
          refine Wo_skip rfl ?_; refine Wo_skip rfl ?_; refine Wo_skip rfl ?_; refine Wo rfl (opv_pick_f (v := .bool _) rfl rfl) ?_; refine Wo rfl (opv_assign (v := .bool _) rfl) ?_; refine Wo_nil ?_; refine W_cond_false rfl ?_
          refine W_seq ?_; refine W_region rfl ?_; refine Wo rfl (opv_fieldAddr Tryd.underlying26 rfl rfl Tryd.sizeOf3 rfl) ?_; refine Wo (v := .int _ _) rfl (opv_load Tryd.isAgg3 rfl ((hB1.ext E2).cell rfl)) ?_
          refine Wo rfl (opv_eql rfl rfl) ?_; refine Wo_split_dec rfl (opv_move (v := .bool _) rfl) (fun h3 => ?_) (fun h3 => ?_); refine Wo rfl (opv_move (v := .bool _) rfl) ?_; refine Wo rfl (opv_pick_t (v := .bool _) rfl rfl) ?_
          refine Wo rfl (opv_move (v := .bool _) rfl) ?_; refine Wo_skip rfl ?_; refine Wo_skip rfl ?_; refine Wo_skip rfl ?_; refine Wo rfl (opv_pick_f (v := .bool _) rfl rfl) ?_; refine Wo rfl (opv_assign (v := .bool _) rfl) ?_
          refine Wo_nil ?_; refine W_cond_false rfl ?_; refine W_seq ?_; refine W_draw mixed (by kernel_rfl) rfl ?_; refine Wq_o rfl (fun _ _ => opv_fieldAddr Tryd.underlying26 rfl rfl Tryd.sizeOf3 rfl) ?_
          refine Wq_o (v := .int _ _) rfl (fun w' hw' => opv_load Tryd.isAgg3 rfl (((hB1.ext E2).ext hw').cell rfl)) ?_; refine Wq_o rfl (fun _ _ => opv_eql rfl rfl) ?_
          refine Wq_split_dec rfl (fun _ _ => opv_move (v := .bool _) rfl) (fun h4 => ?_) (fun h4 => ?_); contradiction; refine Wq_skip rfl ?_; refine Wq_skip rfl ?_; refine Wq_skip rfl ?_
          refine Wq_o rfl (fun _ _ => opv_pick_f (v := .bool _) rfl rfl) ?_; refine Wq_o rfl (fun _ _ => opv_move (v := .bool _) rfl) ?_; refine Wq_skip rfl ?_; refine Wq_skip rfl ?_; refine Wq_skip rfl ?_; refine Wq_skip rfl ?_
          refine Wq_skip rfl ?_; refine Wq_skip rfl ?_; refine Wq_o rfl (fun _ _ => opv_pick_f (v := .bool _) rfl rfl) ?_; refine Wq_o rfl (fun _ _ => opv_move (v := .bool _) rfl) ?_; refine Wq_skip rfl ?_; refine Wq_skip rfl ?_
          refine Wq_skip rfl ?_; refine Wq_skip rfl ?_; refine Wq_skip rfl ?_; refine Wq_skip rfl ?_; refine Wq_skip rfl ?_; refine Wq_skip rfl ?_; refine Wq_o rfl (fun _ _ => opv_pick_f (v := .bool _) rfl rfl) ?_
          refine Wq_o rfl (fun _ _ => opv_assign (v := .bool _) rfl) ?_; refine Wq_nil (fun w3 E3 => ?_); have hs3 := E3.size; refine W_cond_false rfl ?_; refine W_skip ?_; refine W_seq ?_; refine W_region rfl ?_
          refine Wo_lit0 (XSl 3 XInt) rfl el49 Tryd.sizeOf80 ?_; rintro b2 w4 hb2 b2lt E4 hO2; have hs4 := E4.size; refine Wo rfl (opv_assign (v := .slice _ _ _) rfl) ?_; refine Wo rfl (opv_assign (v := .bool _) rfl) ?_; refine Wo_nil ?_
          refine W_ret ?_; refine at_ret (v := .tuple #[.slice _ _ _, .bool _]) rfl ?_; exact ⟨_, rfl, (((E1.trans E2).trans E3).trans E4), hO2.toB.o.mono (by omega)⟩; contradiction
      | some q =>
        rw [hr] at hm hB hQ
        rw [hB, hQ, show (some q).isSome = true from rfl, show (some q).getD [] = q from rfl] at k0
        have hq := (rdP_some hr).1
        have hNq : Nod q (0 : Nat) := ⟨hq, by decide, by have := hq.1; omega⟩
        have k1 : ∀ (w : World) (v u : Value), ESl Ints w v p → ESl Ints w u q → Does Tryd.prog 118 [v, .int .i64 0, u, .int .i64 0] w (RetOB w XR (og (wosV p 0 q 0)) (wosV p 0 q 0).isSome) := fun w v u h1 h2 => WithoutSet_ok w v u p q h1 h2 0 0 hN hNq
        rw [hm, show ((some q).bind fun q => wosV p 0 q 0) = wosV p 0 q 0 from rfl]
        focus
          refine W_seq ?_; refine W_region rfl ?_; refine Wo_box rfl rfl rfl ?_; rintro b1 w1 hb1 E1 hB1; have hlb1 := hB1.lt; have hs1 := E1.size; refine Wo rfl (opv_assign (v := .slice _ _ _) rfl) ?_
          refine Wo rfl (opv_assign (v := .bool _) rfl) ?_; refine Wo_nil ?_; refine W_seq ?_; refine W_region rfl ?_; refine Wo rfl (opv_fieldAddr Tryd.underlying26 rfl rfl Tryd.sizeOf9 rfl) ?_
          refine Wo (v := .string _) rfl (opv_load Tryd.isAgg9 rfl (hB1.cell rfl)) ?_; refine Wo_call rfl (opc1 (a := .string _) Tryd.call41 rfl) (k0 _) ?_; rintro _ w2 ⟨u1, rfl, E2, hO1⟩; have hs2 := E2.size
          refine Wo rfl (opv_move (v := .tuple _) rfl) ?_; refine Wo rfl (opv_extract (v := u1) rfl rfl) ?_; refine Wo rfl (opv_extract (v := .bool _) rfl rfl) ?_; refine Wo rfl (opv_assign (v := u1) rfl) ?_
          refine Wo rfl (opv_assign (v := .bool _) rfl) ?_; refine Wo_nil ?_; refine W_seq ?_; refine W_block ?_; refine W_seq ?_; refine W_region rfl ?_; refine Wo rfl (opv_fieldAddr Tryd.underlying26 rfl rfl Tryd.sizeOf3 rfl) ?_
          refine Wo (v := .int _ _) rfl (opv_load Tryd.isAgg3 rfl ((hB1.ext E2).cell rfl)) ?_; refine Wo rfl (opv_eql rfl rfl) ?_; refine Wo_split_dec rfl (opv_move (v := .bool _) rfl) (fun h1 => ?_) (fun h1 => ?_); contradiction
          refine Wo_skip rfl ?_; refine Wo_skip rfl ?_; refine Wo_skip rfl ?_; refine Wo rfl (opv_pick_f (v := .bool _) rfl rfl) ?_; refine Wo rfl (opv_move (v := .bool _) rfl) ?_; refine Wo_skip rfl ?_; refine Wo_skip rfl ?_
          refine Wo_skip rfl ?_; refine Wo rfl (opv_pick_f (v := .bool _) rfl rfl) ?_; refine Wo rfl (opv_assign (v := .bool _) rfl) ?_; refine Wo_nil ?_; refine W_cond_false rfl ?_; refine W_seq ?_; refine W_region rfl ?_
          refine Wo rfl (opv_fieldAddr Tryd.underlying26 rfl rfl Tryd.sizeOf3 rfl) ?_; refine Wo (v := .int _ _) rfl (opv_load Tryd.isAgg3 rfl ((hB1.ext E2).cell rfl)) ?_; refine Wo rfl (opv_eql rfl rfl) ?_
          refine Wo_split_dec rfl (opv_move (v := .bool _) rfl) (fun h2 => ?_) (fun h2 => ?_); contradiction; refine Wo_skip rfl ?_; refine Wo rfl (opv_pick_f (v := .bool _) rfl rfl) ?_; refine Wo rfl (opv_move (v := .bool _) rfl) ?_
          refine Wo_skip rfl ?_; refine Wo_skip rfl ?_; refine Wo_skip rfl ?_; refine Wo rfl (opv_pick_f (v := .bool _) rfl rfl) ?_; refine Wo rfl (opv_assign (v := .bool _) rfl) ?_; refine Wo_nil ?_; refine W_cond_false rfl ?_
          refine W_seq ?_; refine W_region rfl ?_; refine Wo rfl (opv_fieldAddr Tryd.underlying26 rfl rfl Tryd.sizeOf3 rfl) ?_; refine Wo (v := .int _ _) rfl (opv_load Tryd.isAgg3 rfl ((hB1.ext E2).cell rfl)) ?_
          refine Wo rfl (opv_eql rfl rfl) ?_; refine Wo_split_dec rfl (opv_move (v := .bool _) rfl) (fun h3 => ?_) (fun h3 => ?_); refine Wo rfl (opv_move (v := .bool _) rfl) ?_; refine Wo rfl (opv_pick_t (v := .bool _) rfl rfl) ?_
          refine Wo rfl (opv_move (v := .bool _) rfl) ?_; refine Wo rfl (opv_fieldAddr Tryd.underlying26 rfl rfl Tryd.sizeOf3 rfl) ?_; refine Wo (v := .int _ _) rfl (opv_load Tryd.isAgg3 rfl ((hB1.ext E2).cell rfl)) ?_
          refine Wo rfl (opv_eql rfl rfl) ?_; refine Wo rfl (opv_pick_t (v := .bool _) rfl rfl) ?_; refine Wo rfl (opv_assign (v := .bool _) rfl) ?_; refine Wo_nil ?_; refine W_cond_dec rfl (fun h4 => ?_) (fun h4 => ?_); refine W_seq ?_
          refine W_region rfl ?_; refine Wo rfl (opv_move (v := v) rfl) ?_; refine Wo rfl (opv_move (v := u1) rfl) ?_
          refine Wo_call rfl (opc4 (a := v) (b := .int _ _) (c := u1) (d := .int _ _) Tryd.call118 rfl rfl rfl rfl) (k1 _ _ _ ((Mono.mono (E1.trans E2) h)) ((Owned.read hO1))) ?_; rintro _ w3 ⟨u2, rfl, E3, hO2⟩; have hs3 := E3.size
          refine Wo rfl (opv_extract (v := u2) rfl rfl) ?_; refine Wo rfl (opv_extract (v := .bool _) rfl rfl) ?_; refine Wo rfl (opv_assign (v := u2) rfl) ?_; refine Wo rfl (opv_assign (v := .bool _) rfl) ?_; refine Wo_nil ?_
          refine W_ret ?_; refine at_ret (v := .tuple #[u2, .bool _]) rfl ?_; exact ⟨_, rfl, ((E1.trans E2).trans E3), hO2.toB.o.mono (by omega)⟩; contradiction; contradiction
    · have hm : M = none := hM.trans (by simp only [madeV]; rw [if_neg (fun h => absurd h.1 (by decide)), if_neg (fun h => absurd h.1 (by decide)), if_neg (fun h => en h.2), if_neg (fun h => absurd h.1 (by decide))])
      rw [hm, show og none = [] from rfl, show (none : Option (List (List Int))).isSome = false from rfl]
      cases B
      · focus
          refine W_seq ?_; refine W_region rfl ?_; refine Wo_box rfl rfl rfl ?_; rintro b1 w1 hb1 E1 hB1; have hlb1 := hB1.lt; have hs1 := E1.size; refine Wo rfl (opv_assign (v := .slice _ _ _) rfl) ?_
          refine Wo rfl (opv_assign (v := .bool _) rfl) ?_; refine Wo_nil ?_; refine W_seq ?_; refine W_region rfl ?_; refine Wo rfl (opv_fieldAddr Tryd.underlying26 rfl rfl Tryd.sizeOf9 rfl) ?_
          refine Wo (v := .string _) rfl (opv_load Tryd.isAgg9 rfl (hB1.cell rfl)) ?_; refine Wo_call rfl (opc1 (a := .string _) Tryd.call41 rfl) (k0 _) ?_; rintro _ w2 ⟨u1, rfl, E2, hO1⟩; have hs2 := E2.size
          refine Wo rfl (opv_move (v := .tuple _) rfl) ?_; refine Wo rfl (opv_extract (v := u1) rfl rfl) ?_; refine Wo rfl (opv_extract (v := .bool _) rfl rfl) ?_; refine Wo rfl (opv_assign (v := u1) rfl) ?_
          refine Wo rfl (opv_assign (v := .bool _) rfl) ?_; refine Wo_nil ?_; refine W_seq ?_; refine W_block ?_; refine W_seq ?_; refine W_region rfl ?_; refine Wo rfl (opv_fieldAddr Tryd.underlying26 rfl rfl Tryd.sizeOf3 rfl) ?_
          refine Wo (v := .int _ _) rfl (opv_load Tryd.isAgg3 rfl ((hB1.ext E2).cell rfl)) ?_; refine Wo rfl (opv_eql rfl rfl) ?_; refine Wo_split_dec rfl (opv_move (v := .bool _) rfl) (fun h1 => ?_) (fun h1 => ?_); contradiction
          refine Wo_skip rfl ?_; refine Wo_skip rfl ?_; refine Wo_skip rfl ?_; refine Wo rfl (opv_pick_f (v := .bool _) rfl rfl) ?_; refine Wo rfl (opv_move (v := .bool _) rfl) ?_; refine Wo_skip rfl ?_; refine Wo_skip rfl ?_
          refine Wo_skip rfl ?_; refine Wo rfl (opv_pick_f (v := .bool _) rfl rfl) ?_; refine Wo rfl (opv_assign (v := .bool _) rfl) ?_; refine Wo_nil ?_; refine W_cond_false rfl ?_; refine W_seq ?_; refine W_region rfl ?_
          refine Wo rfl (opv_fieldAddr Tryd.underlying26 rfl rfl Tryd.sizeOf3 rfl) ?_; refine Wo (v := .int _ _) rfl (opv_load Tryd.isAgg3 rfl ((hB1.ext E2).cell rfl)) ?_; refine Wo rfl (opv_eql rfl rfl) ?_
          refine Wo_split_dec rfl (opv_move (v := .bool _) rfl) (fun h2 => ?_) (fun h2 => ?_); contradiction; refine Wo_skip rfl ?_; refine Wo rfl (opv_pick_f (v := .bool _) rfl rfl) ?_; refine Wo rfl (opv_move (v := .bool _) rfl) ?_
          refine Wo_skip rfl ?_; refine Wo_skip rfl ?_; refine Wo_skip rfl ?_; refine Wo rfl (opv_pick_f (v := .bool _) rfl rfl) ?_; refine Wo rfl (opv_assign (v := .bool _) rfl) ?_; refine Wo_nil ?_; refine W_cond_false rfl ?_
          refine W_seq ?_; refine W_region rfl ?_; refine Wo rfl (opv_fieldAddr Tryd.underlying26 rfl rfl Tryd.sizeOf3 rfl) ?_; refine Wo (v := .int _ _) rfl (opv_load Tryd.isAgg3 rfl ((hB1.ext E2).cell rfl)) ?_
          refine Wo rfl (opv_eql rfl rfl) ?_; refine Wo_split_dec rfl (opv_move (v := .bool _) rfl) (fun h3 => ?_) (fun h3 => ?_); refine Wo rfl (opv_move (v := .bool _) rfl) ?_; refine Wo rfl (opv_pick_t (v := .bool _) rfl rfl) ?_
          refine Wo rfl (opv_move (v := .bool _) rfl) ?_; refine Wo_skip rfl ?_; refine Wo_skip rfl ?_; refine Wo_skip rfl ?_; refine Wo rfl (opv_pick_f (v := .bool _) rfl rfl) ?_; refine Wo rfl (opv_assign (v := .bool _) rfl) ?_
          refine Wo_nil ?_; refine W_cond_false rfl ?_; refine W_seq ?_; refine W_draw mixed (by kernel_rfl) rfl ?_; refine Wq_o rfl (fun _ _ => opv_fieldAddr Tryd.underlying26 rfl rfl Tryd.sizeOf3 rfl) ?_
          refine Wq_o (v := .int _ _) rfl (fun w' hw' => opv_load Tryd.isAgg3 rfl (((hB1.ext E2).ext hw').cell rfl)) ?_; refine Wq_o rfl (fun _ _ => opv_eql rfl rfl) ?_
          refine Wq_split_dec rfl (fun _ _ => opv_move (v := .bool _) rfl) (fun h4 => ?_) (fun h4 => ?_); contradiction; refine Wq_skip rfl ?_; refine Wq_skip rfl ?_; refine Wq_skip rfl ?_
          refine Wq_o rfl (fun _ _ => opv_pick_f (v := .bool _) rfl rfl) ?_; refine Wq_o rfl (fun _ _ => opv_move (v := .bool _) rfl) ?_; refine Wq_skip rfl ?_; refine Wq_skip rfl ?_; refine Wq_skip rfl ?_; refine Wq_skip rfl ?_
          refine Wq_skip rfl ?_; refine Wq_skip rfl ?_; refine Wq_o rfl (fun _ _ => opv_pick_f (v := .bool _) rfl rfl) ?_; refine Wq_o rfl (fun _ _ => opv_move (v := .bool _) rfl) ?_; refine Wq_skip rfl ?_; refine Wq_skip rfl ?_
          refine Wq_skip rfl ?_; refine Wq_skip rfl ?_; refine Wq_skip rfl ?_; refine Wq_skip rfl ?_; refine Wq_skip rfl ?_; refine Wq_skip rfl ?_; refine Wq_o rfl (fun _ _ => opv_pick_f (v := .bool _) rfl rfl) ?_
          refine Wq_o rfl (fun _ _ => opv_assign (v := .bool _) rfl) ?_; refine Wq_nil (fun w3 E3 => ?_); have hs3 := E3.size; refine W_cond_false rfl ?_; refine W_skip ?_; refine W_seq ?_; refine W_region rfl ?_
          refine Wo_lit0 (XSl 3 XInt) rfl el49 Tryd.sizeOf80 ?_; rintro b2 w4 hb2 b2lt E4 hO2; have hs4 := E4.size; refine Wo rfl (opv_assign (v := .slice _ _ _) rfl) ?_; refine Wo rfl (opv_assign (v := .bool _) rfl) ?_; refine Wo_nil ?_
          refine W_ret ?_; refine at_ret (v := .tuple #[.slice _ _ _, .bool _]) rfl ?_; exact ⟨_, rfl, (((E1.trans E2).trans E3).trans E4), hO2.toB.o.mono (by omega)⟩; contradiction
      · focus
          refine W_seq ?_; refine W_region rfl ?_; refine Wo_box rfl rfl rfl ?_; rintro b1 w1 hb1 E1 hB1; have hlb1 := hB1.lt; have hs1 := E1.size; refine Wo rfl (opv_assign (v := .slice _ _ _) rfl) ?_
          refine Wo rfl (opv_assign (v := .bool _) rfl) ?_; refine Wo_nil ?_; refine W_seq ?_; refine W_region rfl ?_; refine Wo rfl (opv_fieldAddr Tryd.underlying26 rfl rfl Tryd.sizeOf9 rfl) ?_
          refine Wo (v := .string _) rfl (opv_load Tryd.isAgg9 rfl (hB1.cell rfl)) ?_; refine Wo_call rfl (opc1 (a := .string _) Tryd.call41 rfl) (k0 _) ?_; rintro _ w2 ⟨u1, rfl, E2, hO1⟩; have hs2 := E2.size
          refine Wo rfl (opv_move (v := .tuple _) rfl) ?_; refine Wo rfl (opv_extract (v := u1) rfl rfl) ?_; refine Wo rfl (opv_extract (v := .bool _) rfl rfl) ?_; refine Wo rfl (opv_assign (v := u1) rfl) ?_
          refine Wo rfl (opv_assign (v := .bool _) rfl) ?_; refine Wo_nil ?_; refine W_seq ?_; refine W_block ?_; refine W_seq ?_; refine W_region rfl ?_; refine Wo rfl (opv_fieldAddr Tryd.underlying26 rfl rfl Tryd.sizeOf3 rfl) ?_
          refine Wo (v := .int _ _) rfl (opv_load Tryd.isAgg3 rfl ((hB1.ext E2).cell rfl)) ?_; refine Wo rfl (opv_eql rfl rfl) ?_; refine Wo_split_dec rfl (opv_move (v := .bool _) rfl) (fun h1 => ?_) (fun h1 => ?_); contradiction
          refine Wo_skip rfl ?_; refine Wo_skip rfl ?_; refine Wo_skip rfl ?_; refine Wo rfl (opv_pick_f (v := .bool _) rfl rfl) ?_; refine Wo rfl (opv_move (v := .bool _) rfl) ?_; refine Wo_skip rfl ?_; refine Wo_skip rfl ?_
          refine Wo_skip rfl ?_; refine Wo rfl (opv_pick_f (v := .bool _) rfl rfl) ?_; refine Wo rfl (opv_assign (v := .bool _) rfl) ?_; refine Wo_nil ?_; refine W_cond_false rfl ?_; refine W_seq ?_; refine W_region rfl ?_
          refine Wo rfl (opv_fieldAddr Tryd.underlying26 rfl rfl Tryd.sizeOf3 rfl) ?_; refine Wo (v := .int _ _) rfl (opv_load Tryd.isAgg3 rfl ((hB1.ext E2).cell rfl)) ?_; refine Wo rfl (opv_eql rfl rfl) ?_
          refine Wo_split_dec rfl (opv_move (v := .bool _) rfl) (fun h2 => ?_) (fun h2 => ?_); contradiction; refine Wo_skip rfl ?_; refine Wo rfl (opv_pick_f (v := .bool _) rfl rfl) ?_; refine Wo rfl (opv_move (v := .bool _) rfl) ?_
          refine Wo_skip rfl ?_; refine Wo_skip rfl ?_; refine Wo_skip rfl ?_; refine Wo rfl (opv_pick_f (v := .bool _) rfl rfl) ?_; refine Wo rfl (opv_assign (v := .bool _) rfl) ?_; refine Wo_nil ?_; refine W_cond_false rfl ?_
          refine W_seq ?_; refine W_region rfl ?_; refine Wo rfl (opv_fieldAddr Tryd.underlying26 rfl rfl Tryd.sizeOf3 rfl) ?_; refine Wo (v := .int _ _) rfl (opv_load Tryd.isAgg3 rfl ((hB1.ext E2).cell rfl)) ?_
          refine Wo rfl (opv_eql rfl rfl) ?_; refine Wo_split_dec rfl (opv_move (v := .bool _) rfl) (fun h3 => ?_) (fun h3 => ?_); refine Wo rfl (opv_move (v := .bool _) rfl) ?_; refine Wo rfl (opv_pick_t (v := .bool _) rfl rfl) ?_
          refine Wo rfl (opv_move (v := .bool _) rfl) ?_; refine Wo rfl (opv_fieldAddr Tryd.underlying26 rfl rfl Tryd.sizeOf3 rfl) ?_; refine Wo (v := .int _ _) rfl (opv_load Tryd.isAgg3 rfl ((hB1.ext E2).cell rfl)) ?_
          refine Wo rfl (opv_eql rfl rfl) ?_; refine Wo rfl (opv_pick_t (v := .bool _) rfl rfl) ?_; refine Wo rfl (opv_assign (v := .bool _) rfl) ?_; refine Wo_nil ?_; refine W_cond_dec rfl (fun h4 => ?_) (fun h4 => ?_); contradiction
          refine W_seq ?_; refine W_draw mixed (by kernel_rfl) rfl ?_; refine Wq_o rfl (fun _ _ => opv_fieldAddr Tryd.underlying26 rfl rfl Tryd.sizeOf3 rfl) ?_
          refine Wq_o (v := .int _ _) rfl (fun w' hw' => opv_load Tryd.isAgg3 rfl (((hB1.ext E2).ext hw').cell rfl)) ?_; refine Wq_o rfl (fun _ _ => opv_eql rfl rfl) ?_
          refine Wq_split_dec rfl (fun _ _ => opv_move (v := .bool _) rfl) (fun h5 => ?_) (fun h5 => ?_); contradiction; refine Wq_skip rfl ?_; refine Wq_skip rfl ?_; refine Wq_skip rfl ?_
          refine Wq_o rfl (fun _ _ => opv_pick_f (v := .bool _) rfl rfl) ?_; refine Wq_o rfl (fun _ _ => opv_move (v := .bool _) rfl) ?_; refine Wq_skip rfl ?_; refine Wq_skip rfl ?_; refine Wq_skip rfl ?_; refine Wq_skip rfl ?_
          refine Wq_skip rfl ?_; refine Wq_skip rfl ?_; refine Wq_o rfl (fun _ _ => opv_pick_f (v := .bool _) rfl rfl) ?_; refine Wq_o rfl (fun _ _ => opv_move (v := .bool _) rfl) ?_; refine Wq_skip rfl ?_; refine Wq_skip rfl ?_
          refine Wq_skip rfl ?_; refine Wq_skip rfl ?_; refine Wq_skip rfl ?_; refine Wq_skip rfl ?_; refine Wq_skip rfl ?_; refine Wq_skip rfl ?_; refine Wq_o rfl (fun _ _ => opv_pick_f (v := .bool _) rfl rfl) ?_
          refine Wq_o rfl (fun _ _ => opv_assign (v := .bool _) rfl) ?_; refine Wq_nil (fun w3 E3 => ?_); have hs3 := E3.size; refine W_cond_false rfl ?_; refine W_skip ?_; refine W_seq ?_; refine W_region rfl ?_
          refine Wo_lit0 (XSl 3 XInt) rfl el49 Tryd.sizeOf80 ?_; rintro b2 w4 hb2 b2lt E4 hO2; have hs4 := E4.size; refine Wo rfl (opv_assign (v := .slice _ _ _) rfl) ?_; refine Wo rfl (opv_assign (v := .bool _) rfl) ?_; refine Wo_nil ?_
          refine W_ret ?_; refine at_ret (v := .tuple #[.slice _ _ _, .bool _]) rfl ?_; exact ⟨_, rfl, (((E1.trans E2).trans E3).trans E4), hO2.toB.o.mono (by omega)⟩; contradiction
  by_cases e3 : k = 3
  · subst e3
    by_cases et : t = []
    · subst et
      by_cases en : 0 ≤ n ∧ n ≤ (p.length : Int) - 1
      · have k2 : ∀ w, Does Tryd.prog 42 [.int .i64 n, .int .i64 0, .int .i64 ((p.length : Int) - 1)] w (Ret w (.bool true)) := fun w => by
          have := l1In_ok n 0 ((p.length : Int) - 1) w; rwa [decide_eq_true en] at this
        have hrow : p[0].length = p.length := hp.row hp1
        obtain ⟨i, rfl⟩ : ∃ i : Nat, n = i := ⟨n.toNat, by omega⟩
        have hil : i < p.length := by omega
        have hbit : bit p 0 i = p[0][i] := by unfold bit; rw [getD_lt hp1, getD_lt (show i < p[0].length by omega)]
        by_cases eb : p[0][i] = 1
        · have hm : M = some (lst p i) := hM.trans (by simp only [madeV]; rw [if_neg (fun h => absurd h.1 (by decide)), if_neg (fun h => absurd h.1 (by decide)), if_neg (fun h => absurd h.1 (by decide)), if_pos ⟨trivial, trivial, by omega, by omega, by rw [Int.toNat_natCast, hbit, eb]⟩, Int.toNat_natCast])
          have hNi : Nod p (i : Int) := ⟨hp, by omega, by omega⟩
          have k3 : ∀ (w : World) (v : Value), ESl Ints w v p → Does Tryd.prog 60 [v, .int .i64 (i : Int)] w (RetO w XR (lst p i)) := fun w v h => by
            have := LeastOf_ok w v p h (i : Int); rw [if_pos hNi] at this; exact this
          rw [hm, show og (some (lst p i)) = lst p i from rfl, show (some (lst p i)).isSome = true from rfl]
          focus
            refine W_seq ?_; refine W_region rfl ?_; refine Wo_box rfl rfl rfl ?_; rintro b1 w1 hb1 E1 hB1; have hlb1 := hB1.lt; have hs1 := E1.size; refine Wo rfl (opv_assign (v := .slice _ _ _) rfl) ?_
            refine Wo rfl (opv_assign (v := .bool _) rfl) ?_; refine Wo_nil ?_; refine W_seq ?_; refine W_region rfl ?_; refine Wo rfl (opv_fieldAddr Tryd.underlying26 rfl rfl Tryd.sizeOf9 rfl) ?_
            refine Wo (v := .string _) rfl (opv_load Tryd.isAgg9 rfl (hB1.cell rfl)) ?_; refine Wo_call rfl (opc1 (a := .string _) Tryd.call41 rfl) (k0 _) ?_; rintro _ w2 ⟨u1, rfl, E2, hO1⟩; have hs2 := E2.size
            refine Wo rfl (opv_move (v := .tuple _) rfl) ?_; refine Wo rfl (opv_extract (v := u1) rfl rfl) ?_; refine Wo rfl (opv_extract (v := .bool _) rfl rfl) ?_; refine Wo rfl (opv_assign (v := u1) rfl) ?_
            refine Wo rfl (opv_assign (v := .bool _) rfl) ?_; refine Wo_nil ?_; refine W_seq ?_; refine W_block ?_; refine W_seq ?_; refine W_region rfl ?_; refine Wo rfl (opv_fieldAddr Tryd.underlying26 rfl rfl Tryd.sizeOf3 rfl) ?_
            refine Wo (v := .int _ _) rfl (opv_load Tryd.isAgg3 rfl ((hB1.ext E2).cell rfl)) ?_; refine Wo rfl (opv_eql rfl rfl) ?_; refine Wo_split_dec rfl (opv_move (v := .bool _) rfl) (fun h1 => ?_) (fun h1 => ?_); contradiction
            refine Wo_skip rfl ?_; refine Wo_skip rfl ?_; refine Wo_skip rfl ?_; refine Wo rfl (opv_pick_f (v := .bool _) rfl rfl) ?_; refine Wo rfl (opv_move (v := .bool _) rfl) ?_; refine Wo_skip rfl ?_; refine Wo_skip rfl ?_
            refine Wo_skip rfl ?_; refine Wo rfl (opv_pick_f (v := .bool _) rfl rfl) ?_; refine Wo rfl (opv_assign (v := .bool _) rfl) ?_; refine Wo_nil ?_; refine W_cond_false rfl ?_; refine W_seq ?_; refine W_region rfl ?_
            refine Wo rfl (opv_fieldAddr Tryd.underlying26 rfl rfl Tryd.sizeOf3 rfl) ?_; refine Wo (v := .int _ _) rfl (opv_load Tryd.isAgg3 rfl ((hB1.ext E2).cell rfl)) ?_; refine Wo rfl (opv_eql rfl rfl) ?_
            refine Wo_split_dec rfl (opv_move (v := .bool _) rfl) (fun h2 => ?_) (fun h2 => ?_); contradiction; refine Wo_skip rfl ?_; refine Wo rfl (opv_pick_f (v := .bool _) rfl rfl) ?_; refine Wo rfl (opv_move (v := .bool _) rfl) ?_
            refine Wo_skip rfl ?_; refine Wo_skip rfl ?_; refine Wo_skip rfl ?_; refine Wo rfl (opv_pick_f (v := .bool _) rfl rfl) ?_; refine Wo rfl (opv_assign (v := .bool _) rfl) ?_; refine Wo_nil ?_; refine W_cond_false rfl ?_
            refine W_seq ?_; refine W_region rfl ?_; refine Wo rfl (opv_fieldAddr Tryd.underlying26 rfl rfl Tryd.sizeOf3 rfl) ?_; refine Wo (v := .int _ _) rfl (opv_load Tryd.isAgg3 rfl ((hB1.ext E2).cell rfl)) ?_
            refine Wo rfl (opv_eql rfl rfl) ?_; refine Wo_split_dec rfl (opv_move (v := .bool _) rfl) (fun h3 => ?_) (fun h3 => ?_); contradiction; refine Wo_skip rfl ?_; refine Wo rfl (opv_pick_f (v := .bool _) rfl rfl) ?_
            refine Wo rfl (opv_move (v := .bool _) rfl) ?_; refine Wo_skip rfl ?_; refine Wo_skip rfl ?_; refine Wo_skip rfl ?_; refine Wo rfl (opv_pick_f (v := .bool _) rfl rfl) ?_; refine Wo rfl (opv_assign (v := .bool _) rfl) ?_
            refine Wo_nil ?_; refine W_cond_false rfl ?_; refine W_seq ?_; refine W_draw mixed (by kernel_rfl) rfl ?_; refine Wq_o rfl (fun _ _ => opv_fieldAddr Tryd.underlying26 rfl rfl Tryd.sizeOf3 rfl) ?_
            refine Wq_o (v := .int _ _) rfl (fun w' hw' => opv_load Tryd.isAgg3 rfl (((hB1.ext E2).ext hw').cell rfl)) ?_; refine Wq_o rfl (fun _ _ => opv_eql rfl rfl) ?_
            refine Wq_split_dec rfl (fun _ _ => opv_move (v := .bool _) rfl) (fun h4 => ?_) (fun h4 => ?_); refine Wq_o rfl (fun _ _ => opv_fieldAddr Tryd.underlying26 rfl rfl Tryd.sizeOf9 rfl) ?_
            refine Wq_o (v := .string _) rfl (fun w' hw' => opv_load Tryd.isAgg9 rfl (((hB1.ext E2).ext hw').cell rfl)) ?_; refine Wq_o rfl (fun _ _ => opv_eql_str rfl rfl) ?_; refine Wq_o rfl (fun _ _ => opv_pick_t (v := .bool _) rfl rfl) ?_
            refine Wq_split_dec rfl (fun _ _ => opv_move (v := .bool _) rfl) (fun h5 => ?_) (fun h5 => ?_); refine Wq_o rfl (fun _ _ => opv_fieldAddr Tryd.underlying26 rfl rfl Tryd.sizeOf3 rfl) ?_
            refine Wq_o (v := .int _ _) rfl (fun w' hw' => opv_load Tryd.isAgg3 rfl (((hB1.ext E2).ext hw').cell rfl)) ?_; refine Wq_o rfl (fun _ _ => opv_move (v := v) rfl) ?_; refine Wq_o rfl (fun _ _ => opv_len Tryd.underlying49 rfl h) ?_
            refine Wq_o rfl (fun _ _ => opv_sub rfl rfl (by omega)) ?_; refine Wq_call rfl (fun _ _ => opc3 (a := .int _ _) (b := .int _ _) (c := .int _ _) Tryd.call42 rfl rfl rfl) (fun w' hw' => (k2 _)) ?_
            refine Wq_o rfl (fun _ _ => opv_pick_t (v := .bool _) rfl rfl) ?_; refine Wq_o rfl (fun _ _ => opv_move (v := .bool _) rfl) ?_; refine Wq_o rfl (fun _ _ => opv_move (v := v) rfl) ?_
            refine Wq_get (k := 0) Tryd.underlying49 Tryd.sizeOf80 Tryd.isAgg80 rfl (fun _ => rfl) rfl h (E1.trans E2) rfl (by first | omega | (simp <;> omega)) ?_; rintro _ u2 hu1
            refine Wq_o rfl (fun _ _ => opv_fieldAddr Tryd.underlying26 rfl rfl Tryd.sizeOf3 rfl) ?_; refine Wq_o (v := .int _ _) rfl (fun w' hw' => opv_load Tryd.isAgg3 rfl (((hB1.ext E2).ext hw').cell rfl)) ?_
            refine Wq_get Tryd.underlying80 Tryd.sizeOf3 Tryd.isAgg3 rfl (fun _ => rfl) rfl hu1 (E1.trans E2) rfl (by first | omega | (simp <;> omega)) ?_; rintro _ _ rfl; refine Wq_o rfl (fun _ _ => opv_eql rfl rfl) ?_
            refine Wq_o rfl (fun _ _ => opv_pick_t (v := .bool _) rfl rfl) ?_; refine Wq_o rfl (fun _ _ => opv_assign (v := .bool _) rfl) ?_; refine Wq_nil (fun w3 E3 => ?_); have hs3 := E3.size
            refine W_cond_dec rfl (fun h6 => ?_) (fun h6 => ?_); refine W_seq ?_; refine W_region rfl ?_; refine Wo rfl (opv_move (v := v) rfl) ?_; refine Wo rfl (opv_fieldAddr Tryd.underlying26 rfl rfl Tryd.sizeOf3 rfl) ?_
            refine Wo (v := .int _ _) rfl (opv_load Tryd.isAgg3 rfl ((hB1.ext (E2.trans E3)).cell rfl)) ?_; refine Wo_call rfl (opc2 (a := v) (b := .int _ _) Tryd.call60 rfl rfl) (k3 _ _ ((Mono.mono ((E1.trans E2).trans E3) h))) ?_
            rintro u3 w4 ⟨E4, hO2⟩; have hs4 := E4.size; refine Wo rfl (opv_assign (v := u3) rfl) ?_; refine Wo rfl (opv_assign (v := .bool _) rfl) ?_; refine Wo_nil ?_; refine W_ret ?_; refine at_ret (v := .tuple #[u3, .bool _]) rfl ?_
            exact ⟨_, rfl, (((E1.trans E2).trans E3).trans E4), hO2.toB.o.mono (by omega)⟩; contradiction; contradiction; contradiction
        · have hm : M = none := hM.trans (by simp only [madeV]; rw [if_neg (fun h => absurd h.1 (by decide)), if_neg (fun h => absurd h.1 (by decide)), if_neg (fun h => absurd h.1 (by decide)), if_neg (fun h => eb (by have := h.2.2.2.2; rwa [Int.toNat_natCast, hbit] at this))])
          rw [hm, show og none = [] from rfl, show (none : Option (List (List Int))).isSome = false from rfl]
          focus
            refine W_seq ?_; refine W_region rfl ?_; refine Wo_box rfl rfl rfl ?_; rintro b1 w1 hb1 E1 hB1; have hlb1 := hB1.lt; have hs1 := E1.size; refine Wo rfl (opv_assign (v := .slice _ _ _) rfl) ?_
            refine Wo rfl (opv_assign (v := .bool _) rfl) ?_; refine Wo_nil ?_; refine W_seq ?_; refine W_region rfl ?_; refine Wo rfl (opv_fieldAddr Tryd.underlying26 rfl rfl Tryd.sizeOf9 rfl) ?_
            refine Wo (v := .string _) rfl (opv_load Tryd.isAgg9 rfl (hB1.cell rfl)) ?_; refine Wo_call rfl (opc1 (a := .string _) Tryd.call41 rfl) (k0 _) ?_; rintro _ w2 ⟨u1, rfl, E2, hO1⟩; have hs2 := E2.size
            refine Wo rfl (opv_move (v := .tuple _) rfl) ?_; refine Wo rfl (opv_extract (v := u1) rfl rfl) ?_; refine Wo rfl (opv_extract (v := .bool _) rfl rfl) ?_; refine Wo rfl (opv_assign (v := u1) rfl) ?_
            refine Wo rfl (opv_assign (v := .bool _) rfl) ?_; refine Wo_nil ?_; refine W_seq ?_; refine W_block ?_; refine W_seq ?_; refine W_region rfl ?_; refine Wo rfl (opv_fieldAddr Tryd.underlying26 rfl rfl Tryd.sizeOf3 rfl) ?_
            refine Wo (v := .int _ _) rfl (opv_load Tryd.isAgg3 rfl ((hB1.ext E2).cell rfl)) ?_; refine Wo rfl (opv_eql rfl rfl) ?_; refine Wo_split_dec rfl (opv_move (v := .bool _) rfl) (fun h1 => ?_) (fun h1 => ?_); contradiction
            refine Wo_skip rfl ?_; refine Wo_skip rfl ?_; refine Wo_skip rfl ?_; refine Wo rfl (opv_pick_f (v := .bool _) rfl rfl) ?_; refine Wo rfl (opv_move (v := .bool _) rfl) ?_; refine Wo_skip rfl ?_; refine Wo_skip rfl ?_
            refine Wo_skip rfl ?_; refine Wo rfl (opv_pick_f (v := .bool _) rfl rfl) ?_; refine Wo rfl (opv_assign (v := .bool _) rfl) ?_; refine Wo_nil ?_; refine W_cond_false rfl ?_; refine W_seq ?_; refine W_region rfl ?_
            refine Wo rfl (opv_fieldAddr Tryd.underlying26 rfl rfl Tryd.sizeOf3 rfl) ?_; refine Wo (v := .int _ _) rfl (opv_load Tryd.isAgg3 rfl ((hB1.ext E2).cell rfl)) ?_; refine Wo rfl (opv_eql rfl rfl) ?_
            refine Wo_split_dec rfl (opv_move (v := .bool _) rfl) (fun h2 => ?_) (fun h2 => ?_); contradiction; refine Wo_skip rfl ?_; refine Wo rfl (opv_pick_f (v := .bool _) rfl rfl) ?_; refine Wo rfl (opv_move (v := .bool _) rfl) ?_
            refine Wo_skip rfl ?_; refine Wo_skip rfl ?_; refine Wo_skip rfl ?_; refine Wo rfl (opv_pick_f (v := .bool _) rfl rfl) ?_; refine Wo rfl (opv_assign (v := .bool _) rfl) ?_; refine Wo_nil ?_; refine W_cond_false rfl ?_
            refine W_seq ?_; refine W_region rfl ?_; refine Wo rfl (opv_fieldAddr Tryd.underlying26 rfl rfl Tryd.sizeOf3 rfl) ?_; refine Wo (v := .int _ _) rfl (opv_load Tryd.isAgg3 rfl ((hB1.ext E2).cell rfl)) ?_
            refine Wo rfl (opv_eql rfl rfl) ?_; refine Wo_split_dec rfl (opv_move (v := .bool _) rfl) (fun h3 => ?_) (fun h3 => ?_); contradiction; refine Wo_skip rfl ?_; refine Wo rfl (opv_pick_f (v := .bool _) rfl rfl) ?_
            refine Wo rfl (opv_move (v := .bool _) rfl) ?_; refine Wo_skip rfl ?_; refine Wo_skip rfl ?_; refine Wo_skip rfl ?_; refine Wo rfl (opv_pick_f (v := .bool _) rfl rfl) ?_; refine Wo rfl (opv_assign (v := .bool _) rfl) ?_
            refine Wo_nil ?_; refine W_cond_false rfl ?_; refine W_seq ?_; refine W_draw mixed (by kernel_rfl) rfl ?_; refine Wq_o rfl (fun _ _ => opv_fieldAddr Tryd.underlying26 rfl rfl Tryd.sizeOf3 rfl) ?_
            refine Wq_o (v := .int _ _) rfl (fun w' hw' => opv_load Tryd.isAgg3 rfl (((hB1.ext E2).ext hw').cell rfl)) ?_; refine Wq_o rfl (fun _ _ => opv_eql rfl rfl) ?_
            refine Wq_split_dec rfl (fun _ _ => opv_move (v := .bool _) rfl) (fun h4 => ?_) (fun h4 => ?_); refine Wq_o rfl (fun _ _ => opv_fieldAddr Tryd.underlying26 rfl rfl Tryd.sizeOf9 rfl) ?_
            refine Wq_o (v := .string _) rfl (fun w' hw' => opv_load Tryd.isAgg9 rfl (((hB1.ext E2).ext hw').cell rfl)) ?_; refine Wq_o rfl (fun _ _ => opv_eql_str rfl rfl) ?_; refine Wq_o rfl (fun _ _ => opv_pick_t (v := .bool _) rfl rfl) ?_
            refine Wq_split_dec rfl (fun _ _ => opv_move (v := .bool _) rfl) (fun h5 => ?_) (fun h5 => ?_); refine Wq_o rfl (fun _ _ => opv_fieldAddr Tryd.underlying26 rfl rfl Tryd.sizeOf3 rfl) ?_
            refine Wq_o (v := .int _ _) rfl (fun w' hw' => opv_load Tryd.isAgg3 rfl (((hB1.ext E2).ext hw').cell rfl)) ?_; refine Wq_o rfl (fun _ _ => opv_move (v := v) rfl) ?_; refine Wq_o rfl (fun _ _ => opv_len Tryd.underlying49 rfl h) ?_
            refine Wq_o rfl (fun _ _ => opv_sub rfl rfl (by omega)) ?_; refine Wq_call rfl (fun _ _ => opc3 (a := .int _ _) (b := .int _ _) (c := .int _ _) Tryd.call42 rfl rfl rfl) (fun w' hw' => (k2 _)) ?_
            refine Wq_o rfl (fun _ _ => opv_pick_t (v := .bool _) rfl rfl) ?_; refine Wq_o rfl (fun _ _ => opv_move (v := .bool _) rfl) ?_; refine Wq_o rfl (fun _ _ => opv_move (v := v) rfl) ?_
            refine Wq_get (k := 0) Tryd.underlying49 Tryd.sizeOf80 Tryd.isAgg80 rfl (fun _ => rfl) rfl h (E1.trans E2) rfl (by first | omega | (simp <;> omega)) ?_; rintro _ u2 hu1
            refine Wq_o rfl (fun _ _ => opv_fieldAddr Tryd.underlying26 rfl rfl Tryd.sizeOf3 rfl) ?_; refine Wq_o (v := .int _ _) rfl (fun w' hw' => opv_load Tryd.isAgg3 rfl (((hB1.ext E2).ext hw').cell rfl)) ?_
            refine Wq_get Tryd.underlying80 Tryd.sizeOf3 Tryd.isAgg3 rfl (fun _ => rfl) rfl hu1 (E1.trans E2) rfl (by first | omega | (simp <;> omega)) ?_; rintro _ _ rfl; refine Wq_o rfl (fun _ _ => opv_eql rfl rfl) ?_
            refine Wq_o rfl (fun _ _ => opv_pick_t (v := .bool _) rfl rfl) ?_; refine Wq_o rfl (fun _ _ => opv_assign (v := .bool _) rfl) ?_; refine Wq_nil (fun w3 E3 => ?_); have hs3 := E3.size
            refine W_cond_dec rfl (fun h6 => ?_) (fun h6 => ?_); contradiction; refine W_skip ?_; refine W_seq ?_; refine W_region rfl ?_; refine Wo_lit0 (XSl 3 XInt) rfl el49 Tryd.sizeOf80 ?_; rintro b2 w4 hb2 b2lt E4 hO2; have hs4 := E4.size
            refine Wo rfl (opv_assign (v := .slice _ _ _) rfl) ?_; refine Wo rfl (opv_assign (v := .bool _) rfl) ?_; refine Wo_nil ?_; refine W_ret ?_; refine at_ret (v := .tuple #[.slice _ _ _, .bool _]) rfl ?_
            exact ⟨_, rfl, (((E1.trans E2).trans E3).trans E4), hO2.toB.o.mono (by omega)⟩; contradiction; contradiction
      · have k2 : ∀ w, Does Tryd.prog 42 [.int .i64 n, .int .i64 0, .int .i64 ((p.length : Int) - 1)] w (Ret w (.bool false)) := fun w => by
          have := l1In_ok n 0 ((p.length : Int) - 1) w; rwa [decide_eq_false en] at this
        have hm : M = none := hM.trans (by simp only [madeV]; rw [if_neg (fun h => absurd h.1 (by decide)), if_neg (fun h => absurd h.1 (by decide)), if_neg (fun h => absurd h.1 (by decide)), if_neg (fun h => en ⟨h.2.2.1, by have := h.2.2.2.1; omega⟩)])
        rw [hm, show og none = [] from rfl, show (none : Option (List (List Int))).isSome = false from rfl]
        focus
          refine W_seq ?_; refine W_region rfl ?_; refine Wo_box rfl rfl rfl ?_; rintro b1 w1 hb1 E1 hB1; have hlb1 := hB1.lt; have hs1 := E1.size; refine Wo rfl (opv_assign (v := .slice _ _ _) rfl) ?_
          refine Wo rfl (opv_assign (v := .bool _) rfl) ?_; refine Wo_nil ?_; refine W_seq ?_; refine W_region rfl ?_; refine Wo rfl (opv_fieldAddr Tryd.underlying26 rfl rfl Tryd.sizeOf9 rfl) ?_
          refine Wo (v := .string _) rfl (opv_load Tryd.isAgg9 rfl (hB1.cell rfl)) ?_; refine Wo_call rfl (opc1 (a := .string _) Tryd.call41 rfl) (k0 _) ?_; rintro _ w2 ⟨u1, rfl, E2, hO1⟩; have hs2 := E2.size
          refine Wo rfl (opv_move (v := .tuple _) rfl) ?_; refine Wo rfl (opv_extract (v := u1) rfl rfl) ?_; refine Wo rfl (opv_extract (v := .bool _) rfl rfl) ?_; refine Wo rfl (opv_assign (v := u1) rfl) ?_
          refine Wo rfl (opv_assign (v := .bool _) rfl) ?_; refine Wo_nil ?_; refine W_seq ?_; refine W_block ?_; refine W_seq ?_; refine W_region rfl ?_; refine Wo rfl (opv_fieldAddr Tryd.underlying26 rfl rfl Tryd.sizeOf3 rfl) ?_
          refine Wo (v := .int _ _) rfl (opv_load Tryd.isAgg3 rfl ((hB1.ext E2).cell rfl)) ?_; refine Wo rfl (opv_eql rfl rfl) ?_; refine Wo_split_dec rfl (opv_move (v := .bool _) rfl) (fun h1 => ?_) (fun h1 => ?_); contradiction
          refine Wo_skip rfl ?_; refine Wo_skip rfl ?_; refine Wo_skip rfl ?_; refine Wo rfl (opv_pick_f (v := .bool _) rfl rfl) ?_; refine Wo rfl (opv_move (v := .bool _) rfl) ?_; refine Wo_skip rfl ?_; refine Wo_skip rfl ?_
          refine Wo_skip rfl ?_; refine Wo rfl (opv_pick_f (v := .bool _) rfl rfl) ?_; refine Wo rfl (opv_assign (v := .bool _) rfl) ?_; refine Wo_nil ?_; refine W_cond_false rfl ?_; refine W_seq ?_; refine W_region rfl ?_
          refine Wo rfl (opv_fieldAddr Tryd.underlying26 rfl rfl Tryd.sizeOf3 rfl) ?_; refine Wo (v := .int _ _) rfl (opv_load Tryd.isAgg3 rfl ((hB1.ext E2).cell rfl)) ?_; refine Wo rfl (opv_eql rfl rfl) ?_
          refine Wo_split_dec rfl (opv_move (v := .bool _) rfl) (fun h2 => ?_) (fun h2 => ?_); contradiction; refine Wo_skip rfl ?_; refine Wo rfl (opv_pick_f (v := .bool _) rfl rfl) ?_; refine Wo rfl (opv_move (v := .bool _) rfl) ?_
          refine Wo_skip rfl ?_; refine Wo_skip rfl ?_; refine Wo_skip rfl ?_; refine Wo rfl (opv_pick_f (v := .bool _) rfl rfl) ?_; refine Wo rfl (opv_assign (v := .bool _) rfl) ?_; refine Wo_nil ?_; refine W_cond_false rfl ?_
          refine W_seq ?_; refine W_region rfl ?_; refine Wo rfl (opv_fieldAddr Tryd.underlying26 rfl rfl Tryd.sizeOf3 rfl) ?_; refine Wo (v := .int _ _) rfl (opv_load Tryd.isAgg3 rfl ((hB1.ext E2).cell rfl)) ?_
          refine Wo rfl (opv_eql rfl rfl) ?_; refine Wo_split_dec rfl (opv_move (v := .bool _) rfl) (fun h3 => ?_) (fun h3 => ?_); contradiction; refine Wo_skip rfl ?_; refine Wo rfl (opv_pick_f (v := .bool _) rfl rfl) ?_
          refine Wo rfl (opv_move (v := .bool _) rfl) ?_; refine Wo_skip rfl ?_; refine Wo_skip rfl ?_; refine Wo_skip rfl ?_; refine Wo rfl (opv_pick_f (v := .bool _) rfl rfl) ?_; refine Wo rfl (opv_assign (v := .bool _) rfl) ?_
          refine Wo_nil ?_; refine W_cond_false rfl ?_; refine W_seq ?_; refine W_draw mixed (by kernel_rfl) rfl ?_; refine Wq_o rfl (fun _ _ => opv_fieldAddr Tryd.underlying26 rfl rfl Tryd.sizeOf3 rfl) ?_
          refine Wq_o (v := .int _ _) rfl (fun w' hw' => opv_load Tryd.isAgg3 rfl (((hB1.ext E2).ext hw').cell rfl)) ?_; refine Wq_o rfl (fun _ _ => opv_eql rfl rfl) ?_
          refine Wq_split_dec rfl (fun _ _ => opv_move (v := .bool _) rfl) (fun h4 => ?_) (fun h4 => ?_); refine Wq_o rfl (fun _ _ => opv_fieldAddr Tryd.underlying26 rfl rfl Tryd.sizeOf9 rfl) ?_
          refine Wq_o (v := .string _) rfl (fun w' hw' => opv_load Tryd.isAgg9 rfl (((hB1.ext E2).ext hw').cell rfl)) ?_; refine Wq_o rfl (fun _ _ => opv_eql_str rfl rfl) ?_; refine Wq_o rfl (fun _ _ => opv_pick_t (v := .bool _) rfl rfl) ?_
          refine Wq_split_dec rfl (fun _ _ => opv_move (v := .bool _) rfl) (fun h5 => ?_) (fun h5 => ?_); refine Wq_o rfl (fun _ _ => opv_fieldAddr Tryd.underlying26 rfl rfl Tryd.sizeOf3 rfl) ?_
          refine Wq_o (v := .int _ _) rfl (fun w' hw' => opv_load Tryd.isAgg3 rfl (((hB1.ext E2).ext hw').cell rfl)) ?_; refine Wq_o rfl (fun _ _ => opv_move (v := v) rfl) ?_; refine Wq_o rfl (fun _ _ => opv_len Tryd.underlying49 rfl h) ?_
          refine Wq_o rfl (fun _ _ => opv_sub rfl rfl (by omega)) ?_; refine Wq_call rfl (fun _ _ => opc3 (a := .int _ _) (b := .int _ _) (c := .int _ _) Tryd.call42 rfl rfl rfl) (fun w' hw' => (k2 _)) ?_
          refine Wq_o rfl (fun _ _ => opv_pick_t (v := .bool _) rfl rfl) ?_; refine Wq_o rfl (fun _ _ => opv_move (v := .bool _) rfl) ?_; refine Wq_skip rfl ?_; refine Wq_skip rfl ?_; refine Wq_skip rfl ?_; refine Wq_skip rfl ?_
          refine Wq_skip rfl ?_; refine Wq_skip rfl ?_; refine Wq_skip rfl ?_; refine Wq_skip rfl ?_; refine Wq_o rfl (fun _ _ => opv_pick_f (v := .bool _) rfl rfl) ?_; refine Wq_o rfl (fun _ _ => opv_assign (v := .bool _) rfl) ?_
          refine Wq_nil (fun w3 E3 => ?_); have hs3 := E3.size; refine W_cond_false rfl ?_; refine W_skip ?_; refine W_seq ?_; refine W_region rfl ?_; refine Wo_lit0 (XSl 3 XInt) rfl el49 Tryd.sizeOf80 ?_; rintro b2 w4 hb2 b2lt E4 hO2
          have hs4 := E4.size; refine Wo rfl (opv_assign (v := .slice _ _ _) rfl) ?_; refine Wo rfl (opv_assign (v := .bool _) rfl) ?_; refine Wo_nil ?_; refine W_ret ?_; refine at_ret (v := .tuple #[.slice _ _ _, .bool _]) rfl ?_
          exact ⟨_, rfl, (((E1.trans E2).trans E3).trans E4), hO2.toB.o.mono (by omega)⟩; contradiction; contradiction
    · have hm : M = none := hM.trans (by simp only [madeV]; rw [if_neg (fun h => absurd h.1 (by decide)), if_neg (fun h => absurd h.1 (by decide)), if_neg (fun h => absurd h.1 (by decide)), if_neg (fun h => et h.2.1)])
      rw [hm, show og none = [] from rfl, show (none : Option (List (List Int))).isSome = false from rfl]
      focus
        refine W_seq ?_; refine W_region rfl ?_; refine Wo_box rfl rfl rfl ?_; rintro b1 w1 hb1 E1 hB1; have hlb1 := hB1.lt; have hs1 := E1.size; refine Wo rfl (opv_assign (v := .slice _ _ _) rfl) ?_
        refine Wo rfl (opv_assign (v := .bool _) rfl) ?_; refine Wo_nil ?_; refine W_seq ?_; refine W_region rfl ?_; refine Wo rfl (opv_fieldAddr Tryd.underlying26 rfl rfl Tryd.sizeOf9 rfl) ?_
        refine Wo (v := .string _) rfl (opv_load Tryd.isAgg9 rfl (hB1.cell rfl)) ?_; refine Wo_call rfl (opc1 (a := .string _) Tryd.call41 rfl) (k0 _) ?_; rintro _ w2 ⟨u1, rfl, E2, hO1⟩; have hs2 := E2.size
        refine Wo rfl (opv_move (v := .tuple _) rfl) ?_; refine Wo rfl (opv_extract (v := u1) rfl rfl) ?_; refine Wo rfl (opv_extract (v := .bool _) rfl rfl) ?_; refine Wo rfl (opv_assign (v := u1) rfl) ?_
        refine Wo rfl (opv_assign (v := .bool _) rfl) ?_; refine Wo_nil ?_; refine W_seq ?_; refine W_block ?_; refine W_seq ?_; refine W_region rfl ?_; refine Wo rfl (opv_fieldAddr Tryd.underlying26 rfl rfl Tryd.sizeOf3 rfl) ?_
        refine Wo (v := .int _ _) rfl (opv_load Tryd.isAgg3 rfl ((hB1.ext E2).cell rfl)) ?_; refine Wo rfl (opv_eql rfl rfl) ?_; refine Wo_split_dec rfl (opv_move (v := .bool _) rfl) (fun h1 => ?_) (fun h1 => ?_); contradiction
        refine Wo_skip rfl ?_; refine Wo_skip rfl ?_; refine Wo_skip rfl ?_; refine Wo rfl (opv_pick_f (v := .bool _) rfl rfl) ?_; refine Wo rfl (opv_move (v := .bool _) rfl) ?_; refine Wo_skip rfl ?_; refine Wo_skip rfl ?_
        refine Wo_skip rfl ?_; refine Wo rfl (opv_pick_f (v := .bool _) rfl rfl) ?_; refine Wo rfl (opv_assign (v := .bool _) rfl) ?_; refine Wo_nil ?_; refine W_cond_false rfl ?_; refine W_seq ?_; refine W_region rfl ?_
        refine Wo rfl (opv_fieldAddr Tryd.underlying26 rfl rfl Tryd.sizeOf3 rfl) ?_; refine Wo (v := .int _ _) rfl (opv_load Tryd.isAgg3 rfl ((hB1.ext E2).cell rfl)) ?_; refine Wo rfl (opv_eql rfl rfl) ?_
        refine Wo_split_dec rfl (opv_move (v := .bool _) rfl) (fun h2 => ?_) (fun h2 => ?_); contradiction; refine Wo_skip rfl ?_; refine Wo rfl (opv_pick_f (v := .bool _) rfl rfl) ?_; refine Wo rfl (opv_move (v := .bool _) rfl) ?_
        refine Wo_skip rfl ?_; refine Wo_skip rfl ?_; refine Wo_skip rfl ?_; refine Wo rfl (opv_pick_f (v := .bool _) rfl rfl) ?_; refine Wo rfl (opv_assign (v := .bool _) rfl) ?_; refine Wo_nil ?_; refine W_cond_false rfl ?_
        refine W_seq ?_; refine W_region rfl ?_; refine Wo rfl (opv_fieldAddr Tryd.underlying26 rfl rfl Tryd.sizeOf3 rfl) ?_; refine Wo (v := .int _ _) rfl (opv_load Tryd.isAgg3 rfl ((hB1.ext E2).cell rfl)) ?_
        refine Wo rfl (opv_eql rfl rfl) ?_; refine Wo_split_dec rfl (opv_move (v := .bool _) rfl) (fun h3 => ?_) (fun h3 => ?_); contradiction; refine Wo_skip rfl ?_; refine Wo rfl (opv_pick_f (v := .bool _) rfl rfl) ?_
        refine Wo rfl (opv_move (v := .bool _) rfl) ?_; refine Wo_skip rfl ?_; refine Wo_skip rfl ?_; refine Wo_skip rfl ?_; refine Wo rfl (opv_pick_f (v := .bool _) rfl rfl) ?_; refine Wo rfl (opv_assign (v := .bool _) rfl) ?_
        refine Wo_nil ?_; refine W_cond_false rfl ?_; refine W_seq ?_; refine W_draw mixed (by kernel_rfl) rfl ?_; refine Wq_o rfl (fun _ _ => opv_fieldAddr Tryd.underlying26 rfl rfl Tryd.sizeOf3 rfl) ?_
        refine Wq_o (v := .int _ _) rfl (fun w' hw' => opv_load Tryd.isAgg3 rfl (((hB1.ext E2).ext hw').cell rfl)) ?_; refine Wq_o rfl (fun _ _ => opv_eql rfl rfl) ?_
        refine Wq_split_dec rfl (fun _ _ => opv_move (v := .bool _) rfl) (fun h4 => ?_) (fun h4 => ?_); refine Wq_o rfl (fun _ _ => opv_fieldAddr Tryd.underlying26 rfl rfl Tryd.sizeOf9 rfl) ?_
        refine Wq_o (v := .string _) rfl (fun w' hw' => opv_load Tryd.isAgg9 rfl (((hB1.ext E2).ext hw').cell rfl)) ?_; refine Wq_o rfl (fun _ _ => opv_eql_str rfl rfl) ?_; refine Wq_o rfl (fun _ _ => opv_pick_t (v := .bool _) rfl rfl) ?_
        refine Wq_split_dec rfl (fun _ _ => opv_move (v := .bool _) rfl) (fun h5 => ?_) (fun h5 => ?_); contradiction; refine Wq_skip rfl ?_; refine Wq_skip rfl ?_; refine Wq_skip rfl ?_; refine Wq_skip rfl ?_; refine Wq_skip rfl ?_
        refine Wq_skip rfl ?_; refine Wq_o rfl (fun _ _ => opv_pick_f (v := .bool _) rfl rfl) ?_; refine Wq_o rfl (fun _ _ => opv_move (v := .bool _) rfl) ?_; refine Wq_skip rfl ?_; refine Wq_skip rfl ?_; refine Wq_skip rfl ?_
        refine Wq_skip rfl ?_; refine Wq_skip rfl ?_; refine Wq_skip rfl ?_; refine Wq_skip rfl ?_; refine Wq_skip rfl ?_; refine Wq_o rfl (fun _ _ => opv_pick_f (v := .bool _) rfl rfl) ?_
        refine Wq_o rfl (fun _ _ => opv_assign (v := .bool _) rfl) ?_; refine Wq_nil (fun w3 E3 => ?_); have hs3 := E3.size; refine W_cond_false rfl ?_; refine W_skip ?_; refine W_seq ?_; refine W_region rfl ?_
        refine Wo_lit0 (XSl 3 XInt) rfl el49 Tryd.sizeOf80 ?_; rintro b2 w4 hb2 b2lt E4 hO2; have hs4 := E4.size; refine Wo rfl (opv_assign (v := .slice _ _ _) rfl) ?_; refine Wo rfl (opv_assign (v := .bool _) rfl) ?_; refine Wo_nil ?_
        refine W_ret ?_; refine at_ret (v := .tuple #[.slice _ _ _, .bool _]) rfl ?_; exact ⟨_, rfl, (((E1.trans E2).trans E3).trans E4), hO2.toB.o.mono (by omega)⟩; contradiction
  have hm : M = none := hM.trans (by simp only [madeV]; rw [if_neg (fun h => e0 h.1), if_neg (fun h => e1 h.1), if_neg (fun h => e2 h.1), if_neg (fun h => e3 h.1)])
  rw [hm, show og none = [] from rfl, show (none : Option (List (List Int))).isSome = false from rfl]
  focus
    refine W_seq ?_; refine W_region rfl ?_; refine Wo_box rfl rfl rfl ?_; rintro b1 w1 hb1 E1 hB1; have hlb1 := hB1.lt; have hs1 := E1.size; refine Wo rfl (opv_assign (v := .slice _ _ _) rfl) ?_
    refine Wo rfl (opv_assign (v := .bool _) rfl) ?_; refine Wo_nil ?_; refine W_seq ?_; refine W_region rfl ?_; refine Wo rfl (opv_fieldAddr Tryd.underlying26 rfl rfl Tryd.sizeOf9 rfl) ?_
    refine Wo (v := .string _) rfl (opv_load Tryd.isAgg9 rfl (hB1.cell rfl)) ?_; refine Wo_call rfl (opc1 (a := .string _) Tryd.call41 rfl) (k0 _) ?_; rintro _ w2 ⟨u1, rfl, E2, hO1⟩; have hs2 := E2.size
    refine Wo rfl (opv_move (v := .tuple _) rfl) ?_; refine Wo rfl (opv_extract (v := u1) rfl rfl) ?_; refine Wo rfl (opv_extract (v := .bool _) rfl rfl) ?_; refine Wo rfl (opv_assign (v := u1) rfl) ?_
    refine Wo rfl (opv_assign (v := .bool _) rfl) ?_; refine Wo_nil ?_; refine W_seq ?_; refine W_block ?_; refine W_seq ?_; refine W_region rfl ?_; refine Wo rfl (opv_fieldAddr Tryd.underlying26 rfl rfl Tryd.sizeOf3 rfl) ?_
    refine Wo (v := .int _ _) rfl (opv_load Tryd.isAgg3 rfl ((hB1.ext E2).cell rfl)) ?_; refine Wo rfl (opv_eql rfl rfl) ?_; refine Wo_split_dec rfl (opv_move (v := .bool _) rfl) (fun h1 => ?_) (fun h1 => ?_); contradiction
    refine Wo_skip rfl ?_; refine Wo_skip rfl ?_; refine Wo_skip rfl ?_; refine Wo rfl (opv_pick_f (v := .bool _) rfl rfl) ?_; refine Wo rfl (opv_move (v := .bool _) rfl) ?_; refine Wo_skip rfl ?_; refine Wo_skip rfl ?_
    refine Wo_skip rfl ?_; refine Wo rfl (opv_pick_f (v := .bool _) rfl rfl) ?_; refine Wo rfl (opv_assign (v := .bool _) rfl) ?_; refine Wo_nil ?_; refine W_cond_false rfl ?_; refine W_seq ?_; refine W_region rfl ?_
    refine Wo rfl (opv_fieldAddr Tryd.underlying26 rfl rfl Tryd.sizeOf3 rfl) ?_; refine Wo (v := .int _ _) rfl (opv_load Tryd.isAgg3 rfl ((hB1.ext E2).cell rfl)) ?_; refine Wo rfl (opv_eql rfl rfl) ?_
    refine Wo_split_dec rfl (opv_move (v := .bool _) rfl) (fun h2 => ?_) (fun h2 => ?_); contradiction; refine Wo_skip rfl ?_; refine Wo rfl (opv_pick_f (v := .bool _) rfl rfl) ?_; refine Wo rfl (opv_move (v := .bool _) rfl) ?_
    refine Wo_skip rfl ?_; refine Wo_skip rfl ?_; refine Wo_skip rfl ?_; refine Wo rfl (opv_pick_f (v := .bool _) rfl rfl) ?_; refine Wo rfl (opv_assign (v := .bool _) rfl) ?_; refine Wo_nil ?_; refine W_cond_false rfl ?_
    refine W_seq ?_; refine W_region rfl ?_; refine Wo rfl (opv_fieldAddr Tryd.underlying26 rfl rfl Tryd.sizeOf3 rfl) ?_; refine Wo (v := .int _ _) rfl (opv_load Tryd.isAgg3 rfl ((hB1.ext E2).cell rfl)) ?_
    refine Wo rfl (opv_eql rfl rfl) ?_; refine Wo_split_dec rfl (opv_move (v := .bool _) rfl) (fun h3 => ?_) (fun h3 => ?_); contradiction; refine Wo_skip rfl ?_; refine Wo rfl (opv_pick_f (v := .bool _) rfl rfl) ?_
    refine Wo rfl (opv_move (v := .bool _) rfl) ?_; refine Wo_skip rfl ?_; refine Wo_skip rfl ?_; refine Wo_skip rfl ?_; refine Wo rfl (opv_pick_f (v := .bool _) rfl rfl) ?_; refine Wo rfl (opv_assign (v := .bool _) rfl) ?_
    refine Wo_nil ?_; refine W_cond_false rfl ?_; refine W_seq ?_; refine W_draw mixed (by kernel_rfl) rfl ?_; refine Wq_o rfl (fun _ _ => opv_fieldAddr Tryd.underlying26 rfl rfl Tryd.sizeOf3 rfl) ?_
    refine Wq_o (v := .int _ _) rfl (fun w' hw' => opv_load Tryd.isAgg3 rfl (((hB1.ext E2).ext hw').cell rfl)) ?_; refine Wq_o rfl (fun _ _ => opv_eql rfl rfl) ?_
    refine Wq_split_dec rfl (fun _ _ => opv_move (v := .bool _) rfl) (fun h4 => ?_) (fun h4 => ?_); contradiction; refine Wq_skip rfl ?_; refine Wq_skip rfl ?_; refine Wq_skip rfl ?_
    refine Wq_o rfl (fun _ _ => opv_pick_f (v := .bool _) rfl rfl) ?_; refine Wq_o rfl (fun _ _ => opv_move (v := .bool _) rfl) ?_; refine Wq_skip rfl ?_; refine Wq_skip rfl ?_; refine Wq_skip rfl ?_; refine Wq_skip rfl ?_
    refine Wq_skip rfl ?_; refine Wq_skip rfl ?_; refine Wq_o rfl (fun _ _ => opv_pick_f (v := .bool _) rfl rfl) ?_; refine Wq_o rfl (fun _ _ => opv_move (v := .bool _) rfl) ?_; refine Wq_skip rfl ?_; refine Wq_skip rfl ?_
    refine Wq_skip rfl ?_; refine Wq_skip rfl ?_; refine Wq_skip rfl ?_; refine Wq_skip rfl ?_; refine Wq_skip rfl ?_; refine Wq_skip rfl ?_; refine Wq_o rfl (fun _ _ => opv_pick_f (v := .bool _) rfl rfl) ?_
    refine Wq_o rfl (fun _ _ => opv_assign (v := .bool _) rfl) ?_; refine Wq_nil (fun w3 E3 => ?_); have hs3 := E3.size; refine W_cond_false rfl ?_; refine W_skip ?_; refine W_seq ?_; refine W_region rfl ?_
    refine Wo_lit0 (XSl 3 XInt) rfl el49 Tryd.sizeOf80 ?_; rintro b2 w4 hb2 b2lt E4 hO2; have hs4 := E4.size; refine Wo rfl (opv_assign (v := .slice _ _ _) rfl) ?_; refine Wo rfl (opv_assign (v := .bool _) rfl) ?_; refine Wo_nil ?_
    refine W_ret ?_; refine at_ret (v := .tuple #[.slice _ _ _, .bool _]) rfl ?_; exact ⟨_, rfl, (((E1.trans E2).trans E3).trans E4), hO2.toB.o.mono (by omega)⟩

end Go.Proofs.YtgphoihilheoeaaDoor
set_option linter.unusedVariables false
set_option linter.unusedSimpArgs false
namespace Go.Hs
def RetDkAB (w : World) (now : List (List Int)) (past : List (List (List Int))) (b : Bool) : Value → World → Prop := fun v w' => ∃ u1 u2, v = .tuple #[.agg #[u1, u2], .bool b] ∧ Ext w w' ∧ Above w.heap.size (ESl Ints) w' u1 now ∧ Above w.heap.size (ESl (ESl Ints)) w' u2 past ∧ isCell u1 = true ∧ isCell u2 = true ∧ w.heap.size < w'.heap.size
section
variable {α : Type} {F : World → Value → α → Prop} {w : World} {b o n c k c' : Nat} {xs : List α}
theorem ESl_isC {v : Value} (h : ESl F w v xs) : isCell v = true := by obtain ⟨a, c, rfl, _⟩ := h; rfl
theorem ESl.dropS (h : ESl F w (.slice (some ⟨b, o, none⟩) n c) xs) (hk : k ≤ n) : ESl F w (.slice (some ⟨b, o + k, none⟩) (n - k) c') (xs.drop k) := by
  obtain ⟨a, c1, e1, hle, hr⟩ := h
  injection e1 with e1 e2 e3
  subst e1 e2
  refine ⟨some ⟨b, o + k, none⟩, c', by rw [List.length_drop], by rw [List.length_drop]; omega, ?_⟩
  rcases hr with rfl | ⟨b', o', e4, hr⟩
  · exact .inl (by simp)
  · injection e4 with e4
    injection e4 with e4 e5 _
    subst e4 e5
    refine .inr ⟨b, o + k, rfl, fun i hi => ?_⟩
    rw [List.length_drop] at hi
    obtain ⟨u, h1, h2⟩ := hr (k + i) (by omega)
    refine ⟨u, ?_, ?_⟩
    · rw [show o + k + i = o + (k + i) by omega]; exact h1
    · rw [List.getElem_drop]; exact h2
theorem ESl.takeS (h : ESl F w (.slice (some ⟨b, o, none⟩) n c) xs) (hk : k ≤ n) : ESl F w (.slice (some ⟨b, o, none⟩) k c') (xs.take k) := by
  obtain ⟨a, c1, e1, hle, hr⟩ := h
  injection e1 with e1 e2 e3
  subst e1 e2
  refine ⟨some ⟨b, o, none⟩, c', by rw [List.length_take, Nat.min_eq_left hk], by rw [List.length_take]; omega, ?_⟩
  rcases hr with rfl | ⟨b', o', e4, hr⟩
  · exact .inl (by simp)
  · injection e4 with e4
    injection e4 with e4 e5 _
    subst e4 e5
    refine .inr ⟨b, o, rfl, fun i hi => ?_⟩
    rw [List.length_take] at hi
    obtain ⟨u, h1, h2⟩ := hr i (by omega)
    exact ⟨u, h1, by rw [List.getElem_take]; exact h2⟩
end
/-- ... of blocks below H alone -/
def XLt {α : Type} (H : Nat) (X : World → List Nat → Value → α → Prop) : World → List Nat → Value → α → Prop := fun w fp v x => X w fp v x ∧ ∀ k ∈ fp, k < H
instance loc_XLt {α : Type} {H : Nat} {X : World → List Nat → Value → α → Prop} [Loc X] : Loc (XLt H X) := ⟨fun hk h => ⟨Loc.loc hk h.1, h.2⟩, fun h => Loc.lt h.1, fun h => Loc.cell h.1⟩
instance shows_XLt {α : Type} {H : Nat} {X : World → List Nat → Value → α → Prop} {E : World → Value → α → Prop} [Shows X E] : Shows (XLt H X) E := ⟨fun h => Shows.shows h.1⟩
theorem XAll.below {α : Type} {H : Nat} {X : World → List Nat → Value → α → Prop} {w : World} : ∀ {fs : List (List Nat)} {cs : List Value} {xs : List α}, (∀ k ∈ fs.flatten, k < H) → XAll X w fs cs xs → XAll (XLt H X) w fs cs xs
  | [], [], [], _, _ => trivial
  | f :: fs, c :: cs, x :: xs, hk, h => ⟨⟨h.1, fun k hm => hk k (by simp [hm])⟩, XAll.below (fun k hm => hk k (by simp only [List.flatten_cons, List.mem_append]; exact .inr hm)) h.2⟩
  | [], _ :: _, _, _, h => h.elim
  | [], [], _ :: _, _, h => h.elim
  | _ :: _, [], _, _, h => h.elim
  | _ :: _, _ :: _, [], _, h => h.elim
theorem XAll.over {α : Type} {H : Nat} {X : World → List Nat → Value → α → Prop} {w : World} : ∀ {fs : List (List Nat)} {cs : List Value} {xs : List α}, XAll (XLt H X) w fs cs xs → XAll X w fs cs xs ∧ ∀ k ∈ fs.flatten, k < H
  | [], [], [], _ => ⟨trivial, fun _ h => by cases h⟩
  | f :: fs, c :: cs, x :: xs, h => ⟨⟨h.1.1, (XAll.over h.2).1⟩, fun k hm => by
    simp only [List.flatten_cons, List.mem_append] at hm
    exact hm.elim (h.1.2 k) ((XAll.over h.2).2 k)⟩
  | [], _ :: _, _, h => h.elim
  | [], [], _ :: _, h => h.elim
  | _ :: _, [], _, h => h.elim
  | _ :: _, _ :: _, [], h => h.elim
/-- a block that is neither below H nor the slice's own may change -/
theorem Owned.wroteLt {α : Type} {H lo b : Nat} {e : TypeId} {X : World → List Nat → Value → α → Prop} [Loc X] {w w' : World} {v : Value} {xs : List α} (h : Owned lo (XSl e (XLt H X)) w v xs) (K : ∀ k, lo ≤ k → k ≠ b → w'.heap[k]? = w.heap[k]?) (hb : H ≤ b) (hv : v.ownBlock ≠ some b) : Owned lo (XSl e X) w' v xs := by
  obtain ⟨fp, h1, h2, cs, fps, h3, rfl, h5⟩ := h
  obtain ⟨h6, h7⟩ := h5.over
  exact ⟨_, h1, h2, cs, fps, ownsRow_loc (fun k e => K k (h2 k (by simp [e])) fun e' => hv (by rw [e, e'])) h3, rfl, h6.loc fun k hk => K k (h2 k (List.mem_append_right _ hk)) (by have := h7 k hk; omega)⟩
section
variable {α : Type} {E : World → Value → α → Prop} {X : World → List Nat → Value → α → Prop} {w w' w0 : World} {lo hi m b c i : Nat} {v u : Value} {xs ys : List α} {q : α} {e t ty : TypeId}
theorem Above.takeS {F : World → Value → α → Prop} {k n c c' o : Nat} (h : Above lo (ESl F) w (.slice (some ⟨b, o, none⟩) n c) xs) (hk : k ≤ n) : Above lo (ESl F) w (.slice (some ⟨b, o, none⟩) k c') (xs.take k) := fun w1 h1 h2 => (h w1 h1 h2).takeS hk
theorem Above.dropS {F : World → Value → α → Prop} {k n c c' o : Nat} (h : Above lo (ESl F) w (.slice (some ⟨b, o, none⟩) n c) xs) (hk : k ≤ n) : Above lo (ESl F) w (.slice (some ⟨b, o + k, none⟩) (n - k) c') (xs.drop k) := fun w1 h1 h2 => (h w1 h1 h2).dropS hk
theorem Moves.ne {α' : Type} {X' : World → List Nat → Value → α' → Prop} {xs' : List α'} {w1 : World} {v' : Value} {hi b : Nat} (h : Moves w v w' v') (h1 : OwnedB lo hi (XSl e X') w1 v xs') (h2 : hi ≤ b) (h3 : b < w.heap.size) : v'.ownBlock ≠ some b := fun e => by
  rcases h.2 with h4 | ⟨g, h4, h5⟩
  · have := own_rng h1 (h4 ▸ e); omega
  · rw [h4] at e; cases e; omega
/-- an element of an own slice -/
theorem OwnedB.elem [Loc X] {hi' : Nat} (h : OwnedB lo hi' (XSl e X) w v xs) (hi : i < xs.length) : ∃ b c u, v = .slice (some ⟨b, 0, none⟩) xs.length c ∧ xs.length ≤ c ∧ w.cell? ⟨b, i, none⟩ = some u ∧ OwnedB lo hi' X w u xs[i] ∧ lo ≤ b ∧ b < hi' ∧ isCell u = true := by
  obtain ⟨fp, h1, h2, cs, fps, h3, rfl, h5⟩ := h
  obtain ⟨f, u, h6, h7, h8⟩ := h5.at hi
  have hl := h5.len
  rcases h3.2 with ⟨rfl, h9⟩ | ⟨g, cap, cur, rfl, _, _, hc, _⟩
  · omega
  have hg : g ∈ (Value.ownBlock (.slice (some ⟨g, 0, none⟩) xs.length cap)).toList ++ fps.flatten := by simp [Value.ownBlock]
  have hm : f ∈ fps := List.mem_of_getElem? h6
  have hsub : ∀ k ∈ f, k ∈ fps.flatten := fun k hk => List.mem_flatten.2 ⟨f, hm, hk⟩
  have hnd := (List.nodup_append.1 h1).2.1
  refine ⟨g, cap, u, rfl, hc, ?_, ⟨f, ?_, fun k hk => h2 k (List.mem_append_right _ (hsub k hk)), h8⟩, (h2 g hg).1, (h2 g hg).2, h5.cells u (List.mem_of_getElem? h7)⟩
  · rw [h3.cellAt i (by omega), h7]
  · exact (List.pairwise_flatten.1 hnd).1 f hm
/-- an older row comes to an own slice -/
theorem Owned.appR [Loc X] {P : Program} {z : Value} {i : TypeInfo} (ht : P.underlying t = some (.slice e)) (hi : P.info? e = some i) (hz : i.zero = some z) (hs : i.size = 1) (hby : i.bytes ≤ 64) (hz1 : isCell z = true)
    {hi' : Nat} (h : OwnedB m hi' (XSl e X) w v xs) (a : Addr) (n c : Nat) (news : List Value) (fu : List (List Nat)) (hl : news.length = n) (hnews : ∀ j u, news[j]? = some u → w.cell? (a.add j) = some u)
    (hx : XAll X w fu news ys) (hnd : fu.flatten.Nodup) (hlf : ∀ k ∈ fu.flatten, lo ≤ k ∧ k < m)
    (hbig : xs.length + n ≤ 1099511627776) (hlo : lo ≤ m) (hmh : m ≤ hi') (hlw : lo ≤ w.heap.size) :
    ∃ v' w', (Builtin.append_ #[t, t] ty #[v, .slice (some a) n c]).run P w = .ok v' w' ∧ Owned lo (XSl e (XLt hi' X)) w' v' (xs ++ ys) ∧ w.grownBy w' v.ownBlock ∧
      (v'.ownBlock = v.ownBlock ∨ ∃ g, v'.ownBlock = some g ∧ w.heap.size ≤ g) := by
  obtain ⟨fp, hn, hB, hX⟩ := h
  have hge : ∀ k ∈ fp, lo ≤ k := fun k hk => Nat.le_trans hlo (hB k hk).1
  have hX' := hX
  have hdis' : ∀ k ∈ fu.flatten, k ∉ fp := fun k hk hm => by have := (hlf k hk).2; have := (hB k hm).1; omega
  obtain ⟨cs, fps, hr, rfl, hA⟩ := hX
  have hys := hx.len
  obtain ⟨v', w', h1, h2, h3, h4⟩ := run_app (P := P) (ty := ty) ht hi hz hs hby hz1 hr a n c news hl hnews hx.cells (by omega) (Nat.zero_le _)
  refine ⟨v', w', h1, ?_, h3, h4⟩
  have hlt := Loc.lt hX'
  have hltu := hx.lt
  have nin : ∀ k ∈ fps.flatten, some k ≠ v.ownBlock := by
    intro k hk e
    have h5 := (List.nodup_append.1 hn).2.2
    exact h5 k (by rw [← e]; simp) k hk rfl
  have ninu : ∀ k ∈ fu.flatten, some k ≠ v.ownBlock := by
    intro k hk e
    exact hdis' k hk (by rw [← e]; simp)
  refine ⟨v'.ownBlock.toList ++ (fps ++ fu).flatten, ?_, ?_, cs ++ news, fps ++ fu, ?_, rfl, ?_⟩
  · rw [List.flatten_append]
    rw [List.nodup_append] at hn
    have base : (fps.flatten ++ fu.flatten).Nodup := List.nodup_append.2 ⟨hn.2.1, hnd, fun a ha b hb hab => hdis' b hb (by subst hab; exact List.mem_append_right _ ha)⟩
    rcases h4 with h4 | ⟨g, h4, hg⟩
    · rw [h4]
      refine List.nodup_append.2 ⟨hn.1, base, fun a ha b hb hab => ?_⟩
      subst hab
      rcases List.mem_append.1 hb with hb | hb
      · exact hn.2.2 a ha a hb rfl
      · exact hdis' a hb (List.mem_append_left _ ha)
    · rw [h4]
      refine List.nodup_append.2 ⟨by simp, base, fun a ha b hb hab => ?_⟩
      subst hab
      simp at ha
      subst ha
      rcases List.mem_append.1 hb with hb | hb
      · have := hlt a (List.mem_append_right _ hb); omega
      · have := hltu a hb; omega
  · intro k hk
    rw [List.flatten_append] at hk
    rcases List.mem_append.1 hk with hk | hk
    · rcases h4 with h4 | ⟨g, h4, hg⟩
      · rw [h4] at hk; exact hge k (List.mem_append_left _ hk)
      · rw [h4] at hk; simp at hk; omega
    · rcases List.mem_append.1 hk with hk | hk
      · exact hge k (List.mem_append_right _ hk)
      · exact (hlf k hk).1
  · have : (xs ++ ys).length = xs.length + n := by rw [List.length_append]; omega
    rw [this]; exact h2
  · refine XAll.below (fun k hk => ?_) (XAll.append (hA.loc fun k hk => ?_) (hx.loc fun k hk => ?_))
    · rw [List.flatten_append] at hk
      rcases List.mem_append.1 hk with hk | hk
      · exact (hB k (List.mem_append_right _ hk)).2
      · have := (hlf k hk).2; omega
    · exact h3.block k (hlt k (List.mem_append_right _ hk)) (nin k hk)
    · exact h3.block k (hltu k hk) (ninu k hk)
variable {P : Program} {n : Nat} {N : Env → World → Prop} {ρ : Env} {all : Array Oper} {rest : List Oper} {d : Nat} {pos : String} {after : Array Edge} {g : Option (Nat × Bool)} {x s : Operand} {z : Value}
theorem Wo_app1r [Loc X] (hw : wantedE all ⟨some d, .call { callee := .builtin .append, args := #[s, x], argTypes := #[t, t] }, ty, pos, after, g⟩ ρ = true) (hel : El P t e z)
    (hv : evalE ρ s = v) (hx : evalE ρ x = .slice (some ⟨b, 0, none⟩) 1 c) (hB : Blk w b [u]) {hi : Nat} (h : OwnedB m hi (XSl e X) w v xs) (hu : OwnedB lo m X w u q)
    (hbig : xs.length + 1 ≤ 1099511627776) (hlo : lo ≤ m ∧ m ≤ hi) (hlw : lo ≤ w.heap.size) (h0 : Ext w0 w) (hl0 : w0.heap.size ≤ lo)
    (hk : ∀ v' w', Owned lo (XSl e (XLt hi X)) w' v' (xs ++ [q]) → Ext w0 w' → Moves w v w' v' → Wops P n all rest N (upd ρ d v') w') :
    Wops P n all (⟨some d, .call { callee := .builtin .append, args := #[s, x], argTypes := #[t, t] }, ty, pos, after, g⟩ :: rest) N ρ w := by
  obtain ⟨i, hi', hz, hs, hby⟩ := hel.info
  obtain ⟨fu, hn, hge, hX⟩ := hu
  have hcell : w.cell? ⟨b, 0, none⟩ = some u := hB.cell rfl
  have h' := h
  obtain ⟨v', w', h1, h2, h3, h4⟩ := Owned.appR (lo := lo) (P := P) (ty := ty) (ys := [q]) hel.und hi' hz hs hby hel.zero h ⟨b, 0, none⟩ 1 c [u] [fu] rfl (fun j u' hj => by
    cases j with
    | zero => simp at hj; subst hj; simpa [Addr.add] using hcell
    | succ j => simp at hj) ⟨hX, trivial⟩ (by simpa using hn) (by simp only [List.flatten_cons, List.flatten_nil, List.append_nil]; intro k hk; exact hge k hk) hbig hlo.1 hlo.2 hlw
  refine Wo_run (v := v') (w' := w') hw ?_ (hk v' w' h2 ((Only.grownBy (fp := v.ownBlock.toList) h3 (fun k hk => by simp [hk])).ext h0 (fun k hk => ?_)) ⟨h3, h4⟩)
  · simp only [execOp, resolve, invoke, builtin, Sem.run_bind, Sem.run_pure, Result.andThen_ok, List.map_toArray, List.map_cons, List.map_nil, hv, hx, h1]
  · have : v.ownBlock = some k := by simpa using hk
    have := own_rng h' this
    omega
end
end Go.Hs
