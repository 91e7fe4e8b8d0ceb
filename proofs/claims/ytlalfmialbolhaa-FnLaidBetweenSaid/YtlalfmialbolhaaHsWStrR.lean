/- Walks: streams by their bits, and the rest of a stream, on both sides. -/
import Derived.Test.YtlalfmialbolhaaHsWStrI
import Derived.Test.YtlalfmialbolhaaHsWFun
namespace Go.Proofs.Ytlalfmialbolhaa
open Go.Hs
set_option maxRecDepth 10000
set_option maxHeartbeats 4000000
set_option linter.unusedVariables false
set_option linter.unusedSimpArgs false

theorem streamBy_ok (w : World) (fid : FuncId) (cap : List Value) (g : Nat → Int) (a p : Nat) (ha : a ≤ 50) (hp : p ≤ 50) (hper : Per g a p) (hc : ∀ args w, Sem.run Try.prog (callFunc fid args) w = .ok (.enter fid args) w)
    (hf : ∀ (k : Nat) (w' : World), k < a + p → Ext w w' → Does Try.prog fid (.int .i64 (k : Int) :: cap) w' (Ret w' (.int .i64 (g k)))) :
    Does Try.prog 61 [.int .i64 (a : Int), .int .i64 (p : Int), .func (.func fid) [].toArray cap.toArray] w (RetS2 w 3 (shL g) (shR g)) := by
  have hp1 := hper.1
  have hsO : ∀ (w : World) (u1 u2 : Value), Ints w u1 (win g 0 a) → Ints w u2 (win g a p) → Does Try.prog 55 [.agg #[u1, u2]] w (RetS2 w 3 (shL g) (shR g)) := fun w u1 u2 h1 h2 => by
    have := shortOf_ok w u1 u2 _ _ h1 h2 (by rw [win_len]; omega) (by rw [win_len]; omega) (by rw [win_len]; omega)
    rw [bat_win hper] at this; exact this
  refine fn_of_Wc Try.func61 rfl Try.results61 Try.ntmps61 rfl Try.isAgg25 Try.sizeOf25 ?_
  focus
    refine W_seq ?_; refine W_region rfl ?_; refine Wo_alloc2 rfl flat25 ?_; rintro b1 w1 hb1 E1 hB1; have hlb1 := hB1.lt; have hs1 := E1.size; refine Wo_nil ?_; refine W_seq ?_; refine W_region rfl ?_
    refine Wo rfl (opv_build (ps := []) (cs := [_, _]) flat25 rfl rfl) ?_; refine Wo_alloc2 rfl flat25 ?_; rintro b2 w2 hb2 E2 hB2; have hlb2 := hB2.lt; have hs2 := E2.size
    refine Wo_st2 rfl Try.sizeOf25 rfl rfl (by first | rfl | assumption) (by first | rfl | assumption) hB2 (by omega) (E1.trans E2) ?_; rintro w3 E3 hB2 K1 hz1; have E4 := E2.wroteAt (E1.trans E2) E3 K1 hz1 (by omega)
    have szE4 := E4.size; have hB1 := (hB1.ext E2).of_heap (K1 _ (by omega)); refine Wo_nil ?_; refine W_seq ?_; refine W_seq ?_; refine W_region rfl ?_; refine Wo rfl (opv_move (v := .int _ _) rfl) ?_
    refine Wo rfl (opv_move (v := .int _ _) rfl) ?_; refine Wo_nil ?_; refine W_block ?_
  refine W_loop [8, 12, 13, 14, 15, 16, 17, 18, 19, 20, 21, 22, 23] (fun (k, o) => [(12, .int .i64 (k : Nat))]) (fun (k, (o : Value)) w' => Ext w1 w' ∧ w3.heap.size ≤ w'.heap.size ∧ k ≤ a ∧ Blk w' b2 [o, .slice none 0 0] ∧ Owned w3.heap.size XI w' o (win g 0 k)) (fun x => a - x.1) (0, .slice none 0 0) (by repeat (first | exact trivial | refine And.intro rfl ?_)) ?_ ?_
  · exact ⟨by assumption, Nat.le_refl _, Nat.zero_le _, by assumption, by simpa [win] using (Owned.nil : Owned w3.heap.size XI w3 (.slice none 0 0) [])⟩
  clear hB1 hB2
  rintro ⟨k, o⟩ ρj w4 ⟨E5, hs4, hk, hB2, hO⟩
  have hwl := win_len (f := g) (a := 0) (p := k)
  by_cases hka : k < a
  · have hsn : win g 0 (k + 1) = win g 0 k ++ [g k] := by rw [win_succ, Nat.zero_add]
    have hfk : ∀ (w' : World), Ext w w' → Does Try.prog fid (.int .i64 (k : Int) :: cap) w' (Ret w' (.int .i64 (g k))) := fun w' h => hf k w' (by omega) h
    focus
      have szE5 := E5.size; have szE4 := E4.size; have szE3 := E3.size; have szE2 := E2.size; have szE1 := E1.size; refine W_seq ?_; refine W_region rfl ?_; refine Wo rfl (opv_lss rfl rfl) ?_; refine Wo_nil ?_; refine W_seq ?_
      refine W_cond_dec rfl (fun h1 => ?_) (fun h1 => ?_); refine W_skip ?_; refine W_seq ?_; refine W_block ?_; refine W_seq ?_; refine W_region rfl ?_; refine Wo rfl (opv_move (v := .int _ _) rfl) ?_
      refine Wo rfl (opv_assign (v := .int _ _) rfl) ?_; refine Wo_nil ?_; refine W_held (fun _ => True) mixed rfl (by kernel_rfl) ?_; intro w5 E6 K2 hz2; have hs3 := E6.size
      refine Wh_take 0 rfl (by kernel_rfl) (by kernel_rfl) rfl (fun _ _ => opv_fieldAddr Try.underlying25 rfl rfl Try.sizeOf23 rfl) trivial ?_
      refine Wh_take 2 rfl (by kernel_rfl) (by kernel_rfl) rfl (fun _ _ => opv_move (v := .func _ _ _) rfl) trivial ?_; refine Wh_take 3 rfl (by kernel_rfl) (by kernel_rfl) rfl (fun _ _ => opv_move (v := .int _ _) rfl) trivial ?_
      refine Wh_all (rs := [1, 4]) (by kernel_rfl) rfl ?_; refine WhAll_cons rfl ?_ ?_; refine Wo (v := o) rfl (opv_load Try.isAgg23 rfl ((hB2.ext E6).cell rfl)) ?_; refine Wo_nil ?_; refine ⟨trivial, ?_⟩
      refine Wh_all (rs := [4]) (by kernel_rfl) rfl ?_; refine WhAll_cons rfl ?_ ?_; refine Wo_call rfl (opc_val1 (a := .int _ _) (by assumption) rfl rfl) (hfk _ (((E1.trans E5).trans E6))) ?_; rintro _ w6 ⟨rfl, E7⟩; have hs5 := E7.size
      refine Wo_nil ?_; refine ⟨trivial, ?_⟩; refine Wh_all (rs := [5]) (by kernel_rfl) rfl ?_; refine WhAll_cons rfl ?_ ?_
      refine Wo_buildSliceH (ps := [(0, .int _ _)]) (cs := [_]) rfl Try.underlying23 Try.sizeOf3 Try.zeroValue3 rfl rfl rfl rfl ?_; rintro b3 w7 hb3 E8 hB3 hHb3; have hlb3 := hB3.lt; have hs6 := E8.size; refine Wo_nil ?_
      refine ⟨trivial, ?_⟩; refine Wh_all (rs := [6]) (by kernel_rfl) rfl ?_; refine WhAll_cons rfl ?_ ?_
      refine Wo_app1 rfl el23 rfl rfl hB3 (hO.toB.ext ((E6.trans E7).trans E8)) Owned.int (Nat.le_refl _) (by first | omega | (simp <;> omega)) (by omega) (by omega) ((((E1.trans E5).trans E6).trans E7).trans E8) (by omega) ?_
      have hT1 := (hO.toB.ext ((E6.trans E7).trans E8)); rintro v1 w8 hO E9 M1; have E10 := M1.ext hT1 (((E5.trans E6).trans E7).trans E8) (by omega); have szE10 := E10.size
      have hB1 := (hB1.ext (((E5.trans E6).trans E7).trans E8)).moves M1 hT1 (by omega); have hB2 := (hB2.ext ((E6.trans E7).trans E8)).moves M1 hT1 (by omega); have hB3 := hB3.moves M1 hT1 (by omega); have hs7 := E9.size
      refine Wo_nil ?_; refine ⟨trivial, ?_⟩; refine Wh_take 7 rfl (by kernel_rfl) (by kernel_rfl) rfl (fun _ _ => opv_fieldAddr Try.underlying25 rfl rfl Try.sizeOf23 rfl) trivial ?_; refine Wh_all (rs := [8]) (by kernel_rfl) rfl ?_
      refine WhAll_cons rfl ?_ ?_; refine Wo_st (v := v1) rfl Try.sizeOf23 rfl rfl (OwnedB.isC hO.toB) hB2 (by simp) (by omega) E9 ?_; rintro w9 E11 hB2 K3 hz3; have E12 := E10.wroteAt E9 E11 K3 hz3 (by omega); have szE12 := E12.size
      simp only [List.set] at hB2; have hO := hO.toB.wrote K3 (by omega); have hB1 := hB1.of_heap (K3 _ (by omega)); have hB3 := hB3.of_heap (K3 _ (by omega)); refine Wo_nil ?_; refine ⟨trivial, ?_⟩; refine Wh_done (by kernel_rfl) ?_
      refine W_region rfl ?_; refine Wo rfl (opv_add rfl rfl (by omega)) ?_; refine Wo rfl (opv_move (v := .int _ _) rfl) ?_; refine Wo_nil ?_; rotate_left; exact WhAll_nil; exact WhAll_nil; exact WhAll_nil; exact WhAll_nil
      refine WhAll_cons rfl ?_ ?_; refine Wo_call rfl (opc_val1 (a := .int _ _) (by assumption) rfl rfl) (hfk _ (((E1.trans E5).trans E6))) ?_; rintro _ w6 ⟨rfl, E7⟩; have hs5 := E7.size; refine Wo_nil ?_; refine ⟨trivial, ?_⟩
      refine Wh_all (rs := [1, 5]) (by kernel_rfl) rfl ?_; refine WhAll_cons rfl ?_ ?_; refine Wo (v := o) rfl (opv_load Try.isAgg23 rfl ((hB2.ext (E6.trans E7)).cell rfl)) ?_; refine Wo_nil ?_; refine ⟨trivial, ?_⟩
      refine Wh_all (rs := [5]) (by kernel_rfl) rfl ?_; refine WhAll_cons rfl ?_ ?_; refine Wo_buildSliceH (ps := [(0, .int _ _)]) (cs := [_]) rfl Try.underlying23 Try.sizeOf3 Try.zeroValue3 rfl rfl rfl rfl ?_
      rintro b3 w7 hb3 E8 hB3 hHb3; have hlb3 := hB3.lt; have hs6 := E8.size; refine Wo_nil ?_; refine ⟨trivial, ?_⟩; refine Wh_all (rs := [6]) (by kernel_rfl) rfl ?_; refine WhAll_cons rfl ?_ ?_
      refine Wo_app1 rfl el23 rfl rfl hB3 (hO.toB.ext ((E6.trans E7).trans E8)) Owned.int (Nat.le_refl _) (by first | omega | (simp <;> omega)) (by omega) (by omega) ((((E1.trans E5).trans E6).trans E7).trans E8) (by omega) ?_
      have hT1 := (hO.toB.ext ((E6.trans E7).trans E8)); rintro v1 w8 hO E9 M1; have E10 := M1.ext hT1 (((E5.trans E6).trans E7).trans E8) (by omega); have szE10 := E10.size
      have hB1 := (hB1.ext (((E5.trans E6).trans E7).trans E8)).moves M1 hT1 (by omega); have hB2 := (hB2.ext ((E6.trans E7).trans E8)).moves M1 hT1 (by omega); have hB3 := hB3.moves M1 hT1 (by omega); have hs7 := E9.size
      refine Wo_nil ?_; refine ⟨trivial, ?_⟩; refine Wh_take 7 rfl (by kernel_rfl) (by kernel_rfl) rfl (fun _ _ => opv_fieldAddr Try.underlying25 rfl rfl Try.sizeOf23 rfl) trivial ?_; refine Wh_all (rs := [8]) (by kernel_rfl) rfl ?_
      refine WhAll_cons rfl ?_ ?_; refine Wo_st (v := v1) rfl Try.sizeOf23 rfl rfl (OwnedB.isC hO.toB) hB2 (by simp) (by omega) E9 ?_; rintro w9 E11 hB2 K3 hz3; have E12 := E10.wroteAt E9 E11 K3 hz3 (by omega); have szE12 := E12.size
      simp only [List.set] at hB2; have hO := hO.toB.wrote K3 (by omega); have hB1 := hB1.of_heap (K3 _ (by omega)); have hB3 := hB3.of_heap (K3 _ (by omega)); refine Wo_nil ?_; refine ⟨trivial, ?_⟩; refine Wh_done (by kernel_rfl) ?_
      refine W_region rfl ?_; refine Wo rfl (opv_add rfl rfl (by omega)) ?_; refine Wo rfl (opv_move (v := .int _ _) rfl) ?_; refine Wo_nil ?_; rotate_left; exact WhAll_nil; exact WhAll_nil; exact WhAll_nil; refine WhAll_cons rfl ?_ ?_
      refine Wo_buildSliceH (ps := [(0, .int _ _)]) (cs := [_]) rfl Try.underlying23 Try.sizeOf3 Try.zeroValue3 rfl rfl rfl rfl ?_; rintro b3 w7 hb3 E8 hB3 hHb3; have hlb3 := hB3.lt; have hs6 := E8.size; refine Wo_nil ?_
      refine ⟨trivial, ?_⟩; refine Wh_all (rs := [1]) (by kernel_rfl) rfl ?_; refine WhAll_cons rfl ?_ ?_; refine Wo (v := o) rfl (opv_load Try.isAgg23 rfl ((hB2.ext ((E6.trans E7).trans E8)).cell rfl)) ?_; refine Wo_nil ?_
      refine ⟨trivial, ?_⟩; refine Wh_all (rs := [6]) (by kernel_rfl) rfl ?_; refine WhAll_cons rfl ?_ ?_
      refine Wo_app1 rfl el23 rfl rfl hB3 (hO.toB.ext ((E6.trans E7).trans E8)) Owned.int (Nat.le_refl _) (by first | omega | (simp <;> omega)) (by omega) (by omega) ((((E1.trans E5).trans E6).trans E7).trans E8) (by omega) ?_
      have hT1 := (hO.toB.ext ((E6.trans E7).trans E8)); rintro v1 w8 hO E9 M1; have E10 := M1.ext hT1 (((E5.trans E6).trans E7).trans E8) (by omega); have szE10 := E10.size
      have hB1 := (hB1.ext (((E5.trans E6).trans E7).trans E8)).moves M1 hT1 (by omega); have hB2 := (hB2.ext ((E6.trans E7).trans E8)).moves M1 hT1 (by omega); have hB3 := hB3.moves M1 hT1 (by omega); have hs7 := E9.size
      refine Wo_nil ?_; refine ⟨trivial, ?_⟩; refine Wh_take 7 rfl (by kernel_rfl) (by kernel_rfl) rfl (fun _ _ => opv_fieldAddr Try.underlying25 rfl rfl Try.sizeOf23 rfl) trivial ?_; refine Wh_all (rs := [8]) (by kernel_rfl) rfl ?_
      refine WhAll_cons rfl ?_ ?_; refine Wo_st (v := v1) rfl Try.sizeOf23 rfl rfl (OwnedB.isC hO.toB) hB2 (by simp) (by omega) E9 ?_; rintro w9 E11 hB2 K3 hz3; have E12 := E10.wroteAt E9 E11 K3 hz3 (by omega); have szE12 := E12.size
      simp only [List.set] at hB2; have hO := hO.toB.wrote K3 (by omega); have hB1 := hB1.of_heap (K3 _ (by omega)); have hB3 := hB3.of_heap (K3 _ (by omega)); refine Wo_nil ?_; refine ⟨trivial, ?_⟩; refine Wh_done (by kernel_rfl) ?_
      refine W_region rfl ?_; refine Wo rfl (opv_add rfl rfl (by omega)) ?_; refine Wo rfl (opv_move (v := .int _ _) rfl) ?_; refine Wo_nil ?_; rotate_left; exact WhAll_nil; exact WhAll_nil; exact WhAll_nil; exact WhAll_nil
      exact WhAll_nil; (exfalso; omega)
    all_goals
      refine ⟨(k + 1, v1), by repeat (first | exact trivial | refine And.intro rfl ?_), by repeat (first | with_reducible exact Same.refl | refine Same.upd rfl ?_ | refine Same.upds rfl ?_ | refine Same.mix rfl ?_), ?_, ?_⟩
      · exact ⟨by assumption, by have := M1.1.size; omega, by omega, by assumption, by rw [hsn]; exact OwnedB.o (by assumption)⟩
      · simp only; omega
  · obtain rfl : k = a := by omega
    focus
      have szE5 := E5.size; have szE4 := E4.size; have szE3 := E3.size; have szE2 := E2.size; have szE1 := E1.size; refine W_seq ?_; refine W_region rfl ?_; refine Wo rfl (opv_lss rfl rfl) ?_; refine Wo_nil ?_; refine W_seq ?_
      refine W_cond_dec rfl (fun h1 => ?_) (fun h1 => ?_); (exfalso; omega); refine W_exit ?_; refine exitX_same ?_; refine W_seq ?_; refine W_seq ?_; refine W_region rfl ?_; refine Wo rfl (opv_move (v := .int _ _) rfl) ?_
      refine Wo rfl (opv_move (v := .int _ _) rfl) ?_; refine Wo_nil ?_; refine W_block ?_
    refine W_loop [9, 25, 26, 27, 28, 29, 30, 31, 32, 33, 34, 35, 36, 37, 38] (fun (j, q) => [(25, .int .i64 (j : Nat))]) (fun (j, (q : Value)) w' => Ext w1 w' ∧ w4.heap.size ≤ w'.heap.size ∧ j ≤ p ∧ Blk w' b2 [o, q] ∧ OwnedB w3.heap.size w4.heap.size XI w' o (win g 0 k) ∧ Owned w4.heap.size XI w' q (win g k j)) (fun x => p - x.1) (0, .slice none 0 0) (by repeat (first | exact trivial | refine And.intro rfl ?_)) ?_ ?_
    · exact ⟨E5, Nat.le_refl _, Nat.zero_le _, hB2, hO.toB, by simpa [win] using (Owned.nil : Owned w4.heap.size XI w4 (.slice none 0 0) [])⟩
    clear hB2 hO
    rintro ⟨j, q⟩ ρm w5 ⟨E6, hs5, hj, hB2, hO, hQ⟩
    have hwl2 := win_len (f := g) (a := k) (p := j)
    by_cases hjp : j < p
    · have hsn : win g k (j + 1) = win g k j ++ [g (k + j)] := win_succ
      have hfk : ∀ (w' : World), Ext w w' → Does Try.prog fid (.int .i64 ((k : Int) + (j : Int)) :: cap) w' (Ret w' (.int .i64 (g (k + j)))) := fun w' h => hf (k + j) w' (by omega) h
      focus
        have szE6 := E6.size; have szE5 := E5.size; have szE4 := E4.size; have szE3 := E3.size; have szE2 := E2.size; have szE1 := E1.size; refine W_seq ?_; refine W_region rfl ?_; refine Wo rfl (opv_lss rfl rfl) ?_; refine Wo_nil ?_
        refine W_seq ?_; refine W_cond_dec rfl (fun h2 => ?_) (fun h2 => ?_); refine W_skip ?_; refine W_seq ?_; refine W_block ?_; refine W_seq ?_; refine W_region rfl ?_; refine Wo rfl (opv_move (v := .int _ _) rfl) ?_
        refine Wo rfl (opv_assign (v := .int _ _) rfl) ?_; refine Wo_nil ?_; refine W_held (fun _ => True) mixed rfl (by kernel_rfl) ?_; intro w6 E7 K2 hz2; have hs3 := E7.size
        refine Wh_take 0 rfl (by kernel_rfl) (by kernel_rfl) rfl (fun _ _ => opv_fieldAddr Try.underlying25 rfl rfl Try.sizeOf23 rfl) trivial ?_
        refine Wh_take 2 rfl (by kernel_rfl) (by kernel_rfl) rfl (fun _ _ => opv_move (v := .func _ _ _) rfl) trivial ?_; refine Wh_take 3 rfl (by kernel_rfl) (by kernel_rfl) rfl (fun _ _ => opv_move (v := .int _ _) rfl) trivial ?_
        refine Wh_take 4 rfl (by kernel_rfl) (by kernel_rfl) rfl (fun _ _ => opv_move (v := .int _ _) rfl) trivial ?_; refine Wh_take 5 rfl (by kernel_rfl) (by kernel_rfl) rfl (fun _ _ => opv_add rfl rfl (by omega)) trivial ?_
        refine Wh_all (rs := [1, 6]) (by kernel_rfl) rfl ?_; refine WhAll_cons rfl ?_ ?_; refine Wo (v := q) rfl (opv_load Try.isAgg23 rfl ((hB2.ext E7).cell rfl)) ?_; refine Wo_nil ?_; refine ⟨trivial, ?_⟩
        refine Wh_all (rs := [6]) (by kernel_rfl) rfl ?_; refine WhAll_cons rfl ?_ ?_; refine Wo_call rfl (opc_val1 (a := .int _ _) (by assumption) rfl rfl) (hfk _ (((E1.trans E6).trans E7))) ?_; rintro _ w7 ⟨rfl, E8⟩; have hs6 := E8.size
        refine Wo_nil ?_; refine ⟨trivial, ?_⟩; refine Wh_all (rs := [7]) (by kernel_rfl) rfl ?_; refine WhAll_cons rfl ?_ ?_
        refine Wo_buildSliceH (ps := [(0, .int _ _)]) (cs := [_]) rfl Try.underlying23 Try.sizeOf3 Try.zeroValue3 rfl rfl rfl rfl ?_; rintro b3 w8 hb3 E9 hB3 hHb3; have hlb3 := hB3.lt; have hs7 := E9.size; refine Wo_nil ?_
        refine ⟨trivial, ?_⟩; refine Wh_all (rs := [8]) (by kernel_rfl) rfl ?_; refine WhAll_cons rfl ?_ ?_
        refine Wo_app1 rfl el23 rfl rfl hB3 (hQ.toB.ext ((E7.trans E8).trans E9)) Owned.int (Nat.le_refl _) (by first | omega | (simp <;> omega)) (by omega) (by omega) ((((E1.trans E6).trans E7).trans E8).trans E9) (by omega) ?_
        have hT1 := (hQ.toB.ext ((E7.trans E8).trans E9)); rintro v1 w9 hQ E10 M1; have E11 := M1.ext hT1 (((E6.trans E7).trans E8).trans E9) (by omega); have szE11 := E11.size
        have hB1 := (hB1.ext (((E6.trans E7).trans E8).trans E9)).moves M1 hT1 (by omega); have hB2 := (hB2.ext ((E7.trans E8).trans E9)).moves M1 hT1 (by omega); have hO := (hO.ext ((E7.trans E8).trans E9)).moves M1 hT1 (by omega)
        have hB3 := hB3.moves M1 hT1 (by omega); have hs8 := E10.size; refine Wo_nil ?_; refine ⟨trivial, ?_⟩
        refine Wh_take 9 rfl (by kernel_rfl) (by kernel_rfl) rfl (fun _ _ => opv_fieldAddr Try.underlying25 rfl rfl Try.sizeOf23 rfl) trivial ?_; refine Wh_all (rs := [10]) (by kernel_rfl) rfl ?_; refine WhAll_cons rfl ?_ ?_
        refine Wo_st (v := v1) rfl Try.sizeOf23 rfl rfl (OwnedB.isC hQ.toB) hB2 (by simp) (by omega) E10 ?_; rintro w10 E12 hB2 K3 hz3; have E13 := E11.wroteAt E10 E12 K3 hz3 (by omega); have szE13 := E13.size; simp only [List.set] at hB2
        have hQ := hQ.toB.wrote K3 (by omega); have hB1 := hB1.of_heap (K3 _ (by omega)); have hO := hO.wrote K3 (by omega); have hB3 := hB3.of_heap (K3 _ (by omega)); refine Wo_nil ?_; refine ⟨trivial, ?_⟩
        refine Wh_done (by kernel_rfl) ?_; refine W_region rfl ?_; refine Wo rfl (opv_add rfl rfl (by omega)) ?_; refine Wo rfl (opv_move (v := .int _ _) rfl) ?_; refine Wo_nil ?_; rotate_left; exact WhAll_nil; exact WhAll_nil
        exact WhAll_nil; exact WhAll_nil; refine WhAll_cons rfl ?_ ?_; refine Wo_call rfl (opc_val1 (a := .int _ _) (by assumption) rfl rfl) (hfk _ (((E1.trans E6).trans E7))) ?_; rintro _ w7 ⟨rfl, E8⟩; have hs6 := E8.size; refine Wo_nil ?_
        refine ⟨trivial, ?_⟩; refine Wh_all (rs := [1, 7]) (by kernel_rfl) rfl ?_; refine WhAll_cons rfl ?_ ?_; refine Wo (v := q) rfl (opv_load Try.isAgg23 rfl ((hB2.ext (E7.trans E8)).cell rfl)) ?_; refine Wo_nil ?_; refine ⟨trivial, ?_⟩
        refine Wh_all (rs := [7]) (by kernel_rfl) rfl ?_; refine WhAll_cons rfl ?_ ?_; refine Wo_buildSliceH (ps := [(0, .int _ _)]) (cs := [_]) rfl Try.underlying23 Try.sizeOf3 Try.zeroValue3 rfl rfl rfl rfl ?_
        rintro b3 w8 hb3 E9 hB3 hHb3; have hlb3 := hB3.lt; have hs7 := E9.size; refine Wo_nil ?_; refine ⟨trivial, ?_⟩; refine Wh_all (rs := [8]) (by kernel_rfl) rfl ?_; refine WhAll_cons rfl ?_ ?_
        refine Wo_app1 rfl el23 rfl rfl hB3 (hQ.toB.ext ((E7.trans E8).trans E9)) Owned.int (Nat.le_refl _) (by first | omega | (simp <;> omega)) (by omega) (by omega) ((((E1.trans E6).trans E7).trans E8).trans E9) (by omega) ?_
        have hT1 := (hQ.toB.ext ((E7.trans E8).trans E9)); rintro v1 w9 hQ E10 M1; have E11 := M1.ext hT1 (((E6.trans E7).trans E8).trans E9) (by omega); have szE11 := E11.size
        have hB1 := (hB1.ext (((E6.trans E7).trans E8).trans E9)).moves M1 hT1 (by omega); have hB2 := (hB2.ext ((E7.trans E8).trans E9)).moves M1 hT1 (by omega); have hO := (hO.ext ((E7.trans E8).trans E9)).moves M1 hT1 (by omega)
        have hB3 := hB3.moves M1 hT1 (by omega); have hs8 := E10.size; refine Wo_nil ?_; refine ⟨trivial, ?_⟩
        refine Wh_take 9 rfl (by kernel_rfl) (by kernel_rfl) rfl (fun _ _ => opv_fieldAddr Try.underlying25 rfl rfl Try.sizeOf23 rfl) trivial ?_; refine Wh_all (rs := [10]) (by kernel_rfl) rfl ?_; refine WhAll_cons rfl ?_ ?_
        refine Wo_st (v := v1) rfl Try.sizeOf23 rfl rfl (OwnedB.isC hQ.toB) hB2 (by simp) (by omega) E10 ?_; rintro w10 E12 hB2 K3 hz3; have E13 := E11.wroteAt E10 E12 K3 hz3 (by omega); have szE13 := E13.size; simp only [List.set] at hB2
        have hQ := hQ.toB.wrote K3 (by omega); have hB1 := hB1.of_heap (K3 _ (by omega)); have hO := hO.wrote K3 (by omega); have hB3 := hB3.of_heap (K3 _ (by omega)); refine Wo_nil ?_; refine ⟨trivial, ?_⟩
        refine Wh_done (by kernel_rfl) ?_; refine W_region rfl ?_; refine Wo rfl (opv_add rfl rfl (by omega)) ?_; refine Wo rfl (opv_move (v := .int _ _) rfl) ?_; refine Wo_nil ?_; rotate_left; exact WhAll_nil; exact WhAll_nil
        exact WhAll_nil; refine WhAll_cons rfl ?_ ?_; refine Wo_buildSliceH (ps := [(0, .int _ _)]) (cs := [_]) rfl Try.underlying23 Try.sizeOf3 Try.zeroValue3 rfl rfl rfl rfl ?_; rintro b3 w8 hb3 E9 hB3 hHb3; have hlb3 := hB3.lt
        have hs7 := E9.size; refine Wo_nil ?_; refine ⟨trivial, ?_⟩; refine Wh_all (rs := [1]) (by kernel_rfl) rfl ?_; refine WhAll_cons rfl ?_ ?_
        refine Wo (v := q) rfl (opv_load Try.isAgg23 rfl ((hB2.ext ((E7.trans E8).trans E9)).cell rfl)) ?_; refine Wo_nil ?_; refine ⟨trivial, ?_⟩; refine Wh_all (rs := [8]) (by kernel_rfl) rfl ?_; refine WhAll_cons rfl ?_ ?_
        refine Wo_app1 rfl el23 rfl rfl hB3 (hQ.toB.ext ((E7.trans E8).trans E9)) Owned.int (Nat.le_refl _) (by first | omega | (simp <;> omega)) (by omega) (by omega) ((((E1.trans E6).trans E7).trans E8).trans E9) (by omega) ?_
        have hT1 := (hQ.toB.ext ((E7.trans E8).trans E9)); rintro v1 w9 hQ E10 M1; have E11 := M1.ext hT1 (((E6.trans E7).trans E8).trans E9) (by omega); have szE11 := E11.size
        have hB1 := (hB1.ext (((E6.trans E7).trans E8).trans E9)).moves M1 hT1 (by omega); have hB2 := (hB2.ext ((E7.trans E8).trans E9)).moves M1 hT1 (by omega); have hO := (hO.ext ((E7.trans E8).trans E9)).moves M1 hT1 (by omega)
        have hB3 := hB3.moves M1 hT1 (by omega); have hs8 := E10.size; refine Wo_nil ?_; refine ⟨trivial, ?_⟩
        refine Wh_take 9 rfl (by kernel_rfl) (by kernel_rfl) rfl (fun _ _ => opv_fieldAddr Try.underlying25 rfl rfl Try.sizeOf23 rfl) trivial ?_; refine Wh_all (rs := [10]) (by kernel_rfl) rfl ?_; refine WhAll_cons rfl ?_ ?_
        refine Wo_st (v := v1) rfl Try.sizeOf23 rfl rfl (OwnedB.isC hQ.toB) hB2 (by simp) (by omega) E10 ?_; rintro w10 E12 hB2 K3 hz3; have E13 := E11.wroteAt E10 E12 K3 hz3 (by omega); have szE13 := E13.size; simp only [List.set] at hB2
        have hQ := hQ.toB.wrote K3 (by omega); have hB1 := hB1.of_heap (K3 _ (by omega)); have hO := hO.wrote K3 (by omega); have hB3 := hB3.of_heap (K3 _ (by omega)); refine Wo_nil ?_; refine ⟨trivial, ?_⟩
        refine Wh_done (by kernel_rfl) ?_; refine W_region rfl ?_; refine Wo rfl (opv_add rfl rfl (by omega)) ?_; refine Wo rfl (opv_move (v := .int _ _) rfl) ?_; refine Wo_nil ?_; rotate_left; exact WhAll_nil; exact WhAll_nil
        exact WhAll_nil; exact WhAll_nil; exact WhAll_nil; (exfalso; omega)
      all_goals
        refine ⟨(j + 1, v1), by repeat (first | exact trivial | refine And.intro rfl ?_), by repeat (first | with_reducible exact Same.refl | refine Same.upd rfl ?_ | refine Same.upds rfl ?_ | refine Same.mix rfl ?_), ?_, ?_⟩
        · exact ⟨by assumption, by have := M1.1.size; omega, by omega, by assumption, by assumption, by rw [hsn]; exact OwnedB.o (by assumption)⟩
        · simp only; omega
    · obtain rfl : j = p := by omega
      focus
        have szE6 := E6.size; have szE5 := E5.size; have szE4 := E4.size; have szE3 := E3.size; have szE2 := E2.size; have szE1 := E1.size; refine W_seq ?_; refine W_region rfl ?_; refine Wo rfl (opv_lss rfl rfl) ?_; refine Wo_nil ?_
        refine W_seq ?_; refine W_cond_dec rfl (fun h2 => ?_) (fun h2 => ?_); (exfalso; omega); refine W_exit ?_; refine exitX_same ?_; refine W_seq ?_; refine W_region rfl ?_
        refine Wo (v := .agg _) rfl (opv_load2 Try.isAgg25 Try.sizeOf25 rfl hB2) ?_; refine Wo_call rfl (opc1 (a := .agg _) Try.call55 rfl) (hsO _ _ _ ((OwnedB.read hO)) ((Owned.read hQ))) ?_; rintro _ w6 ⟨u1, q1, rfl, E7, hO1, hQ1, hd1⟩
        have icu1 := OwnedB.isC (Owned.toB hO1); have cpu1 := OwnedB.capOk (Owned.toB hO1); have icq1 := OwnedB.isC (Owned.toB hQ1); have cpq1 := OwnedB.capOk (Owned.toB hQ1); have hs3 := E7.size
        refine Wo_st2 rfl Try.sizeOf25 rfl rfl (by first | rfl | assumption) (by first | rfl | assumption) (hB1.ext (E6.trans E7)) (by omega) ((E1.trans E6).trans E7) ?_; rintro w7 E8 hB1 K2 hz2
        have hB2 := (hB2.ext E7).of_heap (K2 _ (by omega)); have hO := (hO.ext E7).wrote K2 (by omega); have hQ := (hQ.toB.ext E7).wrote K2 (by omega); have hO1 := hO1.toB.wrote K2 (by omega); have hQ1 := hQ1.toB.wrote K2 (by omega)
        refine Wo_nil ?_; refine W_ret ?_
      exact ⟨_, _, _, rfl, by assumption, _, _, rfl, by assumption, hO1.o.mono (by omega), hQ1.o.mono (by omega), hd1⟩

end Go.Proofs.Ytlalfmialbolhaa
